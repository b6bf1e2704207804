/- The pure statement of FnExactSchemaPrint: the printed functions answer as the law says, for all arguments. No condition. -/
import Derived.Test.YtbmcjgkppjnafaaCore
import Derived.Test.YtbmcjgkppjnafaaPFnExactSchemaPrintx
import Derived.Test.YtbmcjgkppjnafaaArgFnExactSchemaPrint
namespace Go.Proofs.Ytbmcjgkppjnafaa.Pure
open Go.RowKit Go.Proofs.Ytbmcjgkppjnafaa.PFnExactSchemaPrint Go.Proofs.Ytbmcjgkppjnafaa.Core Go.Proofs.YtbmcjgkppjnafaaW.PrintWords Go.Proofs.YtbmcjgkppjnafaaW.PrintLast Go.Proofs.YtbmcjgkppjnafaaW.PrintMore Go.Proofs.YtbmcjgkppjnafaaW.PrintMore2 Go.Proofs.Ytbmcjgkppjnafaa.AFnExactSchemaPrint
set_option linter.unusedVariables false
set_option linter.unusedSimpArgs false
def cvCol (x : S31) : S34 := ⟨x.f0, x.f1, x.f2, x.f3⟩
theorem toColS_ev (l : List S31) (hl : l.length ≤ 1048576) : Ev (fun k => laws_toColS.f k l) (l.map cvCol) := by
  unfold laws_toColS.f
  refine Ev.pos (by omega) (Ev.pos (by omega) ?_)
  refine copy_loop (fun k out i => laws_toColS.l0 k l out i) l cvCol (fun out i r h ho hr => ?_) (fun out ho => ?_) (List.replicate ((l.length : Int)).toNat z34) (by simp)
  · refine Ev.step (fun k => by rw [laws_toColS.l0]) ?_
    refine Ev.pos (by omega) (Ev.pos (by omega) (Ev.here rfl (Ev.pos (by omega) ?_)))
    rw [wrap64_id (by omega) (by omega)]
    have e : rd_T31 l (i : Int) = l[i] := getD_eq (by simpa using h)
    simp only [e]
    simpa [cvCol] using hr
  · exact Ev.step (fun k => by rw [laws_toColS.l0]) (by exact Ev.neg (by omega) (Ev.now _))
theorem szCol_some (x : S31) (hw : w31 x) (c : Int) (h0 : 0 ≤ c) (h1 : c ≤ 1048576) : ∃ r, laws_szCol.f x.f0 x.f1 x.f2 x.f3 c = some r ∧ r ≤ c := by
  have b0 : (x.f0.size : Int) ≤ 9223372036854775807 := by have := hw.1; unfold maxLen at this; omega
  unfold laws_szCol.f
  rw [wrap64_id (x := c - (x.f0.size : Int)) (by omega) (by omega)]
  by_cases n0 : c - (x.f0.size : Int) < 0
  · exact ⟨-1, by simp [n0], by omega⟩
  simp only [if_neg n0, Option.bind_some]
  exact ⟨_, rfl, by omega⟩
theorem szColS_ev (l : List S31) (hw : l.length ≤ maxLen) (ht : ∀ x ∈ l, w31 x) (c : Int) (h0 : 0 ≤ c) (h1 : c ≤ 1048576) : ∃ r, Ev (fun k => laws_szColS.f k l c) r ∧ r ≤ c ∧ (0 ≤ r → r + l.length ≤ c) := by
  have hm : l.length ≤ 9223372036854775807 := by unfold maxLen at hw; omega
  unfold laws_szColS.f
  rw [wrap64_id (by omega) (by omega)]
  by_cases hn : c - (l.length : Int) < 0
  · exact ⟨-1, Ev.pos hn (Ev.now _), by omega, by omega⟩
  · obtain ⟨r, hr, hrc⟩ := budget_loop (fun k c i => laws_szColS.l0 k l c i) l.length (fun c i hc0 hc1 hi => by
      have e : rd_T31 l (i : Int) = l[i] := getD_eq (by simpa using hi)
      obtain ⟨c', hc', hle⟩ := szCol_some l[i] (ht l[i] (List.getElem_mem hi)) c hc0 hc1
      refine ⟨c', hle, fun hneg => ?_, fun hpos r hr => ?_⟩
      · exact Ev.step (fun k => by rw [laws_szColS.l0]) (by exact Ev.pos (by omega) (Ev.pos (by omega) (Ev.here (by rw [e]; exact hc') (Ev.pos hneg (Ev.now _)))))
      · refine Ev.step (fun k => by rw [laws_szColS.l0]) ?_
        refine Ev.pos (by omega) (Ev.pos (by omega) (Ev.here (by rw [e]; exact hc') (Ev.neg (by omega) ?_)))
        rw [wrap64_id (by omega) (by omega)]
        simpa using hr)
      (fun c => Ev.step (fun k => by rw [laws_szColS.l0]) (by exact Ev.neg (by omega) (Ev.now _))) (c - l.length) (by omega) (by omega)
    exact ⟨r, Ev.neg hn hr, by omega, by omega⟩
theorem eqCol_ev (a : S34) : laws_eqCol.f a.f0 a.f1 a.f2 a.f3 a.f0 a.f1 a.f2 a.f3 = some true := by
  unfold laws_eqCol.f
  simp
theorem eqColS_ev (l : List S34) (hl : l.length ≤ 9223372036854775806) : Ev (fun k => laws_eqColS.f k l l) true := by
  unfold laws_eqColS.f
  refine Ev.pos rfl ?_
  refine same_loop (fun k i => laws_eqColS.l0 k l l i) l.length (fun i r h hr => ?_) ?_
  · refine Ev.step (fun k => by rw [laws_eqColS.l0]) ?_
    refine Ev.pos (by omega) (Ev.pos (by omega) (Ev.pos (by omega) (Ev.here (eqCol_ev _) (Ev.pos rfl ?_))))
    rw [wrap64_id (by omega) (by omega)]
    simpa using hr
  · exact Ev.step (fun k => by rw [laws_eqColS.l0]) (by exact Ev.neg (by omega) (Ev.now _))
def tOk (t : Int) : Bool := decide (t = 0 ∨ t = 1 ∨ t = 2 ∨ t = 5 ∨ t = 6)
theorem l5Type_some (t : Int) : spec_l5Type.f t = some (tOk t) := by
  unfold spec_l5Type.f
  (repeat' split) <;> simp_all [tOk]
theorem l1In_same (x lo hi : Int) : (if x ≥ lo then some (decide (x ≤ hi)) else some false) = some (decide (lo ≤ x ∧ x ≤ hi)) := by
  by_cases h : x ≥ lo
  · rw [if_pos h]; congr 1; simp; omega
  · rw [if_neg h]; congr 1; symm; simp; omega
theorem within_some (x lo hi : Int) : impl_within.f x lo hi = some (decide (lo ≤ x ∧ x ≤ hi)) := by unfold impl_within.f; exact l1In_same x lo hi
theorem typeOk_some (t : Int) : impl_TypeOk.f t = some (tOk t) := by
  unfold impl_TypeOk.f
  rw [within_some]
  simp only [Option.bind_some]
  by_cases h : 0 ≤ t ∧ t ≤ 2
  · rw [if_pos (by simpa using h)]
    have : t = 0 ∨ t = 1 ∨ t = 2 := by omega
    rcases this with rfl | rfl | rfl <;> rfl
  · rw [if_neg (by simpa using h)]
    by_cases h5 : t = 5
    · subst h5; rfl
    · rw [if_neg h5]
      by_cases h6 : t = 6
      · subst h6; rfl
      · have h0 : t ≠ 0 := by omega
        have h1 : t ≠ 1 := by omega
        have h2 : t ≠ 2 := by omega
        simp [tOk, h0, h1, h2, h5, h6]
theorem l1In_some (x lo hi : Int) : spec_l1In.f x lo hi = some (decide (lo ≤ x ∧ x ≤ hi)) := by unfold spec_l1In.f; exact l1In_same x lo hi
def nameOk (b : ByteArray) : Bool := decide (1 ≤ (b.size : Int) ∧ (b.size : Int) ≤ 20) && (List.range b.size).all (fun (i : Nat) => decide (97 ≤ bt b (i : Int) ∧ bt b (i : Int) ≤ 122))
theorem spec_l5Name_ev (b : ByteArray) (hb : b.size ≤ 9223372036854775807) : Ev (fun k => spec_l5Name.f k b) (nameOk b) := by
  unfold spec_l5Name.f nameOk
  refine Ev.here (l1In_some _ _ _) ?_
  by_cases h : 1 ≤ (b.size : Int) ∧ (b.size : Int) ≤ 20
  · rw [decide_eq_true h]
    refine Ev.pos rfl ?_
    have key := all_loop (fun k i => spec_l5Name.l0 k b i) (fun (i : Nat) => decide (97 ≤ bt b (i : Int) ∧ bt b (i : Int) ≤ 122)) b.size false true
      (fun i r hi hp hr => by
        have hp' := of_decide_eq_true hp
        refine Ev.step (fun k => by rw [spec_l5Name.l0]) ?_
        refine Ev.pos (by omega) (Ev.pos (by omega) (Ev.neg (by omega) (Ev.neg (by omega) ?_)))
        rw [wrap64_id (by omega) (by omega)]
        simpa using hr)
      (fun i hi hp => by
        have hp' := of_decide_eq_false hp
        refine Ev.step (fun k => by rw [spec_l5Name.l0]) ?_
        refine Ev.pos (by omega) (Ev.pos (by omega) ?_)
        by_cases h1 : bt b (i : Int) < 97
        · exact Ev.pos h1 (Ev.now _)
        · exact Ev.neg h1 (Ev.pos (by omega) (Ev.now _)))
      (by exact Ev.step (fun k => by rw [spec_l5Name.l0]) (by exact Ev.neg (by omega) (Ev.now _)))
    refine Ev.cast key ?_
    cases (List.range b.size).all _ <;> rfl
  · rw [decide_eq_false h]
    exact Ev.neg (by decide) (Ev.now _)
theorem impl_isColName_ev (b : ByteArray) (hb : b.size ≤ 9223372036854775807) : Ev (fun k => impl_isColName.f k b) (nameOk b) := by
  unfold impl_isColName.f nameOk
  have key := all_loop (fun k i => impl_isColName.l0 k b (b.size : Int) i) (fun (i : Nat) => decide (97 ≤ bt b (i : Int) ∧ bt b (i : Int) ≤ 122)) b.size false (decide (1 ≤ (b.size : Int) ∧ (b.size : Int) ≤ 20))
    (fun i r hi hp hr => by
      have hp' := of_decide_eq_true hp
      refine Ev.step (fun k => by rw [impl_isColName.l0]) ?_
      rw [wrap64_id (x := bt b (i : Int)) (by omega) (by omega)]
      refine Ev.pos (by omega) (Ev.pos (by omega) (Ev.pos (by omega) (Ev.here (within_some _ _ _) (Ev.pos hp ?_))))
      rw [wrap64_id (by omega) (by omega)]
      simpa using hr)
    (fun i hi hp => by
      have hrg := bt_range b (i : Int)
      refine Ev.step (fun k => by rw [impl_isColName.l0]) ?_
      rw [wrap64_id (x := bt b (i : Int)) (by omega) (by omega)]
      refine Ev.pos (by omega) (Ev.pos (by omega) (Ev.pos (by omega) (Ev.here (within_some _ _ _) ?_)))
      rw [hp]
      exact Ev.neg (by decide) (Ev.now _))
    (by
      refine Ev.step (fun k => by rw [impl_isColName.l0]) ?_
      exact Ev.neg (by omega) (Ev.here (within_some _ _ _) (Ev.now _)))
  refine Ev.cast key ?_
  cases (List.range b.size).all _ <;> simp
def colB (root : Bool) (c : S34) : Bool := (if c.f1 = 7 then decide (1 ≤ c.f3) else tOk c.f1 && decide (c.f3 = 0)) && decide (0 ≤ c.f2 ∧ c.f2 ≤ 2) && (root || nameOk c.f0)
def parts (f : Int → Int) (s : List S34) : Nat → Int → List ByteArray → Int
  | 0, next, _ => next
  | n + 1, next, names => if next ≥ (s.length : Int) then -1 else if names.any (fun x => decide (x.toList = (rd_T34 s next).f0.toList)) then -1 else if f next < 0 then -1 else parts f s n (f next) (names ++ [(rd_T34 s next).f0])
def chk (s : List S34) : Nat → Int → Int
  | 0, _ => -1
  | d + 1, p => if p ≥ (s.length : Int) then -1 else if colB (decide (p = 0)) (rd_T34 s p) = true then parts (chk s d) s (rd_T34 s p).f3.toNat (p + 1) [] else -1
theorem parts_range (f : Int → Int) (s : List S34) (hf : ∀ p, 0 ≤ p → f p = -1 ∨ (p < f p ∧ f p ≤ s.length)) : ∀ (n : Nat) (next : Int) (names : List ByteArray), 0 ≤ next → next ≤ s.length → parts f s n next names = -1 ∨ (next ≤ parts f s n next names ∧ parts f s n next names ≤ s.length)
  | 0, next, names, h0, h1 => .inr ⟨by simp [parts], by simp [parts]; exact h1⟩
  | n + 1, next, names, h0, h1 => by
    unfold parts
    split
    · exact .inl rfl
    split
    · exact .inl rfl
    split
    · exact .inl rfl
    · have hn := hf next h0
      have := parts_range f s hf n (f next) (names ++ [(rd_T34 s next).f0]) (by omega) (by omega)
      omega
theorem chk_range (s : List S34) : ∀ (d : Nat) (p : Int), 0 ≤ p → chk s d p = -1 ∨ (p < chk s d p ∧ chk s d p ≤ s.length)
  | 0, p, h => .inl rfl
  | d + 1, p, h => by
    unfold chk
    split
    · exact .inl rfl
    split
    · have := parts_range (chk s d) s (fun q hq => chk_range s d q hq) (rd_T34 s p).f3.toNat (p + 1) [] (by omega) (by omega)
      omega
    · exact .inl rfl
/-- A row of columns whose names are no longer than Go's int, and that are not too many. -/
def ColsOk (s : List S34) : Prop := s.length ≤ 1048576 ∧ (∀ i : Int, (rd_T34 s i).f0.size ≤ 9223372036854775807) ∧ (∀ i : Int, (rd_T34 s i).f3 ≤ 9223372036854775807)
theorem colOk_some (c : S34) : impl_colOk.f c.f0 c.f1 c.f2 c.f3 = some ((if c.f1 = 7 then decide (1 ≤ c.f3) else tOk c.f1 && decide (c.f3 = 0)) && decide (0 ≤ c.f2 ∧ c.f2 ≤ 2)) := by
  unfold impl_colOk.f
  simp only [typeOk_some, within_some, Option.bind_some]
  by_cases h7 : c.f1 = 7
  · rw [if_pos h7, if_pos h7]
    have ht : tOk c.f1 = false := by rw [h7]; rfl
    rw [ht, if_neg (by decide)]
    by_cases h : c.f3 > 0
    · rw [if_pos h, decide_eq_true (show 1 ≤ c.f3 by omega)]; rfl
    · rw [if_neg h, decide_eq_false (show ¬ 1 ≤ c.f3 by omega)]; rfl
  · rw [if_neg h7, if_neg h7]
    cases ht : tOk c.f1 with
    | false => rw [if_neg (by decide)]; rfl
    | true =>
      rw [if_pos rfl]
      by_cases h : c.f3 = 0
      · rw [if_pos h, decide_eq_true h]; rfl
      · rw [if_neg h, decide_eq_false h]; rfl
theorem impl_colAfter_ev (s : List S34) (hs : ColsOk s) : ∀ (d : Nat) (p : Int), d ≤ 7 → 0 ≤ p → p ≤ s.length → Ev (fun k => impl_colAfter.f k s p (7 - (d : Int))) (chk s d p) := by
  obtain ⟨hl, hn, hm⟩ := hs
  have bad : ∀ p dd, Ev (fun k => impl_colAfter.j0 k s p dd true) (-1) := fun p dd => Ev.step (fun k => by rw [impl_colAfter.j0]) (by exact Ev.pos rfl (Ev.now _))
  intro d
  induction d with
  | zero =>
    intro p _ h0 h1
    refine Ev.step (fun k => by rw [impl_colAfter.f]) ?_
    by_cases h : p ≥ (s.length : Int)
    · exact Ev.pos h (bad _ _)
    · exact Ev.neg h (Ev.pos (by omega) (bad _ _))
  | succ d ih =>
    intro p hd h0 h1
    refine Ev.step (fun k => by rw [impl_colAfter.f]) ?_
    unfold chk
    by_cases h : p ≥ (s.length : Int)
    · rw [if_pos h]; exact Ev.pos h (bad _ _)
    rw [if_neg h]
    refine Ev.neg h (Ev.neg (by omega) (Ev.pos h0 (Ev.pos (by omega) (Ev.here (colOk_some (rd_T34 s p)) ?_))))
    have inner : ∀ (n : Nat) (i next : Int) (names : List ByteArray), i + n = (rd_T34 s p).f3 → 0 ≤ i → 0 ≤ next → next ≤ s.length → (names.length : Int) ≤ next →
        Ev (fun k => impl_colAfter.l0 k s (7 - ((d + 1 : Nat) : Int)) next names (rd_T34 s p).f3 i) (parts (chk s d) s n next names) := by
      intro n
      induction n with
      | zero =>
        intro i next names hi i0 n0 n1 nl
        exact Ev.step (fun k => by rw [impl_colAfter.l0]) (by exact Ev.neg (by omega) (Ev.now _))
      | succ n ihn =>
        intro i next names hi i0 n0 n1 nl
        refine Ev.step (fun k => by rw [impl_colAfter.l0]) ?_
        unfold parts
        refine Ev.pos (by omega) ?_
        by_cases hx : next ≥ (s.length : Int)
        · rw [if_pos hx]; exact Ev.pos hx (Ev.now _)
        rw [if_neg hx]
        refine Ev.neg hx ?_
        have rest : ∀ (m j : Nat), j + m = names.length → Ev (fun k => impl_colAfter.l1 k s (7 - ((d + 1 : Nat) : Int)) next names (rd_T34 s p).f3 i (names.length : Int) (j : Int))
            (if (names.drop j).any (fun x => decide (x.toList = (rd_T34 s next).f0.toList)) then -1 else if chk s d next < 0 then -1 else parts (chk s d) s n (chk s d next) (names ++ [(rd_T34 s next).f0])) := by
          intro m
          induction m with
          | zero =>
            intro j hj
            rw [List.drop_eq_nil_of_le (by omega)]
            rw [if_neg (by simp)]
            refine Ev.step (fun k => by rw [impl_colAfter.l1]) ?_
            refine Ev.neg (by omega) (Ev.pos n0 (Ev.pos (by omega) (Ev.pos (by omega) ?_)))
            have e : wrap64 (7 - ((d + 1 : Nat) : Int) + 1) = 7 - (d : Int) := by rw [wrap64_id (by omega) (by omega)]; omega
            rw [e]
            refine Ev.bind (ih next (by omega) n0 n1) ?_
            have hr := chk_range s d next n0
            by_cases hneg : chk s d next < 0
            · rw [if_pos hneg]; exact Ev.pos hneg (Ev.now _)
            · rw [if_neg hneg]
              refine Ev.neg hneg ?_
              have hmm := hm p
              rw [wrap64_id (x := i + 1) (by omega) (by omega)]
              exact ihn (i + 1) (chk s d next) (names ++ [(rd_T34 s next).f0]) (by omega) (by omega) (by omega) (by omega) (by simp; omega)
          | succ m ihm =>
            intro j hj
            have hjl : j < names.length := by omega
            have ed : names.drop j = names[j] :: names.drop (j + 1) := List.drop_eq_getElem_cons hjl
            refine Ev.step (fun k => by rw [impl_colAfter.l1]) ?_
            refine Ev.pos (by omega) (Ev.pos (by omega) (Ev.pos (by omega) (Ev.pos n0 (Ev.pos (by omega) ?_))))
            rw [rdOf_eq (by omega)]
            have ej : names[((j : Int)).toNat]'(by omega) = names[j] := rfl
            rw [ej, ed, List.any_cons]
            by_cases he : (names[j]).toList = (rd_T34 s next).f0.toList
            · rw [decide_eq_true he]; exact Ev.pos he (Ev.now _)
            · rw [decide_eq_false he]
              refine Ev.neg he ?_
              rw [wrap64_id (x := (j : Int) + 1) (by omega) (by omega)]
              exact ihm (j + 1) (by omega)
        exact rest names.length 0 (by omega)
    have hx : ∀ b : Bool, colB (decide (p = 0)) (rd_T34 s p) = !b → Ev (fun k => impl_colAfter.j0 k s p (7 - ((d + 1 : Nat) : Int)) b) (if colB (decide (p = 0)) (rd_T34 s p) = true then parts (chk s d) s (rd_T34 s p).f3.toNat (p + 1) [] else -1) := by
      intro b hb
      cases b with
      | true => rw [hb, if_neg (by decide)]; exact bad _ _
      | false =>
        rw [hb, if_pos (show (!false) = true from rfl)]
        refine Ev.step (fun k => by rw [impl_colAfter.j0]) ?_
        have hm0 : 0 ≤ (rd_T34 s p).f3 := by
          unfold colB at hb
          by_cases h7 : (rd_T34 s p).f1 = 7
          · rw [if_pos h7] at hb; simp at hb; omega
          · rw [if_neg h7] at hb; simp at hb; omega
        refine Ev.neg (by decide) (Ev.pos h0 (Ev.pos (by omega) ?_))
        rw [wrap64_id (x := p + 1) (by omega) (by omega)]
        exact inner (rd_T34 s p).f3.toNat 0 (p + 1) [] (by omega) (by omega) (by omega) (by omega) (by simp; omega)
    cases hc : ((if (rd_T34 s p).f1 = 7 then decide (1 ≤ (rd_T34 s p).f3) else tOk (rd_T34 s p).f1 && decide ((rd_T34 s p).f3 = 0)) && decide (0 ≤ (rd_T34 s p).f2 ∧ (rd_T34 s p).f2 ≤ 2)) with
    | false => exact Ev.neg (by decide) (hx true (by unfold colB; rw [hc]; rfl))
    | true =>
      refine Ev.pos rfl ?_
      by_cases hp0 : p > 0
      · refine Ev.pos hp0 (Ev.bind (impl_isColName_ev _ (hn p)) ?_)
        exact hx _ (by unfold colB; rw [hc, decide_eq_false (show ¬ p = 0 by omega)]; simp)
      · refine Ev.neg hp0 ?_
        exact hx false (by unfold colB; rw [hc, decide_eq_true (show p = 0 by omega)]; simp)
def rootB (c : S34) : Bool := decide (c.f1 = 7) && decide (c.f2 = 0) && decide (c.f0.toList = ([] : List UInt8))
theorem spec_l5Check_ev (s : List S34) (hs : ColsOk s) : ∀ (d : Nat) (p : Int), d ≤ 7 → 0 ≤ p → p ≤ s.length → Ev (fun k => spec_l5Check.f k s p (7 - (d : Int))) (if p = 0 ∧ rootB (rd_T34 s p) = false then -1 else chk s d p) := by
  obtain ⟨hl, hn, hm⟩ := hs
  have bad : ∀ p dd, Ev (fun k => spec_l5Check.j0 k s p dd true) (-1) := fun p dd => Ev.step (fun k => by rw [spec_l5Check.j0]) (by exact Ev.pos rfl (Ev.now _))
  intro d
  induction d with
  | zero =>
    intro p _ h0 h1
    refine Ev.step (fun k => by rw [spec_l5Check.f]) ?_
    have e : (if p = 0 ∧ rootB (rd_T34 s p) = false then -1 else chk s 0 p) = -1 := by split <;> rfl
    rw [e]
    by_cases h : p ≥ (s.length : Int)
    · exact Ev.pos h (bad _ _)
    · refine Ev.neg h ?_
      have : decide (7 - ((0 : Nat) : Int) > 6) = true := by decide
      rw [this]; exact bad _ _
  | succ d ih =>
    intro p hd h0 h1
    refine Ev.step (fun k => by rw [spec_l5Check.f]) ?_
    by_cases h : p ≥ (s.length : Int)
    · have e : (if p = 0 ∧ rootB (rd_T34 s p) = false then -1 else chk s (d + 1) p) = -1 := by
        split
        · rfl
        · unfold chk; rw [if_pos h]
      rw [e]; exact Ev.pos h (bad _ _)
    refine Ev.neg h ?_
    have hdd : decide (7 - ((d + 1 : Nat) : Int) > 6) = false := decide_eq_false (by omega)
    rw [hdd]
    refine Ev.step (fun k => by rw [spec_l5Check.j0]) ?_
    refine Ev.neg (by decide) (Ev.pos h0 (Ev.pos (by omega) ?_))
    have inner : ∀ (n : Nat) (i next : Int) (names : List ByteArray), i + n = (rd_T34 s p).f3 → 0 ≤ i → 0 < next → next ≤ s.length → (names.length : Int) ≤ next →
        Ev (fun k => spec_l5Check.l0 k s (7 - ((d + 1 : Nat) : Int)) next names i (rd_T34 s p).f0 (rd_T34 s p).f1 (rd_T34 s p).f2 (rd_T34 s p).f3) (parts (chk s d) s n next names) := by
      intro n
      induction n with
      | zero =>
        intro i next names hi i0 n0 n1 nl
        exact Ev.step (fun k => by rw [spec_l5Check.l0]) (by exact Ev.neg (by omega) (Ev.now _))
      | succ n ihn =>
        intro i next names hi i0 n0 n1 nl
        refine Ev.step (fun k => by rw [spec_l5Check.l0]) ?_
        unfold parts
        refine Ev.pos (by omega) ?_
        by_cases hx : next ≥ (s.length : Int)
        · rw [if_pos hx]; exact Ev.pos hx (Ev.now _)
        rw [if_neg hx]
        refine Ev.neg hx ?_
        have rest : ∀ (m j : Nat), j + m = names.length → Ev (fun k => spec_l5Check.l1 k s (7 - ((d + 1 : Nat) : Int)) next names i (j : Int) (rd_T34 s p).f0 (rd_T34 s p).f1 (rd_T34 s p).f2 (rd_T34 s p).f3)
            (if (names.drop j).any (fun x => decide (x.toList = (rd_T34 s next).f0.toList)) then -1 else if chk s d next < 0 then -1 else parts (chk s d) s n (chk s d next) (names ++ [(rd_T34 s next).f0])) := by
          intro m
          induction m with
          | zero =>
            intro j hj
            rw [List.drop_eq_nil_of_le (by omega)]
            rw [if_neg (by simp)]
            refine Ev.step (fun k => by rw [spec_l5Check.l1]) ?_
            refine Ev.neg (by omega) (Ev.pos (by omega) (Ev.pos (by omega) (Ev.pos (by omega) ?_)))
            have e : wrap64 (7 - ((d + 1 : Nat) : Int) + 1) = 7 - (d : Int) := by rw [wrap64_id (by omega) (by omega)]; omega
            rw [e]
            have hih := ih next (by omega) (by omega) n1
            rw [if_neg (by omega)] at hih
            refine Ev.bind hih ?_
            have hr := chk_range s d next (by omega)
            by_cases hneg : chk s d next < 0
            · rw [if_pos hneg]; exact Ev.pos hneg (Ev.now _)
            · rw [if_neg hneg]
              refine Ev.neg hneg ?_
              have hmm := hm p
              rw [wrap64_id (x := i + 1) (by omega) (by omega)]
              exact ihn (i + 1) (chk s d next) (names ++ [(rd_T34 s next).f0]) (by omega) (by omega) (by omega) (by omega) (by simp; omega)
          | succ m ihm =>
            intro j hj
            have hjl : j < names.length := by omega
            have ed : names.drop j = names[j] :: names.drop (j + 1) := List.drop_eq_getElem_cons hjl
            refine Ev.step (fun k => by rw [spec_l5Check.l1]) ?_
            refine Ev.pos (by omega) (Ev.pos (by omega) (Ev.pos (by omega) (Ev.pos (by omega) ?_)))
            rw [rdOf_eq (by omega)]
            have ej : names[((j : Int)).toNat]'(by omega) = names[j] := rfl
            rw [ej, ed, List.any_cons]
            by_cases he : (names[j]).toList = (rd_T34 s next).f0.toList
            · rw [decide_eq_true he]; exact Ev.pos he (Ev.now _)
            · rw [decide_eq_false he]
              refine Ev.neg he ?_
              rw [wrap64_id (x := (j : Int) + 1) (by omega) (by omega)]
              exact ihm (j + 1) (by omega)
        exact rest names.length 0 (by omega)
    -- what stands behind the checks of the name and of the kind of repetition
    have hx : ∀ b : Bool, (!b) = (decide (0 ≤ (rd_T34 s p).f2 ∧ (rd_T34 s p).f2 ≤ 2) && (decide (p = 0) || nameOk (rd_T34 s p).f0)) → Ev (fun k => spec_l5Check.j1 k s p (7 - ((d + 1 : Nat) : Int)) b (rd_T34 s p).f0 (rd_T34 s p).f1 (rd_T34 s p).f2 (rd_T34 s p).f3) (chk s (d + 1) p) := by
      intro b hb
      unfold chk
      rw [if_neg h]
      refine Ev.step (fun k => by rw [spec_l5Check.j1]) ?_
      unfold colB
      rw [Bool.and_assoc, ← hb]
      cases b with
      | true => rw [Bool.not_true, Bool.and_false, if_neg (show ¬ (false = true) by decide)]; exact Ev.pos rfl (Ev.now _)
      | false =>
        rw [Bool.not_false, Bool.and_true]
        refine Ev.neg (by decide) ?_
        by_cases h7 : (rd_T34 s p).f1 = 7
        · refine Ev.pos h7 ?_
          rw [if_pos h7]
          by_cases h3 : (rd_T34 s p).f3 < 1
          · rw [decide_eq_false (show ¬ 1 ≤ (rd_T34 s p).f3 by omega), if_neg (show ¬ (false = true) by decide)]; exact Ev.pos h3 (Ev.now _)
          · rw [decide_eq_true (show 1 ≤ (rd_T34 s p).f3 by omega), if_pos (show true = true from rfl)]
            refine Ev.neg h3 ?_
            rw [wrap64_id (x := p + 1) (by omega) (by omega)]
            exact inner (rd_T34 s p).f3.toNat 0 (p + 1) [] (by omega) (by omega) (by omega) (by omega) (by simp; omega)
        · refine Ev.neg h7 (Ev.here (l5Type_some _) ?_)
          rw [if_neg h7]
          cases ht : tOk (rd_T34 s p).f1 with
          | false => exact Ev.neg (show ¬ (false = true) by decide) (Ev.const rfl)
          | true =>
            refine Ev.pos rfl ?_
            by_cases h3 : (rd_T34 s p).f3 = 0
            · rw [decide_eq_true h3, if_pos (show (true && true) = true from rfl), h3]
              refine Ev.pos rfl (Ev.const ?_)
              rw [wrap64_id (x := p + 1) (by omega) (by omega)]; rfl
            · rw [decide_eq_false h3, if_neg (show ¬ ((true && false) = true) by decide)]; exact Ev.neg h3 (Ev.now _)
    by_cases hp0 : p = 0
    · refine Ev.pos hp0 ?_
      have hbad : rootB (rd_T34 s p) = false → Ev (fun k => spec_l5Check.j1 k s p (7 - ((d + 1 : Nat) : Int)) true (rd_T34 s p).f0 (rd_T34 s p).f1 (rd_T34 s p).f2 (rd_T34 s p).f3) (if p = 0 ∧ rootB (rd_T34 s p) = false then -1 else chk s (d + 1) p) := fun hr => by
        rw [if_pos ⟨hp0, hr⟩]
        exact Ev.step (fun k => by rw [spec_l5Check.j1]) (by exact Ev.pos rfl (Ev.now _))
      by_cases r1 : (rd_T34 s p).f0.toList = ([] : List UInt8)
      · refine Ev.pos r1 ?_
        by_cases r2 : (rd_T34 s p).f2 = 0
        · refine Ev.pos r2 ?_
          by_cases r3 : (rd_T34 s p).f1 = 7
          · refine Ev.pos r3 (Ev.neg (by omega) (Ev.here (l1In_some _ _ _) ?_))
            have hr : rootB (rd_T34 s p) = true := by unfold rootB; rw [decide_eq_true r1, decide_eq_true r2, decide_eq_true r3]; rfl
            rw [if_neg (by rw [hr]; simp)]
            exact hx _ (by rw [decide_eq_true hp0]; simp)
          · exact Ev.neg r3 (hbad (by unfold rootB; rw [decide_eq_false r3]; simp))
        · exact Ev.neg r2 (hbad (by unfold rootB; rw [decide_eq_false r2]; simp))
      · exact Ev.neg r1 (hbad (by unfold rootB; rw [decide_eq_false r1]; simp))
    · rw [if_neg (by omega)]
      refine Ev.neg hp0 (Ev.pos (by omega) (Ev.bind (spec_l5Name_ev _ (hn p)) ?_))
      cases hnm : nameOk (rd_T34 s p).f0 with
      | true =>
        refine Ev.pos rfl (Ev.here (l1In_some _ _ _) ?_)
        exact hx _ (by rw [hnm]; simp)
      | false => exact Ev.neg (by decide) (hx true (by rw [hnm, decide_eq_false hp0]; simp))
def schOk (s : List S34) : Bool := decide (2 ≤ (s.length : Int) ∧ (s.length : Int) ≤ 20) && rootB (rd_T34 s 0) && decide (chk s 6 0 = (s.length : Int))
theorem impl_SchemaOk_ev (s : List S34) (hs : ColsOk s) : Ev (fun k => impl_SchemaOk.f k s) (schOk s) := by
  unfold impl_SchemaOk.f schOk
  refine Ev.here (within_some _ _ _) ?_
  by_cases h : 2 ≤ (s.length : Int) ∧ (s.length : Int) ≤ 20
  · rw [decide_eq_true h]
    refine Ev.pos rfl (Ev.pos (by omega) ?_)
    unfold rootB
    by_cases r3 : (rd_T34 s 0).f1 = 7
    · refine Ev.pos r3 ?_
      by_cases r2 : (rd_T34 s 0).f2 = 0
      · refine Ev.pos r2 ?_
        by_cases r1 : (rd_T34 s 0).f0.toList = ([] : List UInt8)
        · refine Ev.pos r1 (Ev.bind (impl_colAfter_ev s hs 6 0 (by omega) (by omega) (by omega)) (Ev.const ?_))
          rw [decide_eq_true r1, decide_eq_true r2, decide_eq_true r3]
          rfl
        · refine Ev.neg r1 (Ev.const ?_); rw [decide_eq_false r1]; simp
      · refine Ev.neg r2 (Ev.const ?_); rw [decide_eq_false r2]; simp
    · refine Ev.neg r3 (Ev.const ?_); rw [decide_eq_false r3]; simp
  · rw [decide_eq_false h]
    exact Ev.neg (by decide) (Ev.now _)
theorem spec_SchemaOk_ev (s : List S34) (hs : ColsOk s) : Ev (fun k => spec_SchemaOk.f k s) (schOk s) := by
  unfold spec_SchemaOk.f schOk
  refine Ev.here (l1In_some _ _ _) ?_
  by_cases h : 2 ≤ (s.length : Int) ∧ (s.length : Int) ≤ 20
  · rw [decide_eq_true h]
    refine Ev.pos rfl (Ev.bind (spec_l5Check_ev s hs 6 0 (by omega) (by omega) (by omega)) (Ev.const ?_))
    cases hr : rootB (rd_T34 s 0) with
    | false =>
      rw [if_pos ⟨rfl, rfl⟩]
      have : ((-1 : Int) == (s.length : Int)) = false := by simp
      rw [this]; rfl
    | true =>
      rw [if_neg (by simp)]
      rfl
  · rw [decide_eq_false h]
    exact Ev.neg (by decide) (Ev.now _)
theorem parts_mono (f g : Int → Int) (s : List S34) (hr : ∀ p, 0 ≤ p → f p = -1 ∨ (p < f p ∧ f p ≤ s.length)) (hg : ∀ p, 0 ≤ p → f p ≠ -1 → g p = f p) :
    ∀ (n : Nat) (next : Int) (names : List ByteArray), 0 ≤ next → parts f s n next names ≠ -1 → parts g s n next names = parts f s n next names
  | 0, _, _, _, _ => rfl
  | n + 1, next, names, h0, h => by
    unfold parts at h ⊢
    by_cases h1 : next ≥ (s.length : Int)
    · rw [if_pos h1, if_pos h1]
    rw [if_neg h1] at h
    rw [if_neg h1, if_neg h1]
    by_cases h2 : names.any (fun x => decide (x.toList = (rd_T34 s next).f0.toList)) = true
    · rw [if_pos h2, if_pos h2]
    rw [if_neg h2] at h
    rw [if_neg h2, if_neg h2]
    by_cases h3 : f next < 0
    · rw [if_pos h3] at h; exact absurd rfl h
    rw [if_neg h3] at h
    have e := hg next h0 (by omega)
    rw [e, if_neg h3, if_neg h3]
    have := hr next h0
    exact parts_mono f g s hr hg n (f next) _ (by omega) h
theorem chk_mono (s : List S34) : ∀ (d : Nat) (p : Int), 0 ≤ p → chk s d p ≠ -1 → chk s (d + 1) p = chk s d p
  | 0, p, h0, h => absurd rfl h
  | d + 1, p, h0, h => by
    rw [chk] at h ⊢
    rw [show chk s (d + 1) p = if p ≥ (s.length : Int) then -1 else if colB (decide (p = 0)) (rd_T34 s p) = true then parts (chk s d) s (rd_T34 s p).f3.toNat (p + 1) [] else -1 from rfl]
    by_cases h1 : p ≥ (s.length : Int)
    · rw [if_pos h1, if_pos h1]
    rw [if_neg h1] at h
    rw [if_neg h1, if_neg h1]
    by_cases h2 : colB (decide (p = 0)) (rd_T34 s p) = true
    · rw [if_pos h2] at h
      rw [if_pos h2, if_pos h2]
      exact parts_mono (chk s d) (chk s (d + 1)) s (fun q hq => chk_range s d q hq) (fun q hq hn => chk_mono s d q hq hn) _ _ _ (by omega) h
    · rw [if_neg h2, if_neg h2]
/-- Where the column at p and its parts end. -/
def en (s : List S34) (p : Int) : Int := chk s 6 p
theorem chk_en (s : List S34) (p : Int) (h0 : 0 ≤ p) : ∀ (m d : Nat), d + m = 6 → chk s d p ≠ -1 → en s p = chk s d p := by
  intro m
  induction m with
  | zero => intro d hd h; obtain rfl : d = 6 := by omega
            rfl
  | succ m ih =>
    intro d hd h
    have := chk_mono s d p h0 h
    rw [← this]
    exact ih (d + 1) (by omega) (by rw [this]; exact h)
theorem parts_inside (f : Int → Int) (s : List S34) (hr : ∀ p, 0 ≤ p → f p = -1 ∨ (p < f p ∧ f p ≤ s.length)) (hi : ∀ p, 0 ≤ p → f p ≠ -1 → ∀ q, p ≤ q → q < f p → en s q ≠ -1 ∧ en s q ≤ f p) :
    ∀ (n : Nat) (next : Int) (names : List ByteArray), 0 ≤ next → parts f s n next names ≠ -1 → ∀ q, next ≤ q → q < parts f s n next names → en s q ≠ -1 ∧ en s q ≤ parts f s n next names
  | 0, next, _, _, _, q, h1, h2 => by unfold parts at h2; omega
  | n + 1, next, names, h0, h, q, hq1, hq2 => by
    rw [parts] at h hq2 ⊢
    by_cases h1 : next ≥ (s.length : Int)
    · rw [if_pos h1] at h; exact absurd rfl h
    rw [if_neg h1] at h hq2 ⊢
    by_cases h2 : names.any (fun x => decide (x.toList = (rd_T34 s next).f0.toList)) = true
    · rw [if_pos h2] at h; exact absurd rfl h
    rw [if_neg h2] at h hq2 ⊢
    by_cases h3 : f next < 0
    · rw [if_pos h3] at h; exact absurd rfl h
    rw [if_neg h3] at h hq2 ⊢
    have hn := hr next h0
    have hpr := parts_range f s hr n (f next) (names ++ [(rd_T34 s next).f0]) (by omega) (by omega)
    by_cases h4 : q < f next
    · have := hi next h0 (by omega) q hq1 h4
      exact ⟨this.1, by omega⟩
    · exact parts_inside f s hr hi n (f next) _ (by omega) h q (by omega) hq2
theorem chk_inside (s : List S34) : ∀ (d : Nat), d ≤ 6 → ∀ (p : Int), 0 ≤ p → chk s d p ≠ -1 → ∀ q, p ≤ q → q < chk s d p → en s q ≠ -1 ∧ en s q ≤ chk s d p
  | 0, _, p, h0, h, _, _, _ => absurd rfl h
  | d + 1, hd, p, h0, h, q, hq1, hq2 => by
    by_cases e : q = p
    · have := chk_en s p h0 (6 - (d + 1)) (d + 1) (by omega) h
      rw [e, this]; exact ⟨h, Int.le_refl _⟩
    rw [chk] at h hq2 ⊢
    by_cases h1 : p ≥ (s.length : Int)
    · rw [if_pos h1] at h; exact absurd rfl h
    rw [if_neg h1] at h hq2 ⊢
    by_cases h2 : colB (decide (p = 0)) (rd_T34 s p) = true
    · rw [if_pos h2] at h hq2 ⊢
      exact parts_inside (chk s d) s (fun q hq => chk_range s d q hq) (fun r hr hn => chk_inside s d (by omega) r hr hn) _ _ _ (by omega) h q (by omega) hq2
    · rw [if_neg h2] at h; exact absurd rfl h
theorem spec_l5After_ev (s : List S34) (hs : ColsOk s) : ∀ (d : Nat) (p : Int), 0 ≤ p → chk s d p ≠ -1 → Ev (fun k => spec_l5After.f k s p) (chk s d p)
  | 0, p, h0, h => absurd rfl h
  | d + 1, p, h0, h => by
    rw [chk] at h ⊢
    by_cases h1 : p ≥ (s.length : Int)
    · rw [if_pos h1] at h; exact absurd rfl h
    rw [if_neg h1] at h ⊢
    by_cases h2 : colB (decide (p = 0)) (rd_T34 s p) = true
    · rw [if_pos h2] at h ⊢
      have hl := hs.1
      have hm := hs.2.2 p
      have hm0 : 0 ≤ (rd_T34 s p).f3 := by
        unfold colB at h2
        by_cases h7 : (rd_T34 s p).f1 = 7
        · rw [if_pos h7] at h2; simp at h2; omega
        · rw [if_neg h7] at h2; simp at h2; omega
      refine Ev.step (fun k => by rw [spec_l5After.f]) ?_
      rw [wrap64_id (x := p + 1) (by omega) (by omega)]
      have key : ∀ (n : Nat) (i next : Int) (names : List ByteArray), i + n = (rd_T34 s p).f3 → 0 ≤ i → 0 ≤ next → parts (chk s d) s n next names ≠ -1 → Ev (fun k => spec_l5After.l0 k s p next i) (parts (chk s d) s n next names) := by
        intro n
        induction n with
        | zero =>
          intro i next names hi i0 n0 hp
          refine Ev.step (fun k => by rw [spec_l5After.l0]) ?_
          exact Ev.pos h0 (Ev.pos (by omega) (Ev.neg (by omega) (Ev.now _)))
        | succ n ih =>
          intro i next names hi i0 n0 hp
          refine Ev.step (fun k => by rw [spec_l5After.l0]) ?_
          rw [parts] at hp ⊢
          by_cases g1 : next ≥ (s.length : Int)
          · rw [if_pos g1] at hp; exact absurd rfl hp
          rw [if_neg g1] at hp ⊢
          by_cases g2 : names.any (fun x => decide (x.toList = (rd_T34 s next).f0.toList)) = true
          · rw [if_pos g2] at hp; exact absurd rfl hp
          rw [if_neg g2] at hp ⊢
          by_cases g3 : chk s d next < 0
          · rw [if_pos g3] at hp; exact absurd rfl hp
          rw [if_neg g3] at hp ⊢
          refine Ev.pos h0 (Ev.pos (by omega) (Ev.pos (by omega) (Ev.bind (spec_l5After_ev s hs d next n0 (by omega)) ?_)))
          rw [wrap64_id (x := i + 1) (by omega) (by omega)]
          exact ih (i + 1) (chk s d next) _ (by omega) (by omega) (by omega) hp
      exact key _ 0 (p + 1) [] (by omega) (by omega) (by omega) h
    · rw [if_neg h2] at h; exact absurd rfl h
theorem schOk_parts {s : List S34} (h : schOk s = true) : 2 ≤ (s.length : Int) ∧ (s.length : Int) ≤ 20 ∧ rootB (rd_T34 s 0) = true ∧ chk s 6 0 = (s.length : Int) := by
  unfold schOk at h
  simp only [Bool.and_eq_true, decide_eq_true_eq] at h
  exact ⟨h.1.1.1, h.1.1.2, h.1.2, h.2⟩
theorem en_ok {s : List S34} (h : schOk s = true) (q : Int) (h0 : 0 ≤ q) (h1 : q < s.length) : en s q ≠ -1 ∧ q < en s q ∧ en s q ≤ s.length := by
  obtain ⟨_, _, _, h4⟩ := schOk_parts h
  have := chk_inside s 6 (by omega) 0 (by omega) (by omega) q h0 (by omega)
  have hr := chk_range s 6 q h0
  unfold en at this ⊢
  exact ⟨this.1, by omega, by omega⟩
theorem colsOk_of (l : List S31) (hl : l.length ≤ 1048576) (hw : ∀ y ∈ l, w31 y) : ColsOk (l.map cvCol) := by
  have h : ∀ i : Int, (rd_T34 (l.map cvCol) i).f0.size ≤ 9223372036854775807 ∧ (rd_T34 (l.map cvCol) i).f3 ≤ 9223372036854775807 := by
    intro i
    have e : rd_T34 (l.map cvCol) i = (l.map cvCol).getD i.toNat z34 := rfl
    rw [e]
    by_cases hi : i.toNat < l.length
    · rw [getD_eq (by simpa using hi), List.getElem_map]
      have := hw (l[i.toNat]) (List.getElem_mem _)
      obtain ⟨a, b, c, d⟩ := this
      have := i64_of d
      exact ⟨by unfold maxLen at a; exact a, this.2⟩
    · rw [List.getD_eq_getElem?_getD, List.getElem?_eq_none (by simp; omega)]
      exact ⟨by decide, by decide⟩
  exact ⟨by simpa using hl, fun i => (h i).1, fun i => (h i).2⟩
/-! ### The text of a schema -/
def sgt (c : S34) : ByteArray := (⟨#[33, 63, 42]⟩ : ByteArray).extract (c.f2 : Int).toNat (c.f2 + 1 : Int).toNat
def tyt (c : S34) : ByteArray := (⟨#[98, 105, 108, 32, 32, 100, 116, 103]⟩ : ByteArray).extract (c.f1 : Int).toNat (c.f1 + 1 : Int).toNat
def hdt (c : S34) : ByteArray := (sgt c ++ tyt c) ++ c.f0
def jt : List ByteArray → ByteArray
  | [] => ⟨#[]⟩
  | t :: r => ((⟨#[44]⟩ : ByteArray) ++ t) ++ jt r
def jn : List ByteArray → ByteArray
  | [] => ⟨#[]⟩
  | t :: r => t ++ jt r
def ptx (f : Int → Int) (g : Int → ByteArray) : Nat → Int → List ByteArray
  | 0, _ => []
  | n + 1, next => g next :: ptx f g n (f next)
def txt (s : List S34) : Nat → Int → ByteArray
  | 0, _ => ⟨#[]⟩
  | d + 1, p => if (rd_T34 s p).f1 = 7 then ((hdt (rd_T34 s p) ++ (⟨#[123]⟩ : ByteArray)) ++ jn (ptx (chk s d) (txt s d) (rd_T34 s p).f3.toNat (p + 1))) ++ (⟨#[125]⟩ : ByteArray) else hdt (rd_T34 s p)
theorem jt_list (l : List ByteArray) : (jt l).data.toList = Lib.joinTail [44] (l.map (·.data.toList)) := by
  induction l with
  | nil => rfl
  | cons t r ih => simp [jt, Lib.joinTail, ih] at ih ⊢
theorem jn_list (l : List ByteArray) : (jn l).data.toList = Lib.join (l.map (·.data.toList)) [44] := by
  cases l with
  | nil => rfl
  | cons t r => rw [List.map_cons, Lib.join_cons, ← jt_list]; simp [jn]
theorem join_some (l : List ByteArray) (h : (jn l).size ≤ 140737488355328) (hl : l.length ≤ 140737488355328) : strings_Join.f l (⟨#[44]⟩ : ByteArray) = some (jn l) := by
  unfold strings_Join.f
  have e : Lib.join (l.map (·.data.toList)) (⟨#[44]⟩ : ByteArray).data.toList = (jn l).data.toList := (jn_list l).symm
  rw [e, if_pos ⟨by rw [Array.length_toList]; exact h, hl⟩]
theorem jt_append (a b : List ByteArray) : jt (a ++ b) = jt a ++ jt b := by
  induction a with
  | nil => simp [jt]; rfl
  | cons t r ih => simp only [List.cons_append, jt, ih, ByteArray.append_assoc]
theorem colB_parts {b : Bool} {c : S34} (h : colB b c = true) : 0 ≤ c.f2 ∧ c.f2 ≤ 2 ∧ 0 ≤ c.f1 ∧ c.f1 ≤ 7 ∧ (c.f1 = 7 → 1 ≤ c.f3) ∧ (c.f1 ≠ 7 → c.f3 = 0) ∧ (c.f1 = 0 ∨ c.f1 = 1 ∨ c.f1 = 2 ∨ c.f1 = 5 ∨ c.f1 = 6 ∨ c.f1 = 7) ∧ (b = false → c.f0.size ≤ 20) := by
  unfold colB at h
  simp only [Bool.and_eq_true] at h
  obtain ⟨⟨h1, h2⟩, h3⟩ := h
  have h2' := of_decide_eq_true h2
  have hn : b = false → c.f0.size ≤ 20 := by
    intro hb
    rw [hb, Bool.false_or] at h3
    unfold nameOk at h3
    have := of_decide_eq_true (Bool.and_eq_true_iff.mp h3).1
    omega
  by_cases h7 : c.f1 = 7
  · rw [if_pos h7] at h1
    have h1' := of_decide_eq_true h1
    exact ⟨by omega, by omega, by omega, by omega, fun _ => h1', fun h => absurd h7 h, by omega, hn⟩
  · rw [if_neg h7] at h1
    obtain ⟨ht, h3'⟩ := Bool.and_eq_true_iff.mp h1
    have ht' : c.f1 = 0 ∨ c.f1 = 1 ∨ c.f1 = 2 ∨ c.f1 = 5 ∨ c.f1 = 6 := of_decide_eq_true ht
    have h3'' := of_decide_eq_true h3'
    exact ⟨by omega, by omega, by omega, by omega, fun h => absurd h h7, fun _ => h3'', by omega, hn⟩
theorem sgt_size {c : S34} (h0 : 0 ≤ c.f2) (h1 : c.f2 ≤ 2) : (sgt c).size = 1 := by
  unfold sgt
  rw [ByteArray.size_extract]
  show min _ 3 - _ = 1
  omega
theorem tyt_size {c : S34} (h0 : 0 ≤ c.f1) (h1 : c.f1 ≤ 7) : (tyt c).size = 1 := by
  unfold tyt
  rw [ByteArray.size_extract]
  show min _ 8 - _ = 1
  omega
theorem hdt_size {c : S34} (h0 : 0 ≤ c.f2) (h1 : c.f2 ≤ 2) (h2 : 0 ≤ c.f1) (h3 : c.f1 ≤ 7) : (hdt c).size = 2 + c.f0.size := by
  unfold hdt
  rw [ByteArray.size_append, ByteArray.size_append, sgt_size h0 h1, tyt_size h2 h3]
theorem parts_succ {f : Int → Int} {s : List S34} {n : Nat} {next : Int} {names : List ByteArray} (h : parts f s (n + 1) next names ≠ -1) : next < s.length ∧ 0 ≤ f next ∧ parts f s (n + 1) next names = parts f s n (f next) (names ++ [(rd_T34 s next).f0]) := by
  rw [parts] at h ⊢
  by_cases h1 : next ≥ (s.length : Int)
  · rw [if_pos h1] at h; exact absurd rfl h
  rw [if_neg h1] at h ⊢
  by_cases h2 : names.any (fun x => decide (x.toList = (rd_T34 s next).f0.toList)) = true
  · rw [if_pos h2] at h; exact absurd rfl h
  rw [if_neg h2] at h ⊢
  by_cases h3 : f next < 0
  · rw [if_pos h3] at h; exact absurd rfl h
  rw [if_neg h3] at h ⊢
  exact ⟨by omega, by omega, rfl⟩
theorem chk_succ {s : List S34} {d : Nat} {p : Int} (h : chk s (d + 1) p ≠ -1) : p < s.length ∧ colB (decide (p = 0)) (rd_T34 s p) = true ∧ chk s (d + 1) p = parts (chk s d) s (rd_T34 s p).f3.toNat (p + 1) [] := by
  rw [chk] at h ⊢
  by_cases h1 : p ≥ (s.length : Int)
  · rw [if_pos h1] at h; exact absurd rfl h
  rw [if_neg h1] at h ⊢
  by_cases h2 : colB (decide (p = 0)) (rd_T34 s p) = true
  · rw [if_pos h2] at h ⊢; exact ⟨by omega, h2, rfl⟩
  · rw [if_neg h2] at h; exact absurd rfl h
theorem jt_small {f : Int → Int} {g : Int → ByteArray} {s : List S34} (hr : ∀ p, 0 ≤ p → f p = -1 ∨ (p < f p ∧ f p ≤ s.length)) (hg : ∀ p, 0 < p → f p ≠ -1 → ((g p).size : Int) + 1 ≤ 25 * (f p - p)) :
    ∀ (n : Nat) (next : Int) (names : List ByteArray), 0 < next → parts f s n next names ≠ -1 → ((jt (ptx f g n next)).size : Int) ≤ 25 * (parts f s n next names - next)
  | 0, next, names, _, _ => by
    show (0 : Int) ≤ 25 * (next - next)
    omega
  | n + 1, next, names, h0, h => by
    obtain ⟨h1, h2, h3⟩ := parts_succ h
    have e : jt (ptx f g (n + 1) next) = ((⟨#[44]⟩ : ByteArray) ++ g next) ++ jt (ptx f g n (f next)) := rfl
    have hf := hr next (by omega)
    have ih := jt_small hr hg n (f next) _ (by omega) (by rw [← h3]; exact h)
    have hgn := hg next h0 (by omega)
    have h44 : (⟨#[44]⟩ : ByteArray).size = 1 := rfl
    rw [e, h3, ByteArray.size_append, ByteArray.size_append, h44]
    omega
theorem jn_small {f : Int → Int} {g : Int → ByteArray} {s : List S34} (hr : ∀ p, 0 ≤ p → f p = -1 ∨ (p < f p ∧ f p ≤ s.length)) (hg : ∀ p, 0 < p → f p ≠ -1 → ((g p).size : Int) + 1 ≤ 25 * (f p - p)) (n : Nat) (next : Int) (names : List ByteArray) (h0 : 0 < next) (h : parts f s n next names ≠ -1) : ((jn (ptx f g n next)).size : Int) ≤ 25 * (parts f s n next names - next) := by
  cases n with
  | zero =>
    show (0 : Int) ≤ 25 * (next - next)
    omega
  | succ n =>
    obtain ⟨h1, h2, h3⟩ := parts_succ h
    have e : jn (ptx f g (n + 1) next) = g next ++ jt (ptx f g n (f next)) := rfl
    have hf := hr next (by omega)
    have ih := jt_small hr hg n (f next) _ (by omega) (by rw [← h3]; exact h)
    have hgn := hg next h0 (by omega)
    rw [e, h3, ByteArray.size_append]
    omega
theorem txt_small (s : List S34) : ∀ (d : Nat) (p : Int), 0 < p → chk s d p ≠ -1 → ((txt s d p).size : Int) + 1 ≤ 25 * (chk s d p - p)
  | 0, p, _, h => absurd rfl h
  | d + 1, p, h0, h => by
    obtain ⟨h1, h2, h3⟩ := chk_succ h
    rw [decide_eq_false (show ¬ p = 0 by omega)] at h2
    obtain ⟨a1, a2, a3, a4, a5, a6, _, a7⟩ := colB_parts h2
    have hs := hdt_size a1 a2 a3 a4
    have a7' := a7 rfl
    rw [txt, h3]
    by_cases h7 : (rd_T34 s p).f1 = 7
    · rw [if_pos h7]
      have := jn_small (fun q hq => chk_range s d q hq) (fun q hq hn => txt_small s d q hq hn) _ (p + 1) [] (by omega) (by rw [← h3]; exact h)
      have h123 : (⟨#[123]⟩ : ByteArray).size = 1 := rfl
      have h125 : (⟨#[125]⟩ : ByteArray).size = 1 := rfl
      rw [ByteArray.size_append, ByteArray.size_append, ByteArray.size_append, h123, h125, hs]
      omega
    · rw [if_neg h7, a6 h7]
      show ((hdt _).size : Int) + 1 ≤ 25 * (p + 1 - p)
      omega
theorem l22Sign_some (c : S34) (h0 : 0 ≤ c.f2) (h1 : c.f2 ≤ 2) : spec_l22Sign.f c.f2 = some (sgt c) := by
  unfold spec_l22Sign.f
  rw [wrap64_id (x := c.f2 + 1) (by omega) (by omega), if_pos (by omega), if_pos (by omega), if_pos (by omega)]
  rfl
theorem l22Type_some (c : S34) (h : c.f1 = 0 ∨ c.f1 = 1 ∨ c.f1 = 2 ∨ c.f1 = 5 ∨ c.f1 = 6 ∨ c.f1 = 7) : spec_l22Type.f c.f1 = some (tyt c) := by
  unfold spec_l22Type.f tyt
  rcases h with h | h | h | h | h | h <;> (rw [h]; decide)
theorem impl_parts_ev (s : List S34) (hs : ColsOk s) (hl : s.length ≤ 20) (d : Nat) (hcol : ∀ p, 0 < p → chk s d p ≠ -1 → Ev (fun k => impl_colText.f k s p) (txt s d p, chk s d p)) (p : Int) (h0 : 0 ≤ p) (h1 : p < s.length) (h3 : 0 ≤ (rd_T34 s p).f3)
    (h : parts (chk s d) s (rd_T34 s p).f3.toNat (p + 1) [] ≠ -1) : Ev (fun k => impl_partsText.f k s p) (jn (ptx (chk s d) (txt s d) (rd_T34 s p).f3.toNat (p + 1)), parts (chk s d) s (rd_T34 s p).f3.toNat (p + 1) []) := by
  have hm := hs.2.2 p
  refine Ev.step (fun k => by rw [impl_partsText.f]) ?_
  refine Ev.pos h0 (Ev.pos h1 ?_)
  rw [wrap64_id (x := p + 1) (by omega) (by omega)]
  have small := jn_small (fun q hq => chk_range s d q hq) (fun q hq hn => txt_small s d q hq hn) _ (p + 1) [] (by omega) h
  have hpr := parts_range (chk s d) s (fun q hq => chk_range s d q hq) (rd_T34 s p).f3.toNat (p + 1) [] (by omega) (by omega)
  have key : ∀ (n : Nat) (i next : Int) (names done : List ByteArray), i + n = (rd_T34 s p).f3 → 0 ≤ i → 0 < next → next ≤ s.length → (done.length : Int) ≤ next → (jn (done ++ ptx (chk s d) (txt s d) n next)).size ≤ 1000 → parts (chk s d) s n next names ≠ -1 →
      Ev (fun k => impl_partsText.l0 k s done next (rd_T34 s p).f3 i) (jn (done ++ ptx (chk s d) (txt s d) n next), parts (chk s d) s n next names) := by
    intro n
    induction n with
    | zero =>
      intro i next names done hi i0 n0 n1 dl sz hp
      refine Ev.step (fun k => by rw [impl_partsText.l0]) ?_
      have e : done ++ ptx (chk s d) (txt s d) 0 next = done := List.append_nil _
      rw [e] at sz ⊢
      exact Ev.neg (by omega) (Ev.here (join_some done (by omega) (by omega)) (Ev.now _))
    | succ n ih =>
      intro i next names done hi i0 n0 n1 dl sz hp
      obtain ⟨g1, g2, g3⟩ := parts_succ hp
      have hr := chk_range s d next (by omega)
      refine Ev.step (fun k => by rw [impl_partsText.l0]) ?_
      refine Ev.pos (by omega) (Ev.bind (hcol next n0 (by omega)) (Ev.pos (by omega) ?_))
      rw [wrap64_id (x := i + 1) (by omega) (by omega), g3]
      have e : done ++ ptx (chk s d) (txt s d) (n + 1) next = (done ++ [txt s d next]) ++ ptx (chk s d) (txt s d) n (chk s d next) := by rw [List.append_assoc]; rfl
      rw [e] at sz ⊢
      exact ih (i + 1) (chk s d next) _ (done ++ [txt s d next]) (by omega) (by omega) (by omega) (by omega) (by simp; omega) sz (by rw [← g3]; exact hp)
  exact key _ 0 (p + 1) [] [] (by omega) (by omega) (by omega) (by omega) (by simp; omega) (by rw [List.nil_append]; omega) h
theorem impl_colText_ev (s : List S34) (hs : ColsOk s) (hl : s.length ≤ 20) : ∀ (d : Nat) (p : Int), 0 < p → chk s d p ≠ -1 → Ev (fun k => impl_colText.f k s p) (txt s d p, chk s d p)
  | 0, p, _, h => absurd rfl h
  | d + 1, p, h0, h => by
    obtain ⟨h1, h2, h3⟩ := chk_succ h
    rw [decide_eq_false (show ¬ p = 0 by omega)] at h2
    obtain ⟨a1, a2, a3, a4, a5, a6, _, a7⟩ := colB_parts h2
    have a7' := a7 rfl
    have z1 := sgt_size a1 a2
    have z2 := tyt_size a3 a4
    have e1 : (⟨#[33, 63, 42]⟩ : ByteArray).extract ((rd_T34 s p).f2 : Int).toNat ((rd_T34 s p).f2 + 1 : Int).toNat = sgt (rd_T34 s p) := rfl
    have e2 : (⟨#[98, 105, 108, 32, 32, 100, 116, 103]⟩ : ByteArray).extract ((rd_T34 s p).f1 : Int).toNat ((rd_T34 s p).f1 + 1 : Int).toNat = tyt (rd_T34 s p) := rfl
    have h123 : (⟨#[123]⟩ : ByteArray).size = 1 := rfl
    rw [h3, txt]
    refine Ev.step (fun k => by rw [impl_colText.f]) ?_
    rw [wrap64_id (x := (rd_T34 s p).f2 + 1) (by omega) (by omega), wrap64_id (x := (rd_T34 s p).f1 + 1) (by omega) (by omega), wrap64_id (x := p + 1) (by omega) (by omega), e1, e2]
    refine Ev.pos (by omega) (Ev.pos h1 (Ev.pos a1 (Ev.pos (by omega) (Ev.pos (by omega) (Ev.pos a3 (Ev.pos (by omega) (Ev.pos (by omega) (Ev.pos (by omega) (Ev.pos (by rw [ByteArray.size_append]; omega) ?_)))))))))
    by_cases h7 : (rd_T34 s p).f1 = 7
    · have hp : parts (chk s d) s (rd_T34 s p).f3.toNat (p + 1) [] ≠ -1 := by rw [← h3]; exact h
      have small := jn_small (fun q hq => chk_range s d q hq) (fun q hq hn => txt_small s d q hq hn) _ (p + 1) [] (by omega) hp
      have hpr := parts_range (chk s d) s (fun q hq => chk_range s d q hq) (rd_T34 s p).f3.toNat (p + 1) [] (by omega) (by omega)
      rw [if_pos h7]
      refine Ev.pos h7 (Ev.bind (impl_parts_ev s hs hl d (fun q hq hn => impl_colText_ev s hs hl d q hq hn) p (by omega) h1 (by have := a5 h7; omega) hp) ?_)
      refine Ev.pos (by rw [ByteArray.size_append, ByteArray.size_append]; omega) (Ev.pos (by dsimp only; rw [ByteArray.size_append, ByteArray.size_append, ByteArray.size_append, h123]; omega) (Ev.pos (by dsimp only; rw [ByteArray.size_append, ByteArray.size_append, ByteArray.size_append, ByteArray.size_append, h123]; omega) (Ev.now _)))
    · rw [if_neg h7, a6 h7]
      exact Ev.neg h7 (Ev.now _)
theorem bytes_nil_append (x : ByteArray) : (⟨#[]⟩ : ByteArray) ++ x = x := by
  apply ByteArray.ext; simp
theorem bytes_append_nil (x : ByteArray) : x ++ (⟨#[]⟩ : ByteArray) = x := by
  apply ByteArray.ext; simp
theorem spec_parts_ev (s : List S34) (hs : ColsOk s) (hl : s.length ≤ 20) : ∀ (d : Nat) (p : Int), 0 ≤ p → p < s.length → 0 ≤ (rd_T34 s p).f3 → parts (chk s d) s (rd_T34 s p).f3.toNat (p + 1) [] ≠ -1 →
    Ev (fun k => spec_l22Parts.f k s p) (jn (ptx (chk s d) (txt s d) (rd_T34 s p).f3.toNat (p + 1))) := by
  intro d
  induction d with
  | zero =>
    intro p h0 h1 h3 h
    cases hn : (rd_T34 s p).f3.toNat with
    | succ n => rw [hn] at h; have := (parts_succ h).2.1; exact absurd this (by show ¬ (0 : Int) ≤ -1; decide)
    | zero =>
      refine Ev.step (fun k => by rw [spec_l22Parts.f]) (Ev.step (fun k => by rw [spec_l22Parts.l0]) ?_)
      exact Ev.pos h0 (Ev.pos h1 (Ev.neg (by omega) (Ev.now _)))
  | succ d ih =>
    intro p h0 h1 h3 h
    have hm := hs.2.2 p
    have hr := fun q hq => chk_range s (d + 1) q hq
    have key : ∀ (n : Nat) (i next : Int) (names : List ByteArray) (x : ByteArray), i + n = (rd_T34 s p).f3 → 0 ≤ i → 0 < next → next ≤ s.length → (x.size : Int) ≤ 25 * next → parts (chk s (d + 1)) s n next names ≠ -1 →
        Ev (fun k => spec_l22Parts.l0 k s p x next i) (x ++ (if i = 0 then jn (ptx (chk s (d + 1)) (txt s (d + 1)) n next) else jt (ptx (chk s (d + 1)) (txt s (d + 1)) n next))) := by
      intro n
      induction n with
      | zero =>
        intro i next names x hi i0 n0 n1 xs hp
        have e : x ++ (if i = 0 then jn (ptx (chk s (d + 1)) (txt s (d + 1)) 0 next) else jt (ptx (chk s (d + 1)) (txt s (d + 1)) 0 next)) = x := by split <;> exact bytes_append_nil x
        rw [e]
        refine Ev.step (fun k => by rw [spec_l22Parts.l0]) ?_
        exact Ev.pos h0 (Ev.pos h1 (Ev.neg (by omega) (Ev.now _)))
      | succ n ihn =>
        intro i next names x hi i0 n0 n1 xs hp
        obtain ⟨g1, g2, g3⟩ := parts_succ hp
        have hrn := hr next (by omega)
        have hne : chk s (d + 1) next ≠ -1 := by omega
        obtain ⟨b1, b2, b3⟩ := chk_succ hne
        rw [decide_eq_false (show ¬ next = 0 by omega)] at b2
        obtain ⟨a1, a2, a3, a4, a5, a6, a8, a7⟩ := colB_parts b2
        have a7' := a7 rfl
        have z1 := sgt_size a1 a2
        have z2 := tyt_size a3 a4
        have tz := txt_small s (d + 1) next n0 hne
        have hj : ∀ y : ByteArray, (y.size : Int) ≤ 25 * next + 1 → Ev (fun k => spec_l22Parts.j1 k s p y next i) ((y ++ txt s (d + 1) next) ++ jt (ptx (chk s (d + 1)) (txt s (d + 1)) n (chk s (d + 1) next))) := by
          intro y hy
          have h123 : (⟨#[123]⟩ : ByteArray).size = 1 := rfl
          refine Ev.step (fun k => by rw [spec_l22Parts.j1]) ?_
          refine Ev.pos (by omega) (Ev.pos b1 (Ev.here (l22Sign_some _ a1 a2) (Ev.pos (by omega) (Ev.here (l22Type_some _ a8) ?_))))
          refine Ev.pos (by rw [ByteArray.size_append]; omega) (Ev.pos (by rw [ByteArray.size_append, ByteArray.size_append]; omega) ?_)
          have cont : Ev (fun k => spec_l22Parts.l0 k s p (y ++ txt s (d + 1) next) (chk s (d + 1) next) (wrap64 (i + 1))) ((y ++ txt s (d + 1) next) ++ jt (ptx (chk s (d + 1)) (txt s (d + 1)) n (chk s (d + 1) next))) := by
            rw [wrap64_id (x := i + 1) (by omega) (by omega)]
            have := ihn (i + 1) (chk s (d + 1) next) _ (y ++ txt s (d + 1) next) (by omega) (by omega) (by omega) (by omega) (by rw [ByteArray.size_append]; omega) (by rw [← g3]; exact hp)
            rw [if_neg (by omega)] at this
            exact this
          by_cases h7 : (rd_T34 s next).f1 = 7
          · have hpp : parts (chk s d) s (rd_T34 s next).f3.toNat (next + 1) [] ≠ -1 := by rw [← b3]; exact hne
            have small := jn_small (fun q hq => chk_range s d q hq) (fun q hq hn => txt_small s d q hq hn) _ (next + 1) [] (by omega) hpp
            have hpr := parts_range (chk s d) s (fun q hq => chk_range s d q hq) (rd_T34 s next).f3.toNat (next + 1) [] (by omega) (by omega)
            have et : y ++ txt s (d + 1) next = (((((y ++ sgt (rd_T34 s next)) ++ tyt (rd_T34 s next)) ++ (rd_T34 s next).f0) ++ (⟨#[123]⟩ : ByteArray)) ++ jn (ptx (chk s d) (txt s d) (rd_T34 s next).f3.toNat (next + 1))) ++ (⟨#[125]⟩ : ByteArray) := by
              rw [txt, if_pos h7]; unfold hdt; simp only [ByteArray.append_assoc]
            rw [et] at cont ⊢
            refine Ev.pos h7 (Ev.pos (by rw [ByteArray.size_append, ByteArray.size_append, ByteArray.size_append]; omega) (Ev.bind (ih next (by omega) b1 (by have := a5 h7; omega) hpp) ?_))
            refine Ev.pos (by rw [ByteArray.size_append, ByteArray.size_append, ByteArray.size_append, ByteArray.size_append, h123]; omega) (Ev.pos (by rw [ByteArray.size_append, ByteArray.size_append, ByteArray.size_append, ByteArray.size_append, ByteArray.size_append, h123]; omega) ?_)
            exact Ev.bind (spec_l5After_ev s hs (d + 1) next (by omega) hne) cont
          · have et : y ++ txt s (d + 1) next = ((y ++ sgt (rd_T34 s next)) ++ tyt (rd_T34 s next)) ++ (rd_T34 s next).f0 := by
              rw [txt, if_neg h7]; unfold hdt; simp only [ByteArray.append_assoc]
            rw [et] at cont ⊢
            exact Ev.neg h7 (Ev.bind (spec_l5After_ev s hs (d + 1) next (by omega) hne) cont)
        refine Ev.step (fun k => by rw [spec_l22Parts.l0]) ?_
        refine Ev.pos h0 (Ev.pos h1 (Ev.pos (by omega) ?_))
        by_cases hi0 : i = 0
        · rw [if_pos hi0]
          refine Ev.neg (by omega) (Ev.cast (hj x (by omega)) ?_)
          show _ = x ++ (txt s (d + 1) next ++ jt _)
          rw [ByteArray.append_assoc]
        · rw [if_neg hi0]
          have h44 : (⟨#[44]⟩ : ByteArray).size = 1 := rfl
          refine Ev.pos (by omega) (Ev.pos (by omega) (Ev.cast (hj (x ++ (⟨#[44]⟩ : ByteArray)) (by rw [ByteArray.size_append, h44]; omega)) ?_))
          show _ = x ++ (((⟨#[44]⟩ : ByteArray) ++ txt s (d + 1) next) ++ jt _)
          simp only [ByteArray.append_assoc]
    refine Ev.step (fun k => by rw [spec_l22Parts.f]) ?_
    rw [wrap64_id (x := p + 1) (by omega) (by omega)]
    have := key _ 0 (p + 1) [] (⟨#[]⟩ : ByteArray) (by omega) (by omega) (by omega) (by omega) (by show (0 : Int) ≤ _; omega) h
    rw [if_pos rfl, bytes_nil_append] at this
    exact this
/-- The text of a schema, or none. -/
def schT (s : List S34) : ByteArray := if schOk s = true then jn (ptx (chk s 5) (txt s 5) (rd_T34 s 0).f3.toNat 1) else ⟨#[]⟩
theorem schemaPrint_both (s : List S34) (hs : ColsOk s) : Ev (fun k => spec_SchemaPrint.f k s) (schT s) ∧ Ev (fun k => impl_SchemaPrint.f k s) (schT s) := by
  unfold spec_SchemaPrint.f impl_SchemaPrint.f schT
  have e1 := spec_SchemaOk_ev s hs
  have e2 := impl_SchemaOk_ev s hs
  cases hk : schOk s with
  | false =>
    rw [hk] at e1 e2
    exact ⟨Ev.bind e1 (Ev.neg (by decide) (Ev.now _)), Ev.bind e2 (Ev.neg (by decide) (Ev.now _))⟩
  | true =>
    rw [hk] at e1 e2
    obtain ⟨l1, l2, l3, l4⟩ := schOk_parts hk
    have hne : chk s (5 + 1) 0 ≠ -1 := by show chk s 6 0 ≠ -1; omega
    obtain ⟨b1, b2, b3⟩ := chk_succ hne
    rw [decide_eq_true (show (0 : Int) = 0 from rfl)] at b2
    have hc := colB_parts b2
    have h7 : (rd_T34 s 0).f1 = 7 := by
      unfold rootB at l3
      exact of_decide_eq_true (Bool.and_eq_true_iff.mp (Bool.and_eq_true_iff.mp l3).1).1
    have h3 := hc.2.2.2.2.1 h7
    have hp : parts (chk s 5) s (rd_T34 s 0).f3.toNat (0 + 1) [] ≠ -1 := by rw [← b3]; exact hne
    refine ⟨Ev.bind e1 (Ev.pos rfl (Ev.bind (spec_parts_ev s hs (by omega) 5 0 (by omega) b1 (by omega) hp) (Ev.now _))), Ev.bind e2 (Ev.pos rfl (Ev.bind (impl_parts_ev s hs (by omega) 5 (fun q hq hn => impl_colText_ev s hs (by omega) 5 q hq hn) 0 (by omega) b1 (by omega) hp) (Ev.now _)))⟩
theorem FnExactSchemaPrint : ∀ (x0 : List (S31)), (x0.length ≤ maxLen ∧ ∀ y ∈ x0, w31 y) → ∃ k, laws_FnExactSchemaPrint.f k x0 = some true := by
  intro l hx
  refine Ev.rounds ?_
  unfold laws_FnExactSchemaPrint.f
  obtain ⟨r1, s1, c1, l1⟩ := szColS_ev l hx.1 hx.2 1048576 (by omega) (by omega)
  refine Ev.bind s1 ?_
  by_cases n1 : r1 < 0
  · exact Ev.pos n1 (Ev.now _)
  refine Ev.neg n1 ?_
  have t1 := toColS_ev l (by omega)
  have hs := colsOk_of l (by omega) hx.2
  obtain ⟨es, ei⟩ := schemaPrint_both (l.map cvCol) hs
  have q1 := eqColS_ev (l.map cvCol) (by simp; omega)
  exact Ev.bind t1 (Ev.bind es (Ev.bind t1 (Ev.bind ei (Ev.pos rfl (Ev.bind t1 (Ev.bind q1 (Ev.pos rfl (Ev.now _))))))))
end Go.Proofs.Ytbmcjgkppjnafaa.Pure
