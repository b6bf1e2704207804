/- The pure statement of FnExactMetaOk: the printed functions answer as the law says, for all arguments. No condition. -/
import Derived.Test.YtnfamhegbfjggaaVFnExactMetaOk
import Derived.Test.YtnfamhegbfjggaaPFnExactMetaOkx
import Derived.Test.YtnfamhegbfjggaaArgFnExactMetaOk
namespace Go.Proofs.Ytnfamhegbfjggaa.Pure
open Go.RowKit Go.Proofs.Ytnfamhegbfjggaa.PFnExactMetaOk Go.Proofs.Ytnfamhegbfjggaa.Core Go.Proofs.YtnfamhegbfjggaaW.PrintWords Go.Proofs.YtnfamhegbfjggaaW.PrintLast Go.Proofs.YtnfamhegbfjggaaW.PrintMore Go.Proofs.YtnfamhegbfjggaaW.PrintMore2 Go.Proofs.Ytnfamhegbfjggaa.AFnExactMetaOk
set_option linter.unusedVariables false
set_option linter.unusedSimpArgs false
def cvCol (x : S122) : S125 := ⟨x.f0, x.f1, x.f2, x.f3⟩
theorem toColS_ev (l : List S122) (hl : l.length ≤ 1048576) : Ev (fun k => laws_toColS.f k l) (l.map cvCol) := by
  unfold laws_toColS.f
  refine Ev.pos (by omega) (Ev.pos (by omega) ?_)
  refine copy_loop (fun k out i => laws_toColS.l0 k l out i) l cvCol (fun out i r h ho hr => ?_) (fun out ho => ?_) (List.replicate ((l.length : Int)).toNat z125) (by simp)
  · refine Ev.step (fun k => by rw [laws_toColS.l0]) ?_
    refine Ev.pos (by omega) (Ev.pos (by omega) (Ev.here rfl (Ev.pos (by omega) ?_)))
    rw [wrap64_id (by omega) (by omega)]
    have e : rd_T122 l (i : Int) = l[i] := getD_eq (by simpa using h)
    simp only [e]
    simpa [cvCol] using hr
  · exact Ev.step (fun k => by rw [laws_toColS.l0]) (by exact Ev.neg (by omega) (Ev.now _))
theorem szCol_some (x : S122) (hw : w122 x) (c : Int) (h0 : 0 ≤ c) (h1 : c ≤ 1048576) : ∃ r, laws_szCol.f x.f0 x.f1 x.f2 x.f3 c = some r ∧ r ≤ c := by
  have b0 : (x.f0.size : Int) ≤ 9223372036854775807 := by have := hw.1; unfold maxLen at this; omega
  unfold laws_szCol.f
  rw [wrap64_id (x := c - (x.f0.size : Int)) (by omega) (by omega)]
  by_cases n0 : c - (x.f0.size : Int) < 0
  · exact ⟨-1, by simp [n0], by omega⟩
  simp only [if_neg n0, Option.bind_some]
  exact ⟨_, rfl, by omega⟩
theorem szColS_ev (l : List S122) (hw : l.length ≤ maxLen) (ht : ∀ x ∈ l, w122 x) (c : Int) (h0 : 0 ≤ c) (h1 : c ≤ 1048576) : ∃ r, Ev (fun k => laws_szColS.f k l c) r ∧ r ≤ c ∧ (0 ≤ r → r + l.length ≤ c) := by
  have hm : l.length ≤ 9223372036854775807 := by unfold maxLen at hw; omega
  unfold laws_szColS.f
  rw [wrap64_id (by omega) (by omega)]
  by_cases hn : c - (l.length : Int) < 0
  · exact ⟨-1, Ev.pos hn (Ev.now _), by omega, by omega⟩
  · obtain ⟨r, hr, hrc⟩ := budget_loop (fun k c i => laws_szColS.l0 k l c i) l.length (fun c i hc0 hc1 hi => by
      have e : rd_T122 l (i : Int) = l[i] := getD_eq (by simpa using hi)
      obtain ⟨c', hc', hle⟩ := szCol_some l[i] (ht l[i] (List.getElem_mem hi)) c hc0 hc1
      refine ⟨c', hle, fun hneg => ?_, fun hpos r hr => ?_⟩
      · exact Ev.step (fun k => by rw [laws_szColS.l0]) (by exact Ev.pos (by omega) (Ev.pos (by omega) (Ev.here (by rw [e]; exact hc') (Ev.pos hneg (Ev.now _)))))
      · refine Ev.step (fun k => by rw [laws_szColS.l0]) ?_
        refine Ev.pos (by omega) (Ev.pos (by omega) (Ev.here (by rw [e]; exact hc') (Ev.neg (by omega) ?_)))
        rw [wrap64_id (by omega) (by omega)]
        simpa using hr)
      (fun c => Ev.step (fun k => by rw [laws_szColS.l0]) (by exact Ev.neg (by omega) (Ev.now _))) (c - l.length) (by omega) (by omega)
    exact ⟨r, Ev.neg hn hr, by omega, by omega⟩
theorem eqCol_ev (a : S125) : laws_eqCol.f a.f0 a.f1 a.f2 a.f3 a.f0 a.f1 a.f2 a.f3 = some true := by
  unfold laws_eqCol.f
  simp
theorem eqColS_ev (l : List S125) (hl : l.length ≤ 9223372036854775806) : Ev (fun k => laws_eqColS.f k l l) true := by
  unfold laws_eqColS.f
  refine Ev.pos rfl ?_
  refine same_loop (fun k i => laws_eqColS.l0 k l l i) l.length (fun i r h hr => ?_) ?_
  · refine Ev.step (fun k => by rw [laws_eqColS.l0]) ?_
    refine Ev.pos (by omega) (Ev.pos (by omega) (Ev.pos (by omega) (Ev.here (eqCol_ev _) (Ev.pos rfl ?_))))
    rw [wrap64_id (by omega) (by omega)]
    simpa using hr
  · exact Ev.step (fun k => by rw [laws_eqColS.l0]) (by exact Ev.neg (by omega) (Ev.now _))
theorem toIntS_ev (l : List Int) (hl : l.length ≤ 35184372088832) : Ev (fun k => laws_toIntS.f k l) l := by
  unfold laws_toIntS.f
  refine Ev.pos (by omega) (Ev.pos (by omega) ?_)
  have := copy_loop (fun k out i => laws_toIntS.l0 k l out i) l id (fun out i r h ho hr => ?_) (fun out ho => ?_) (List.replicate ((l.length : Int)).toNat 0) (by simp)
  · simpa using this
  · refine Ev.step (fun k => by rw [laws_toIntS.l0]) ?_
    refine Ev.pos (by omega) (Ev.pos (by omega) (Ev.pos (by omega) ?_))
    rw [wrap64_id (by omega) (by omega), rd_eq (by simpa using h)]
    simpa using hr
  · exact Ev.step (fun k => by rw [laws_toIntS.l0]) (by exact Ev.neg (by omega) (Ev.now _))
theorem eqIntS_ev (l : List Int) (hl : l.length ≤ 9223372036854775806) : Ev (fun k => laws_eqIntS.f k l l) true := by
  unfold laws_eqIntS.f
  refine Ev.pos rfl ?_
  refine same_loop (fun k i => laws_eqIntS.l0 k l l i) l.length (fun i r h hr => ?_) ?_
  · refine Ev.step (fun k => by rw [laws_eqIntS.l0]) ?_
    refine Ev.pos (by omega) (Ev.pos (by omega) (Ev.pos (by omega) (Ev.pos rfl ?_)))
    rw [wrap64_id (by omega) (by omega)]
    simpa using hr
  · exact Ev.step (fun k => by rw [laws_eqIntS.l0]) (by exact Ev.neg (by omega) (Ev.now _))
def tOk (t : Int) : Bool := decide (t = 0 ∨ t = 1 ∨ t = 2 ∨ t = 5 ∨ t = 6)
theorem l5Type_some (t : Int) : spec_l5Type.f t = some (tOk t) := by
  unfold spec_l5Type.f
  (repeat' split) <;> simp_all [tOk]
theorem l1In_same (x lo hi : Int) : (if x ≥ lo then some (decide (x ≤ hi)) else some false) = some (decide (lo ≤ x ∧ x ≤ hi)) := by
  by_cases h : x ≥ lo
  · rw [if_pos h]; congr 1; simp; omega
  · rw [if_neg h]; congr 1; symm; simp; omega
theorem within_some (x lo hi : Int) : impl_within.f x lo hi = some (decide (lo ≤ x ∧ x ≤ hi)) := by unfold impl_within.f; exact l1In_same x lo hi
theorem typeOk_some (t : Int) : impl_TypeOk.f t = some (tOk t) := by
  unfold impl_TypeOk.f
  rw [within_some]
  simp only [Option.bind_some]
  by_cases h : 0 ≤ t ∧ t ≤ 2
  · rw [if_pos (by simpa using h)]
    have : t = 0 ∨ t = 1 ∨ t = 2 := by omega
    rcases this with rfl | rfl | rfl <;> rfl
  · rw [if_neg (by simpa using h)]
    by_cases h5 : t = 5
    · subst h5; rfl
    · rw [if_neg h5]
      by_cases h6 : t = 6
      · subst h6; rfl
      · have h0 : t ≠ 0 := by omega
        have h1 : t ≠ 1 := by omega
        have h2 : t ≠ 2 := by omega
        simp [tOk, h0, h1, h2, h5, h6]
theorem l1In_some (x lo hi : Int) : spec_l1In.f x lo hi = some (decide (lo ≤ x ∧ x ≤ hi)) := by unfold spec_l1In.f; exact l1In_same x lo hi
def nameOk (b : ByteArray) : Bool := decide (1 ≤ (b.size : Int) ∧ (b.size : Int) ≤ 20) && (List.range b.size).all (fun (i : Nat) => decide (97 ≤ bt b (i : Int) ∧ bt b (i : Int) ≤ 122))
theorem spec_l5Name_ev (b : ByteArray) (hb : b.size ≤ 9223372036854775807) : Ev (fun k => spec_l5Name.f k b) (nameOk b) := by
  unfold spec_l5Name.f nameOk
  refine Ev.here (l1In_some _ _ _) ?_
  by_cases h : 1 ≤ (b.size : Int) ∧ (b.size : Int) ≤ 20
  · rw [decide_eq_true h]
    refine Ev.pos rfl ?_
    have key := all_loop (fun k i => spec_l5Name.l0 k b i) (fun (i : Nat) => decide (97 ≤ bt b (i : Int) ∧ bt b (i : Int) ≤ 122)) b.size false true
      (fun i r hi hp hr => by
        have hp' := of_decide_eq_true hp
        refine Ev.step (fun k => by rw [spec_l5Name.l0]) ?_
        refine Ev.pos (by omega) (Ev.pos (by omega) (Ev.neg (by omega) (Ev.neg (by omega) ?_)))
        rw [wrap64_id (by omega) (by omega)]
        simpa using hr)
      (fun i hi hp => by
        have hp' := of_decide_eq_false hp
        refine Ev.step (fun k => by rw [spec_l5Name.l0]) ?_
        refine Ev.pos (by omega) (Ev.pos (by omega) ?_)
        by_cases h1 : bt b (i : Int) < 97
        · exact Ev.pos h1 (Ev.now _)
        · exact Ev.neg h1 (Ev.pos (by omega) (Ev.now _)))
      (by exact Ev.step (fun k => by rw [spec_l5Name.l0]) (by exact Ev.neg (by omega) (Ev.now _)))
    refine Ev.cast key ?_
    cases (List.range b.size).all _ <;> rfl
  · rw [decide_eq_false h]
    exact Ev.neg (by decide) (Ev.now _)
theorem impl_isColName_ev (b : ByteArray) (hb : b.size ≤ 9223372036854775807) : Ev (fun k => impl_isColName.f k b) (nameOk b) := by
  unfold impl_isColName.f nameOk
  have key := all_loop (fun k i => impl_isColName.l0 k b (b.size : Int) i) (fun (i : Nat) => decide (97 ≤ bt b (i : Int) ∧ bt b (i : Int) ≤ 122)) b.size false (decide (1 ≤ (b.size : Int) ∧ (b.size : Int) ≤ 20))
    (fun i r hi hp hr => by
      have hp' := of_decide_eq_true hp
      refine Ev.step (fun k => by rw [impl_isColName.l0]) ?_
      rw [wrap64_id (x := bt b (i : Int)) (by omega) (by omega)]
      refine Ev.pos (by omega) (Ev.pos (by omega) (Ev.pos (by omega) (Ev.here (within_some _ _ _) (Ev.pos hp ?_))))
      rw [wrap64_id (by omega) (by omega)]
      simpa using hr)
    (fun i hi hp => by
      have hrg := bt_range b (i : Int)
      refine Ev.step (fun k => by rw [impl_isColName.l0]) ?_
      rw [wrap64_id (x := bt b (i : Int)) (by omega) (by omega)]
      refine Ev.pos (by omega) (Ev.pos (by omega) (Ev.pos (by omega) (Ev.here (within_some _ _ _) ?_)))
      rw [hp]
      exact Ev.neg (by decide) (Ev.now _))
    (by
      refine Ev.step (fun k => by rw [impl_isColName.l0]) ?_
      exact Ev.neg (by omega) (Ev.here (within_some _ _ _) (Ev.now _)))
  refine Ev.cast key ?_
  cases (List.range b.size).all _ <;> simp
def colB (root : Bool) (c : S125) : Bool := (if c.f1 = 7 then decide (1 ≤ c.f3) else tOk c.f1 && decide (c.f3 = 0)) && decide (0 ≤ c.f2 ∧ c.f2 ≤ 2) && (root || nameOk c.f0)
def parts (f : Int → Int) (s : List S125) : Nat → Int → List ByteArray → Int
  | 0, next, _ => next
  | n + 1, next, names => if next ≥ (s.length : Int) then -1 else if names.any (fun x => decide (x.toList = (rd_T125 s next).f0.toList)) then -1 else if f next < 0 then -1 else parts f s n (f next) (names ++ [(rd_T125 s next).f0])
def chk (s : List S125) : Nat → Int → Int
  | 0, _ => -1
  | d + 1, p => if p ≥ (s.length : Int) then -1 else if colB (decide (p = 0)) (rd_T125 s p) = true then parts (chk s d) s (rd_T125 s p).f3.toNat (p + 1) [] else -1
theorem parts_range (f : Int → Int) (s : List S125) (hf : ∀ p, 0 ≤ p → f p = -1 ∨ (p < f p ∧ f p ≤ s.length)) : ∀ (n : Nat) (next : Int) (names : List ByteArray), 0 ≤ next → next ≤ s.length → parts f s n next names = -1 ∨ (next ≤ parts f s n next names ∧ parts f s n next names ≤ s.length)
  | 0, next, names, h0, h1 => .inr ⟨by simp [parts], by simp [parts]; exact h1⟩
  | n + 1, next, names, h0, h1 => by
    unfold parts
    split
    · exact .inl rfl
    split
    · exact .inl rfl
    split
    · exact .inl rfl
    · have hn := hf next h0
      have := parts_range f s hf n (f next) (names ++ [(rd_T125 s next).f0]) (by omega) (by omega)
      omega
theorem chk_range (s : List S125) : ∀ (d : Nat) (p : Int), 0 ≤ p → chk s d p = -1 ∨ (p < chk s d p ∧ chk s d p ≤ s.length)
  | 0, p, h => .inl rfl
  | d + 1, p, h => by
    unfold chk
    split
    · exact .inl rfl
    split
    · have := parts_range (chk s d) s (fun q hq => chk_range s d q hq) (rd_T125 s p).f3.toNat (p + 1) [] (by omega) (by omega)
      omega
    · exact .inl rfl
/-- A row of columns whose names are no longer than Go's int, and that are not too many. -/
def ColsOk (s : List S125) : Prop := s.length ≤ 1048576 ∧ (∀ i : Int, (rd_T125 s i).f0.size ≤ 9223372036854775807) ∧ (∀ i : Int, (rd_T125 s i).f3 ≤ 9223372036854775807)
theorem colOk_some (c : S125) : impl_colOk.f c.f0 c.f1 c.f2 c.f3 = some ((if c.f1 = 7 then decide (1 ≤ c.f3) else tOk c.f1 && decide (c.f3 = 0)) && decide (0 ≤ c.f2 ∧ c.f2 ≤ 2)) := by
  unfold impl_colOk.f
  simp only [typeOk_some, within_some, Option.bind_some]
  by_cases h7 : c.f1 = 7
  · rw [if_pos h7, if_pos h7]
    have ht : tOk c.f1 = false := by rw [h7]; rfl
    rw [ht, if_neg (by decide)]
    by_cases h : c.f3 > 0
    · rw [if_pos h, decide_eq_true (show 1 ≤ c.f3 by omega)]; rfl
    · rw [if_neg h, decide_eq_false (show ¬ 1 ≤ c.f3 by omega)]; rfl
  · rw [if_neg h7, if_neg h7]
    cases ht : tOk c.f1 with
    | false => rw [if_neg (by decide)]; rfl
    | true =>
      rw [if_pos rfl]
      by_cases h : c.f3 = 0
      · rw [if_pos h, decide_eq_true h]; rfl
      · rw [if_neg h, decide_eq_false h]; rfl
theorem impl_colAfter_ev (s : List S125) (hs : ColsOk s) : ∀ (d : Nat) (p : Int), d ≤ 7 → 0 ≤ p → p ≤ s.length → Ev (fun k => impl_colAfter.f k s p (7 - (d : Int))) (chk s d p) := by
  obtain ⟨hl, hn, hm⟩ := hs
  have bad : ∀ p dd, Ev (fun k => impl_colAfter.j0 k s p dd true) (-1) := fun p dd => Ev.step (fun k => by rw [impl_colAfter.j0]) (by exact Ev.pos rfl (Ev.now _))
  intro d
  induction d with
  | zero =>
    intro p _ h0 h1
    refine Ev.step (fun k => by rw [impl_colAfter.f]) ?_
    by_cases h : p ≥ (s.length : Int)
    · exact Ev.pos h (bad _ _)
    · exact Ev.neg h (Ev.pos (by omega) (bad _ _))
  | succ d ih =>
    intro p hd h0 h1
    refine Ev.step (fun k => by rw [impl_colAfter.f]) ?_
    unfold chk
    by_cases h : p ≥ (s.length : Int)
    · rw [if_pos h]; exact Ev.pos h (bad _ _)
    rw [if_neg h]
    refine Ev.neg h (Ev.neg (by omega) (Ev.pos h0 (Ev.pos (by omega) (Ev.here (colOk_some (rd_T125 s p)) ?_))))
    have inner : ∀ (n : Nat) (i next : Int) (names : List ByteArray), i + n = (rd_T125 s p).f3 → 0 ≤ i → 0 ≤ next → next ≤ s.length → (names.length : Int) ≤ next →
        Ev (fun k => impl_colAfter.l0 k s (7 - ((d + 1 : Nat) : Int)) next names (rd_T125 s p).f3 i) (parts (chk s d) s n next names) := by
      intro n
      induction n with
      | zero =>
        intro i next names hi i0 n0 n1 nl
        exact Ev.step (fun k => by rw [impl_colAfter.l0]) (by exact Ev.neg (by omega) (Ev.now _))
      | succ n ihn =>
        intro i next names hi i0 n0 n1 nl
        refine Ev.step (fun k => by rw [impl_colAfter.l0]) ?_
        unfold parts
        refine Ev.pos (by omega) ?_
        by_cases hx : next ≥ (s.length : Int)
        · rw [if_pos hx]; exact Ev.pos hx (Ev.now _)
        rw [if_neg hx]
        refine Ev.neg hx ?_
        have rest : ∀ (m j : Nat), j + m = names.length → Ev (fun k => impl_colAfter.l1 k s (7 - ((d + 1 : Nat) : Int)) next names (rd_T125 s p).f3 i (names.length : Int) (j : Int))
            (if (names.drop j).any (fun x => decide (x.toList = (rd_T125 s next).f0.toList)) then -1 else if chk s d next < 0 then -1 else parts (chk s d) s n (chk s d next) (names ++ [(rd_T125 s next).f0])) := by
          intro m
          induction m with
          | zero =>
            intro j hj
            rw [List.drop_eq_nil_of_le (by omega)]
            rw [if_neg (by simp)]
            refine Ev.step (fun k => by rw [impl_colAfter.l1]) ?_
            refine Ev.neg (by omega) (Ev.pos n0 (Ev.pos (by omega) (Ev.pos (by omega) ?_)))
            have e : wrap64 (7 - ((d + 1 : Nat) : Int) + 1) = 7 - (d : Int) := by rw [wrap64_id (by omega) (by omega)]; omega
            rw [e]
            refine Ev.bind (ih next (by omega) n0 n1) ?_
            have hr := chk_range s d next n0
            by_cases hneg : chk s d next < 0
            · rw [if_pos hneg]; exact Ev.pos hneg (Ev.now _)
            · rw [if_neg hneg]
              refine Ev.neg hneg ?_
              have hmm := hm p
              rw [wrap64_id (x := i + 1) (by omega) (by omega)]
              exact ihn (i + 1) (chk s d next) (names ++ [(rd_T125 s next).f0]) (by omega) (by omega) (by omega) (by omega) (by simp; omega)
          | succ m ihm =>
            intro j hj
            have hjl : j < names.length := by omega
            have ed : names.drop j = names[j] :: names.drop (j + 1) := List.drop_eq_getElem_cons hjl
            refine Ev.step (fun k => by rw [impl_colAfter.l1]) ?_
            refine Ev.pos (by omega) (Ev.pos (by omega) (Ev.pos (by omega) (Ev.pos n0 (Ev.pos (by omega) ?_))))
            rw [rdOf_eq (by omega)]
            have ej : names[((j : Int)).toNat]'(by omega) = names[j] := rfl
            rw [ej, ed, List.any_cons]
            by_cases he : (names[j]).toList = (rd_T125 s next).f0.toList
            · rw [decide_eq_true he]; exact Ev.pos he (Ev.now _)
            · rw [decide_eq_false he]
              refine Ev.neg he ?_
              rw [wrap64_id (x := (j : Int) + 1) (by omega) (by omega)]
              exact ihm (j + 1) (by omega)
        exact rest names.length 0 (by omega)
    have hx : ∀ b : Bool, colB (decide (p = 0)) (rd_T125 s p) = !b → Ev (fun k => impl_colAfter.j0 k s p (7 - ((d + 1 : Nat) : Int)) b) (if colB (decide (p = 0)) (rd_T125 s p) = true then parts (chk s d) s (rd_T125 s p).f3.toNat (p + 1) [] else -1) := by
      intro b hb
      cases b with
      | true => rw [hb, if_neg (by decide)]; exact bad _ _
      | false =>
        rw [hb, if_pos (show (!false) = true from rfl)]
        refine Ev.step (fun k => by rw [impl_colAfter.j0]) ?_
        have hm0 : 0 ≤ (rd_T125 s p).f3 := by
          unfold colB at hb
          by_cases h7 : (rd_T125 s p).f1 = 7
          · rw [if_pos h7] at hb; simp at hb; omega
          · rw [if_neg h7] at hb; simp at hb; omega
        refine Ev.neg (by decide) (Ev.pos h0 (Ev.pos (by omega) ?_))
        rw [wrap64_id (x := p + 1) (by omega) (by omega)]
        exact inner (rd_T125 s p).f3.toNat 0 (p + 1) [] (by omega) (by omega) (by omega) (by omega) (by simp; omega)
    cases hc : ((if (rd_T125 s p).f1 = 7 then decide (1 ≤ (rd_T125 s p).f3) else tOk (rd_T125 s p).f1 && decide ((rd_T125 s p).f3 = 0)) && decide (0 ≤ (rd_T125 s p).f2 ∧ (rd_T125 s p).f2 ≤ 2)) with
    | false => exact Ev.neg (by decide) (hx true (by unfold colB; rw [hc]; rfl))
    | true =>
      refine Ev.pos rfl ?_
      by_cases hp0 : p > 0
      · refine Ev.pos hp0 (Ev.bind (impl_isColName_ev _ (hn p)) ?_)
        exact hx _ (by unfold colB; rw [hc, decide_eq_false (show ¬ p = 0 by omega)]; simp)
      · refine Ev.neg hp0 ?_
        exact hx false (by unfold colB; rw [hc, decide_eq_true (show p = 0 by omega)]; simp)
def rootB (c : S125) : Bool := decide (c.f1 = 7) && decide (c.f2 = 0) && decide (c.f0.toList = ([] : List UInt8))
theorem spec_l5Check_ev (s : List S125) (hs : ColsOk s) : ∀ (d : Nat) (p : Int), d ≤ 7 → 0 ≤ p → p ≤ s.length → Ev (fun k => spec_l5Check.f k s p (7 - (d : Int))) (if p = 0 ∧ rootB (rd_T125 s p) = false then -1 else chk s d p) := by
  obtain ⟨hl, hn, hm⟩ := hs
  have bad : ∀ p dd, Ev (fun k => spec_l5Check.j0 k s p dd true) (-1) := fun p dd => Ev.step (fun k => by rw [spec_l5Check.j0]) (by exact Ev.pos rfl (Ev.now _))
  intro d
  induction d with
  | zero =>
    intro p _ h0 h1
    refine Ev.step (fun k => by rw [spec_l5Check.f]) ?_
    have e : (if p = 0 ∧ rootB (rd_T125 s p) = false then -1 else chk s 0 p) = -1 := by split <;> rfl
    rw [e]
    by_cases h : p ≥ (s.length : Int)
    · exact Ev.pos h (bad _ _)
    · refine Ev.neg h ?_
      have : decide (7 - ((0 : Nat) : Int) > 6) = true := by decide
      rw [this]; exact bad _ _
  | succ d ih =>
    intro p hd h0 h1
    refine Ev.step (fun k => by rw [spec_l5Check.f]) ?_
    by_cases h : p ≥ (s.length : Int)
    · have e : (if p = 0 ∧ rootB (rd_T125 s p) = false then -1 else chk s (d + 1) p) = -1 := by
        split
        · rfl
        · unfold chk; rw [if_pos h]
      rw [e]; exact Ev.pos h (bad _ _)
    refine Ev.neg h ?_
    have hdd : decide (7 - ((d + 1 : Nat) : Int) > 6) = false := decide_eq_false (by omega)
    rw [hdd]
    refine Ev.step (fun k => by rw [spec_l5Check.j0]) ?_
    refine Ev.neg (by decide) (Ev.pos h0 (Ev.pos (by omega) ?_))
    have inner : ∀ (n : Nat) (i next : Int) (names : List ByteArray), i + n = (rd_T125 s p).f3 → 0 ≤ i → 0 < next → next ≤ s.length → (names.length : Int) ≤ next →
        Ev (fun k => spec_l5Check.l0 k s (7 - ((d + 1 : Nat) : Int)) next names i (rd_T125 s p).f0 (rd_T125 s p).f1 (rd_T125 s p).f2 (rd_T125 s p).f3) (parts (chk s d) s n next names) := by
      intro n
      induction n with
      | zero =>
        intro i next names hi i0 n0 n1 nl
        exact Ev.step (fun k => by rw [spec_l5Check.l0]) (by exact Ev.neg (by omega) (Ev.now _))
      | succ n ihn =>
        intro i next names hi i0 n0 n1 nl
        refine Ev.step (fun k => by rw [spec_l5Check.l0]) ?_
        unfold parts
        refine Ev.pos (by omega) ?_
        by_cases hx : next ≥ (s.length : Int)
        · rw [if_pos hx]; exact Ev.pos hx (Ev.now _)
        rw [if_neg hx]
        refine Ev.neg hx ?_
        have rest : ∀ (m j : Nat), j + m = names.length → Ev (fun k => spec_l5Check.l1 k s (7 - ((d + 1 : Nat) : Int)) next names i (j : Int) (rd_T125 s p).f0 (rd_T125 s p).f1 (rd_T125 s p).f2 (rd_T125 s p).f3)
            (if (names.drop j).any (fun x => decide (x.toList = (rd_T125 s next).f0.toList)) then -1 else if chk s d next < 0 then -1 else parts (chk s d) s n (chk s d next) (names ++ [(rd_T125 s next).f0])) := by
          intro m
          induction m with
          | zero =>
            intro j hj
            rw [List.drop_eq_nil_of_le (by omega)]
            rw [if_neg (by simp)]
            refine Ev.step (fun k => by rw [spec_l5Check.l1]) ?_
            refine Ev.neg (by omega) (Ev.pos (by omega) (Ev.pos (by omega) (Ev.pos (by omega) ?_)))
            have e : wrap64 (7 - ((d + 1 : Nat) : Int) + 1) = 7 - (d : Int) := by rw [wrap64_id (by omega) (by omega)]; omega
            rw [e]
            have hih := ih next (by omega) (by omega) n1
            rw [if_neg (by omega)] at hih
            refine Ev.bind hih ?_
            have hr := chk_range s d next (by omega)
            by_cases hneg : chk s d next < 0
            · rw [if_pos hneg]; exact Ev.pos hneg (Ev.now _)
            · rw [if_neg hneg]
              refine Ev.neg hneg ?_
              have hmm := hm p
              rw [wrap64_id (x := i + 1) (by omega) (by omega)]
              exact ihn (i + 1) (chk s d next) (names ++ [(rd_T125 s next).f0]) (by omega) (by omega) (by omega) (by omega) (by simp; omega)
          | succ m ihm =>
            intro j hj
            have hjl : j < names.length := by omega
            have ed : names.drop j = names[j] :: names.drop (j + 1) := List.drop_eq_getElem_cons hjl
            refine Ev.step (fun k => by rw [spec_l5Check.l1]) ?_
            refine Ev.pos (by omega) (Ev.pos (by omega) (Ev.pos (by omega) (Ev.pos (by omega) ?_)))
            rw [rdOf_eq (by omega)]
            have ej : names[((j : Int)).toNat]'(by omega) = names[j] := rfl
            rw [ej, ed, List.any_cons]
            by_cases he : (names[j]).toList = (rd_T125 s next).f0.toList
            · rw [decide_eq_true he]; exact Ev.pos he (Ev.now _)
            · rw [decide_eq_false he]
              refine Ev.neg he ?_
              rw [wrap64_id (x := (j : Int) + 1) (by omega) (by omega)]
              exact ihm (j + 1) (by omega)
        exact rest names.length 0 (by omega)
    -- what stands behind the checks of the name and of the kind of repetition
    have hx : ∀ b : Bool, (!b) = (decide (0 ≤ (rd_T125 s p).f2 ∧ (rd_T125 s p).f2 ≤ 2) && (decide (p = 0) || nameOk (rd_T125 s p).f0)) → Ev (fun k => spec_l5Check.j1 k s p (7 - ((d + 1 : Nat) : Int)) b (rd_T125 s p).f0 (rd_T125 s p).f1 (rd_T125 s p).f2 (rd_T125 s p).f3) (chk s (d + 1) p) := by
      intro b hb
      unfold chk
      rw [if_neg h]
      refine Ev.step (fun k => by rw [spec_l5Check.j1]) ?_
      unfold colB
      rw [Bool.and_assoc, ← hb]
      cases b with
      | true => rw [Bool.not_true, Bool.and_false, if_neg (show ¬ (false = true) by decide)]; exact Ev.pos rfl (Ev.now _)
      | false =>
        rw [Bool.not_false, Bool.and_true]
        refine Ev.neg (by decide) ?_
        by_cases h7 : (rd_T125 s p).f1 = 7
        · refine Ev.pos h7 ?_
          rw [if_pos h7]
          by_cases h3 : (rd_T125 s p).f3 < 1
          · rw [decide_eq_false (show ¬ 1 ≤ (rd_T125 s p).f3 by omega), if_neg (show ¬ (false = true) by decide)]; exact Ev.pos h3 (Ev.now _)
          · rw [decide_eq_true (show 1 ≤ (rd_T125 s p).f3 by omega), if_pos (show true = true from rfl)]
            refine Ev.neg h3 ?_
            rw [wrap64_id (x := p + 1) (by omega) (by omega)]
            exact inner (rd_T125 s p).f3.toNat 0 (p + 1) [] (by omega) (by omega) (by omega) (by omega) (by simp; omega)
        · refine Ev.neg h7 (Ev.here (l5Type_some _) ?_)
          rw [if_neg h7]
          cases ht : tOk (rd_T125 s p).f1 with
          | false => exact Ev.neg (show ¬ (false = true) by decide) (Ev.const rfl)
          | true =>
            refine Ev.pos rfl ?_
            by_cases h3 : (rd_T125 s p).f3 = 0
            · rw [decide_eq_true h3, if_pos (show (true && true) = true from rfl), h3]
              refine Ev.pos rfl (Ev.const ?_)
              rw [wrap64_id (x := p + 1) (by omega) (by omega)]; rfl
            · rw [decide_eq_false h3, if_neg (show ¬ ((true && false) = true) by decide)]; exact Ev.neg h3 (Ev.now _)
    by_cases hp0 : p = 0
    · refine Ev.pos hp0 ?_
      have hbad : rootB (rd_T125 s p) = false → Ev (fun k => spec_l5Check.j1 k s p (7 - ((d + 1 : Nat) : Int)) true (rd_T125 s p).f0 (rd_T125 s p).f1 (rd_T125 s p).f2 (rd_T125 s p).f3) (if p = 0 ∧ rootB (rd_T125 s p) = false then -1 else chk s (d + 1) p) := fun hr => by
        rw [if_pos ⟨hp0, hr⟩]
        exact Ev.step (fun k => by rw [spec_l5Check.j1]) (by exact Ev.pos rfl (Ev.now _))
      by_cases r1 : (rd_T125 s p).f0.toList = ([] : List UInt8)
      · refine Ev.pos r1 ?_
        by_cases r2 : (rd_T125 s p).f2 = 0
        · refine Ev.pos r2 ?_
          by_cases r3 : (rd_T125 s p).f1 = 7
          · refine Ev.pos r3 (Ev.neg (by omega) (Ev.here (l1In_some _ _ _) ?_))
            have hr : rootB (rd_T125 s p) = true := by unfold rootB; rw [decide_eq_true r1, decide_eq_true r2, decide_eq_true r3]; rfl
            rw [if_neg (by rw [hr]; simp)]
            exact hx _ (by rw [decide_eq_true hp0]; simp)
          · exact Ev.neg r3 (hbad (by unfold rootB; rw [decide_eq_false r3]; simp))
        · exact Ev.neg r2 (hbad (by unfold rootB; rw [decide_eq_false r2]; simp))
      · exact Ev.neg r1 (hbad (by unfold rootB; rw [decide_eq_false r1]; simp))
    · rw [if_neg (by omega)]
      refine Ev.neg hp0 (Ev.pos (by omega) (Ev.bind (spec_l5Name_ev _ (hn p)) ?_))
      cases hnm : nameOk (rd_T125 s p).f0 with
      | true =>
        refine Ev.pos rfl (Ev.here (l1In_some _ _ _) ?_)
        exact hx _ (by rw [hnm]; simp)
      | false => exact Ev.neg (by decide) (hx true (by rw [hnm, decide_eq_false hp0]; simp))
def schOk (s : List S125) : Bool := decide (2 ≤ (s.length : Int) ∧ (s.length : Int) ≤ 20) && rootB (rd_T125 s 0) && decide (chk s 6 0 = (s.length : Int))
theorem impl_SchemaOk_ev (s : List S125) (hs : ColsOk s) : Ev (fun k => impl_SchemaOk.f k s) (schOk s) := by
  unfold impl_SchemaOk.f schOk
  refine Ev.here (within_some _ _ _) ?_
  by_cases h : 2 ≤ (s.length : Int) ∧ (s.length : Int) ≤ 20
  · rw [decide_eq_true h]
    refine Ev.pos rfl (Ev.pos (by omega) ?_)
    unfold rootB
    by_cases r3 : (rd_T125 s 0).f1 = 7
    · refine Ev.pos r3 ?_
      by_cases r2 : (rd_T125 s 0).f2 = 0
      · refine Ev.pos r2 ?_
        by_cases r1 : (rd_T125 s 0).f0.toList = ([] : List UInt8)
        · refine Ev.pos r1 (Ev.bind (impl_colAfter_ev s hs 6 0 (by omega) (by omega) (by omega)) (Ev.const ?_))
          rw [decide_eq_true r1, decide_eq_true r2, decide_eq_true r3]
          rfl
        · refine Ev.neg r1 (Ev.const ?_); rw [decide_eq_false r1]; simp
      · refine Ev.neg r2 (Ev.const ?_); rw [decide_eq_false r2]; simp
    · refine Ev.neg r3 (Ev.const ?_); rw [decide_eq_false r3]; simp
  · rw [decide_eq_false h]
    exact Ev.neg (by decide) (Ev.now _)
theorem spec_SchemaOk_ev (s : List S125) (hs : ColsOk s) : Ev (fun k => spec_SchemaOk.f k s) (schOk s) := by
  unfold spec_SchemaOk.f schOk
  refine Ev.here (l1In_some _ _ _) ?_
  by_cases h : 2 ≤ (s.length : Int) ∧ (s.length : Int) ≤ 20
  · rw [decide_eq_true h]
    refine Ev.pos rfl (Ev.bind (spec_l5Check_ev s hs 6 0 (by omega) (by omega) (by omega)) (Ev.const ?_))
    cases hr : rootB (rd_T125 s 0) with
    | false =>
      rw [if_pos ⟨rfl, rfl⟩]
      have : ((-1 : Int) == (s.length : Int)) = false := by simp
      rw [this]; rfl
    | true =>
      rw [if_neg (by simp)]
      rfl
  · rw [decide_eq_false h]
    exact Ev.neg (by decide) (Ev.now _)
/-- The columns that are no structs, from the front. -/
def lvStep (s : List S125) (i : Nat) (out : List Int) : List Int := if (rd_T125 s (i : Int)).f1 = 7 then out else out ++ [(i : Int)]
def lvs (s : List S125) (n : Nat) : List Int := (List.range n).foldl (fun out i => lvStep s i out) []
theorem lvStep_length (s : List S125) (i : Nat) (out : List Int) : (lvStep s i out).length ≤ out.length + 1 := by
  unfold lvStep; split <;> simp
theorem lvs_length (s : List S125) (n : Nat) : (lvs s n).length ≤ n := by
  induction n with
  | zero => simp [lvs]
  | succ n ih =>
    unfold lvs at ih ⊢
    rw [List.range_succ, List.foldl_append]
    simp only [List.foldl_cons, List.foldl_nil]
    have := lvStep_length s n ((List.range n).foldl (fun out i => lvStep s i out) [])
    omega
theorem lvs_mem (s : List S125) (n : Nat) : ∀ x ∈ lvs s n, 0 ≤ x ∧ x < n ∧ (rd_T125 s x).f1 ≠ 7 := by
  induction n with
  | zero => intro x hx; simp [lvs] at hx
  | succ n ih =>
    intro x hx
    unfold lvs at hx ih
    rw [List.range_succ, List.foldl_append] at hx
    simp only [List.foldl_cons, List.foldl_nil] at hx
    generalize (List.range n).foldl (fun out i => lvStep s i out) [] = q at hx ih
    unfold lvStep at hx
    split at hx
    · have := ih x hx; omega
    · rename_i h7
      rcases List.mem_append.1 hx with h | h
      · have := ih x h; exact ⟨this.1, by omega, this.2.2⟩
      · obtain rfl := List.mem_singleton.1 h
        exact ⟨by omega, by omega, h7⟩
theorem spec_l5Leaves_ev (s : List S125) (hs : s.length ≤ 1048576) : Ev (fun k => spec_l5Leaves.f k s) (lvs s s.length) := by
  unfold spec_l5Leaves.f
  refine loop_inv (fun k out i => spec_l5Leaves.l0 k s out i) (fun i out => lvStep s i out) s.length _ (fun i out => out.length ≤ i) [] (by simp) (fun i out hi ho => by have := lvStep_length s i out; omega) (fun i out hi ho hr => ?_) (fun out ho he => ?_)
  · have e : ((i + 1 : Nat) : Int) = (i : Int) + 1 := by push_cast; rfl
    rw [e] at hr
    refine Ev.step (fun k => by rw [spec_l5Leaves.l0]) ?_
    refine Ev.pos (by omega) (Ev.pos (by omega) ?_)
    rw [wrap64_id (x := (i : Int) + 1) (by omega) (by omega)]
    unfold lvStep at hr
    by_cases h7 : (rd_T125 s (i : Int)).f1 = 7
    · rw [if_pos h7] at hr; exact Ev.pos h7 hr
    · rw [if_neg h7] at hr; exact Ev.neg h7 (Ev.pos (by omega) hr)
  · refine Ev.step (fun k => by rw [spec_l5Leaves.l0]) ?_
    refine Ev.neg (by omega) (Ev.const ?_)
    rw [he]; rfl
theorem impl_leavesOf_ev (s : List S125) (hs : s.length ≤ 1048576) : Ev (fun k => impl_leavesOf.f k s) (lvs s s.length) := by
  unfold impl_leavesOf.f
  refine loop_inv (fun k out i => impl_leavesOf.l0 k out s (s.length : Int) i) (fun i out => lvStep s i out) s.length _ (fun i out => out.length ≤ i) [] (by simp) (fun i out hi ho => by have := lvStep_length s i out; omega) (fun i out hi ho hr => ?_) (fun out ho he => ?_)
  · have e : ((i + 1 : Nat) : Int) = (i : Int) + 1 := by push_cast; rfl
    rw [e] at hr
    refine Ev.step (fun k => by rw [impl_leavesOf.l0]) ?_
    refine Ev.pos (by omega) (Ev.pos (by omega) (Ev.pos (by omega) ?_))
    rw [wrap64_id (x := (i : Int) + 1) (by omega) (by omega)]
    unfold lvStep at hr
    by_cases h7 : (rd_T125 s (i : Int)).f1 = 7
    · rw [if_pos h7] at hr; exact Ev.pos h7 hr
    · rw [if_neg h7] at hr; exact Ev.neg h7 (Ev.pos (by omega) hr)
  · refine Ev.step (fun k => by rw [impl_leavesOf.l0]) ?_
    refine Ev.neg (by omega) (Ev.const ?_)
    rw [he]; rfl
def leaves (s : List S125) : List Int := if schOk s = true then lvs s s.length else []
theorem spec_SchemaLeaves_ev (s : List S125) (hs : ColsOk s) : Ev (fun k => spec_SchemaLeaves.f k s) (leaves s) := by
  unfold spec_SchemaLeaves.f leaves
  refine Ev.bind (spec_SchemaOk_ev s hs) ?_
  cases schOk s with
  | true => exact Ev.pos rfl (Ev.bind (spec_l5Leaves_ev s hs.1) (Ev.now _))
  | false => exact Ev.neg (by decide) (Ev.now _)
theorem leaves_length (s : List S125) : (leaves s).length ≤ s.length := by
  unfold leaves; split
  · exact lvs_length s _
  · simp
theorem colsOk_of (l : List S122) (hl : l.length ≤ 1048576) (hw : ∀ y ∈ l, w122 y) : ColsOk (l.map cvCol) := by
  have h : ∀ i : Int, (rd_T125 (l.map cvCol) i).f0.size ≤ 9223372036854775807 ∧ (rd_T125 (l.map cvCol) i).f3 ≤ 9223372036854775807 := by
    intro i
    have e : rd_T125 (l.map cvCol) i = (l.map cvCol).getD i.toNat z125 := rfl
    rw [e]
    by_cases hi : i.toNat < l.length
    · rw [getD_eq (by simpa using hi), List.getElem_map]
      have := hw (l[i.toNat]) (List.getElem_mem _)
      obtain ⟨a, b, c, d⟩ := this
      have := i64_of d
      exact ⟨by unfold maxLen at a; exact a, this.2⟩
    · rw [List.getD_eq_getElem?_getD, List.getElem?_eq_none (by simp; omega)]
      exact ⟨by decide, by decide⟩
  exact ⟨by simpa using hl, fun i => (h i).1, fun i => (h i).2⟩
def cvChunk (x : S250) : S172 := ⟨x.f0, x.f1, x.f2, x.f3, x.f4, x.f5⟩
def cvGroup (x : S212) : S169 := ⟨x.f0, x.f1.map cvChunk⟩
def ChunkShort (x : S250) : Prop := x.f5.length ≤ 1048576
def GroupShort (x : S212) : Prop := x.f1.length ≤ 1048576 ∧ ∀ y ∈ x.f1, ChunkShort y
theorem szIntS_ok (l : List Int) (hl : l.length ≤ 9223372036854775807) (c : Int) (h0 : 0 ≤ c) (h1 : c ≤ 1048576) : ∃ r, laws_szIntS.f l c = some r ∧ r ≤ c ∧ (0 ≤ r → l.length ≤ 1048576) := by
  unfold laws_szIntS.f
  rw [wrap64_id (by omega) (by omega)]
  by_cases hn : c - (l.length : Int) < 0
  · rw [if_pos hn]; exact ⟨-1, rfl, by omega, by omega⟩
  · rw [if_neg hn]; exact ⟨_, rfl, by omega, by omega⟩
theorem szChunk_ok (x : S250) (hw : w250 x) (c : Int) (h0 : 0 ≤ c) (h1 : c ≤ 1048576) : ∃ r, laws_szChunk.f x.f0 x.f1 x.f2 x.f3 x.f4 x.f5 c = some r ∧ r ≤ c ∧ (0 ≤ r → ChunkShort x) := by
  have hl : x.f5.length ≤ 9223372036854775807 := by have := hw.2.2.2.2.2.1; unfold maxLen at this; omega
  obtain ⟨r, e, hr, hs⟩ := szIntS_ok x.f5 hl c h0 h1
  unfold laws_szChunk.f
  rw [e]; simp only [Option.bind_some]
  by_cases hn : r < 0
  · rw [if_pos hn]; exact ⟨-1, rfl, by omega, by omega⟩
  · rw [if_neg hn]; exact ⟨r, rfl, hr, hs⟩
theorem short_loop {α : Type} (P : α → Prop) (xs : List α) (L : Nat → Int → Int → Option Int)
    (hs : ∀ (c : Int) (i : Nat) (h : i < xs.length), 0 ≤ c → c ≤ 1048576 → ∃ c', c' ≤ c ∧ (0 ≤ c' → P xs[i]) ∧ (c' < 0 → Ev (fun k => L k c (i : Int)) (-1)) ∧ (0 ≤ c' → ∀ r, Ev (fun k => L k c' (i + 1 : Nat)) r → Ev (fun k => L k c (i : Int)) r))
    (h0 : ∀ c, Ev (fun k => L k c (xs.length : Int)) c) (c : Int) (hc : 0 ≤ c) (hc1 : c ≤ 1048576) : ∃ r, Ev (fun k => L k c 0) r ∧ r ≤ c ∧ (0 ≤ r → ∀ x ∈ xs, P x) := by
  have key : ∀ (d i : Nat) (c : Int), i + d = xs.length → 0 ≤ c → c ≤ 1048576 → ∃ r, Ev (fun k => L k c (i : Int)) r ∧ r ≤ c ∧ (0 ≤ r → ∀ j (h : j < xs.length), i ≤ j → P xs[j]) := by
    intro d
    induction d with
    | zero =>
      intro i c hi _ _
      obtain rfl : i = xs.length := by omega
      exact ⟨c, h0 c, by omega, fun _ j hj hij => by omega⟩
    | succ d ih =>
      intro i c hi hc hc1
      have hil : i < xs.length := by omega
      obtain ⟨c', h1, h2, h3, h4⟩ := hs c i hil hc hc1
      by_cases hn : c' < 0
      · exact ⟨-1, h3 hn, by omega, fun h => by omega⟩
      · obtain ⟨r, hr, hr1, hr2⟩ := ih (i + 1) c' (by omega) (by omega) (by omega)
        refine ⟨r, h4 (by omega) r hr, by omega, fun hr0 j hj hij => ?_⟩
        by_cases e : j = i
        · subst e; exact h2 (by omega)
        · exact hr2 hr0 j hj (by omega)
  obtain ⟨r, hr, h1, h2⟩ := key xs.length 0 c (by omega) hc hc1
  refine ⟨r, by simpa using hr, h1, fun h x hx => ?_⟩
  obtain ⟨j, hj, rfl⟩ := List.getElem_of_mem hx
  exact h2 h j hj (by omega)
theorem szChunkS_ok (l : List S250) (hw : l.length ≤ maxLen) (ht : ∀ x ∈ l, w250 x) (c : Int) (h0 : 0 ≤ c) (h1 : c ≤ 1048576) : ∃ r, Ev (fun k => laws_szChunkS.f k l c) r ∧ r ≤ c ∧ (0 ≤ r → l.length ≤ 1048576 ∧ ∀ x ∈ l, ChunkShort x) := by
  have hm : l.length ≤ 9223372036854775807 := by unfold maxLen at hw; omega
  unfold laws_szChunkS.f
  rw [wrap64_id (by omega) (by omega)]
  by_cases hn : c - (l.length : Int) < 0
  · exact ⟨-1, Ev.pos hn (Ev.now _), by omega, by omega⟩
  · obtain ⟨r, hr, hrc, hp⟩ := short_loop ChunkShort l (fun k c i => laws_szChunkS.l0 k l c i) (fun c i hi hc0 hc1 => by
      have e : rd_T250 l (i : Int) = l[i] := getD_eq (by simpa using hi)
      obtain ⟨c', hc', hle, hsh⟩ := szChunk_ok l[i] (ht l[i] (List.getElem_mem hi)) c hc0 hc1
      refine ⟨c', hle, hsh, fun hneg => ?_, fun hpos r hr => ?_⟩
      · exact Ev.step (fun k => by rw [laws_szChunkS.l0]) (by exact Ev.pos (by omega) (Ev.pos (by omega) (Ev.here (by rw [e]; exact hc') (Ev.pos hneg (Ev.now _)))))
      · refine Ev.step (fun k => by rw [laws_szChunkS.l0]) ?_
        refine Ev.pos (by omega) (Ev.pos (by omega) (Ev.here (by rw [e]; exact hc') (Ev.neg (by omega) ?_)))
        rw [wrap64_id (by omega) (by omega)]
        simpa using hr)
      (fun c => Ev.step (fun k => by rw [laws_szChunkS.l0]) (by exact Ev.neg (by omega) (Ev.now _))) (c - l.length) (by omega) (by omega)
    exact ⟨r, Ev.neg hn hr, by omega, fun h => ⟨by omega, hp h⟩⟩
theorem szGroupMeta_ok (x : S212) (hw : w212 x) (c : Int) (h0 : 0 ≤ c) (h1 : c ≤ 1048576) : ∃ r, Ev (fun k => laws_szGroupMeta.f k x.f0 x.f1 c) r ∧ r ≤ c ∧ (0 ≤ r → GroupShort x) := by
  obtain ⟨r, e, hr, hs⟩ := szChunkS_ok x.f1 hw.2.1 hw.2.2 c h0 h1
  unfold laws_szGroupMeta.f
  by_cases hn : r < 0
  · exact ⟨-1, Ev.bind e (Ev.pos hn (Ev.now _)), by omega, by omega⟩
  · exact ⟨r, Ev.bind e (Ev.neg hn (Ev.now _)), hr, hs⟩
theorem szGroupMetaS_ok (l : List S212) (hw : l.length ≤ maxLen) (ht : ∀ x ∈ l, w212 x) (c : Int) (h0 : 0 ≤ c) (h1 : c ≤ 1048576) : ∃ r, Ev (fun k => laws_szGroupMetaS.f k l c) r ∧ r ≤ c ∧ (0 ≤ r → l.length ≤ 1048576 ∧ ∀ x ∈ l, GroupShort x) := by
  have hm : l.length ≤ 9223372036854775807 := by unfold maxLen at hw; omega
  unfold laws_szGroupMetaS.f
  rw [wrap64_id (by omega) (by omega)]
  by_cases hn : c - (l.length : Int) < 0
  · exact ⟨-1, Ev.pos hn (Ev.now _), by omega, by omega⟩
  · obtain ⟨r, hr, hrc, hp⟩ := short_loop GroupShort l (fun k c i => laws_szGroupMetaS.l0 k l c i) (fun c i hi hc0 hc1 => by
      have e : rd_T212 l (i : Int) = l[i] := getD_eq (by simpa using hi)
      obtain ⟨c', hc', hle, hsh⟩ := szGroupMeta_ok l[i] (ht l[i] (List.getElem_mem hi)) c hc0 hc1
      refine ⟨c', hle, hsh, fun hneg => ?_, fun hpos r hr => ?_⟩
      · refine Ev.step (fun k => by rw [laws_szGroupMetaS.l0]) ?_
        rw [e]
        exact Ev.pos (by omega) (Ev.pos (by omega) (Ev.bind hc' (Ev.pos hneg (Ev.now _))))
      · refine Ev.step (fun k => by rw [laws_szGroupMetaS.l0]) ?_
        rw [e, wrap64_id (by omega) (by omega)]
        refine Ev.pos (by omega) (Ev.pos (by omega) (Ev.bind hc' (Ev.neg (by omega) ?_)))
        simpa using hr)
      (fun c => Ev.step (fun k => by rw [laws_szGroupMetaS.l0]) (by exact Ev.neg (by omega) (Ev.now _))) (c - l.length) (by omega) (by omega)
    exact ⟨r, Ev.neg hn hr, by omega, fun h => ⟨by omega, hp h⟩⟩
theorem toChunk_ev (x : S250) (h : ChunkShort x) : Ev (fun k => laws_toChunk.f k x.f0 x.f1 x.f2 x.f3 x.f4 x.f5) (x.f0, x.f1, x.f2, x.f3, x.f4, x.f5) := by
  unfold laws_toChunk.f
  unfold ChunkShort at h
  exact Ev.bind (toIntS_ev x.f5 (by omega)) (Ev.now _)
theorem toChunkS_ev (l : List S250) (hl : l.length ≤ 1048576) (hs : ∀ x ∈ l, ChunkShort x) : Ev (fun k => laws_toChunkS.f k l) (l.map cvChunk) := by
  unfold laws_toChunkS.f
  refine Ev.pos (by omega) (Ev.pos (by omega) ?_)
  refine copy_loop (fun k out i => laws_toChunkS.l0 k l out i) l cvChunk (fun out i r h ho hr => ?_) (fun out ho => ?_) (List.replicate ((l.length : Int)).toNat z172) (by simp)
  · have e : rd_T250 l (i : Int) = l[i] := getD_eq (by simpa using h)
    refine Ev.step (fun k => by rw [laws_toChunkS.l0]) ?_
    rw [e, wrap64_id (by omega) (by omega)]
    refine Ev.pos (by omega) (Ev.pos (by omega) (Ev.bind (toChunk_ev l[i] (hs _ (List.getElem_mem h))) (Ev.pos (by omega) ?_)))
    simpa [cvChunk] using hr
  · exact Ev.step (fun k => by rw [laws_toChunkS.l0]) (by exact Ev.neg (by omega) (Ev.now _))
theorem toGroupMeta_ev (x : S212) (h : GroupShort x) : Ev (fun k => laws_toGroupMeta.f k x.f0 x.f1) (x.f0, x.f1.map cvChunk) := by
  unfold laws_toGroupMeta.f
  exact Ev.bind (toChunkS_ev x.f1 h.1 h.2) (Ev.now _)
theorem toGroupMetaS_ev (l : List S212) (hl : l.length ≤ 1048576) (hs : ∀ x ∈ l, GroupShort x) : Ev (fun k => laws_toGroupMetaS.f k l) (l.map cvGroup) := by
  unfold laws_toGroupMetaS.f
  refine Ev.pos (by omega) (Ev.pos (by omega) ?_)
  refine copy_loop (fun k out i => laws_toGroupMetaS.l0 k l out i) l cvGroup (fun out i r h ho hr => ?_) (fun out ho => ?_) (List.replicate ((l.length : Int)).toNat z169) (by simp)
  · have e : rd_T212 l (i : Int) = l[i] := getD_eq (by simpa using h)
    refine Ev.step (fun k => by rw [laws_toGroupMetaS.l0]) ?_
    rw [e, wrap64_id (by omega) (by omega)]
    refine Ev.pos (by omega) (Ev.pos (by omega) (Ev.bind (toGroupMeta_ev l[i] (hs _ (List.getElem_mem h))) (Ev.pos (by omega) ?_)))
    simpa [cvGroup] using hr
  · exact Ev.step (fun k => by rw [laws_toGroupMetaS.l0]) (by exact Ev.neg (by omega) (Ev.now _))
def MetaShort (l : List S169) : Prop := l.length ≤ 1048576 ∧ ∀ x ∈ l, x.f1.length ≤ 1048576 ∧ ∀ y ∈ x.f1, y.f5.length ≤ 1048576
theorem metaShort_of (l : List S212) (hl : l.length ≤ 1048576) (hs : ∀ x ∈ l, GroupShort x) : MetaShort (l.map cvGroup) := by
  refine ⟨by simpa using hl, fun x hx => ?_⟩
  obtain ⟨y, hy, rfl⟩ := List.mem_map.1 hx
  refine ⟨by simpa [cvGroup] using (hs y hy).1, fun z hz => ?_⟩
  obtain ⟨u, hu, rfl⟩ := List.mem_map.1 hz
  exact (hs y hy).2 u hu
theorem eqChunk_ev (a : S172) (h : a.f5.length ≤ 1048576) : Ev (fun k => laws_eqChunk.f k a.f0 a.f1 a.f2 a.f3 a.f4 a.f5 a.f0 a.f1 a.f2 a.f3 a.f4 a.f5) true := by
  unfold laws_eqChunk.f
  exact Ev.pos rfl (Ev.pos rfl (Ev.pos rfl (Ev.pos rfl (Ev.pos rfl (Ev.bind (eqIntS_ev a.f5 (by omega)) (Ev.pos rfl (Ev.now _)))))))
theorem eqChunkS_ev (l : List S172) (hl : l.length ≤ 1048576) (hs : ∀ x ∈ l, x.f5.length ≤ 1048576) : Ev (fun k => laws_eqChunkS.f k l l) true := by
  unfold laws_eqChunkS.f
  refine Ev.pos rfl ?_
  refine same_loop (fun k i => laws_eqChunkS.l0 k l l i) l.length (fun i r h hr => ?_) ?_
  · have e : rd_T172 l (i : Int) = l[i] := getD_eq (by simpa using h)
    refine Ev.step (fun k => by rw [laws_eqChunkS.l0]) ?_
    rw [e, wrap64_id (by omega) (by omega)]
    refine Ev.pos (by omega) (Ev.pos (by omega) (Ev.pos (by omega) (Ev.bind (eqChunk_ev _ (hs _ (List.getElem_mem h))) (Ev.pos rfl ?_))))
    simpa using hr
  · exact Ev.step (fun k => by rw [laws_eqChunkS.l0]) (by exact Ev.neg (by omega) (Ev.now _))
theorem eqGroupMeta_ev (a : S169) (h : a.f1.length ≤ 1048576 ∧ ∀ y ∈ a.f1, y.f5.length ≤ 1048576) : Ev (fun k => laws_eqGroupMeta.f k a.f0 a.f1 a.f0 a.f1) true := by
  unfold laws_eqGroupMeta.f
  exact Ev.pos rfl (Ev.bind (eqChunkS_ev a.f1 h.1 h.2) (Ev.pos rfl (Ev.now _)))
theorem eqGroupMetaS_ev (l : List S169) (h : MetaShort l) : Ev (fun k => laws_eqGroupMetaS.f k l l) true := by
  have hl := h.1
  unfold laws_eqGroupMetaS.f
  refine Ev.pos rfl ?_
  refine same_loop (fun k i => laws_eqGroupMetaS.l0 k l l i) l.length (fun i r hi hr => ?_) ?_
  · have e : rd_T169 l (i : Int) = l[i] := getD_eq (by simpa using hi)
    refine Ev.step (fun k => by rw [laws_eqGroupMetaS.l0]) ?_
    rw [e, wrap64_id (by omega) (by omega)]
    refine Ev.pos (by omega) (Ev.pos (by omega) (Ev.pos (by omega) (Ev.bind (eqGroupMeta_ev _ (h.2 _ (List.getElem_mem hi))) (Ev.pos rfl ?_))))
    simpa using hr
  · exact Ev.step (fun k => by rw [laws_eqGroupMetaS.l0]) (by exact Ev.neg (by omega) (Ev.now _))
/-- Are these encodings, told from place i on, in order, each one once? -/
def encG (l : List Int) : Nat → Nat → Bool
  | 0, _ => true
  | d + 1, i => decide (0 ≤ rd l (i : Int) ∧ rd l (i : Int) ≤ 9) && ((decide (i = 0) || decide (rd l ((i : Int) - 1) < rd l (i : Int))) && encG l d (i + 1))
def chB (x : S172) (i : Int) : Bool := decide (x.f0 = i) && (decide (0 ≤ x.f1 ∧ x.f1 ≤ 60000) && (decide (-1 ≤ x.f2 ∧ x.f2 ≤ 60000) && (decide (1 ≤ x.f3 ∧ x.f3 ≤ 2000) && (decide (0 ≤ x.f4 ∧ x.f4 ≤ 60000) && (decide (1 ≤ (x.f5.length : Int) ∧ (x.f5.length : Int) ≤ 5) && encG x.f5 x.f5.length 0)))))
theorem spec_chunk_loop (x : S172) (hl : x.f5.length ≤ 1048576) : ∀ d i : Nat, i + d = x.f5.length → Ev (fun k => spec_l18Chunk.l0 k (i : Int) x.f0 x.f1 x.f2 x.f3 x.f4 x.f5) (encG x.f5 d i) := by
  intro d
  induction d with
  | zero => intro i hi; exact Ev.step (fun k => by rw [spec_l18Chunk.l0]) (by exact Ev.neg (by omega) (Ev.now _))
  | succ d ih =>
    intro i hi
    have h := ih (i + 1) (by omega)
    refine Ev.step (fun k => by rw [spec_l18Chunk.l0]) ?_
    refine Ev.pos (by omega) (Ev.pos (by omega) (Ev.here (l1In_some _ _ _) ?_))
    unfold encG
    rw [wrap64_id (x := (i : Int) + 1) (by omega) (by omega)]
    by_cases h1 : 0 ≤ rd x.f5 (i : Int) ∧ rd x.f5 (i : Int) ≤ 9
    · rw [decide_eq_true h1]
      refine Ev.pos rfl ?_
      by_cases h2 : i = 0
      · rw [decide_eq_true h2]
        refine Ev.neg (by omega) ?_
        simpa using h
      · rw [decide_eq_false h2, wrap64_id (x := (i : Int) - 1) (by omega) (by omega)]
        refine Ev.pos (by omega) (Ev.pos (by omega) (Ev.pos (by omega) ?_))
        by_cases h3 : rd x.f5 ((i : Int) - 1) < rd x.f5 (i : Int)
        · rw [decide_eq_true h3]
          refine Ev.neg (by omega) ?_
          simpa using h
        · rw [decide_eq_false h3]
          exact Ev.pos (by omega) (Ev.now _)
    · rw [decide_eq_false h1]
      exact Ev.neg (by decide) (Ev.now _)
theorem impl_encs_loop (l : List Int) (hl : l.length ≤ 1048576) : ∀ d i : Nat, i + d = l.length → Ev (fun k => impl_encsRight.l0 k l l (l.length : Int) (i : Int)) (encG l d i && decide (1 ≤ (l.length : Int) ∧ (l.length : Int) ≤ 5)) := by
  intro d
  induction d with
  | zero => intro i hi; exact Ev.step (fun k => by rw [impl_encsRight.l0]) (by exact Ev.neg (by omega) (Ev.here (within_some _ _ _) (Ev.const (by simp [encG]))))
  | succ d ih =>
    intro i hi
    have h := ih (i + 1) (by omega)
    refine Ev.step (fun k => by rw [impl_encsRight.l0]) ?_
    refine Ev.pos (by omega) (Ev.pos (by omega) (Ev.pos (by omega) (Ev.here (within_some _ _ _) ?_)))
    unfold encG
    rw [wrap64_id (x := (i : Int) + 1) (by omega) (by omega)]
    by_cases h1 : 0 ≤ rd l (i : Int) ∧ rd l (i : Int) ≤ 9
    · rw [decide_eq_true h1]
      refine Ev.pos rfl ?_
      by_cases h2 : i = 0
      · rw [decide_eq_true h2]
        refine Ev.neg (by omega) ?_
        simpa using h
      · rw [decide_eq_false h2, wrap64_id (x := (i : Int) - 1) (by omega) (by omega)]
        refine Ev.pos (by omega) (Ev.pos (by omega) (Ev.pos (by omega) ?_))
        by_cases h3 : rd l ((i : Int) - 1) < rd l (i : Int)
        · rw [decide_eq_true h3]
          refine Ev.neg (by omega) ?_
          simpa using h
        · rw [decide_eq_false h3]
          exact Ev.pos (by omega) (Ev.now _)
    · rw [decide_eq_false h1]
      exact Ev.neg (by decide) (Ev.now _)
theorem spec_l18Chunk_ev (x : S172) (hl : x.f5.length ≤ 1048576) (i : Int) : Ev (fun k => spec_l18Chunk.f k x.f0 x.f1 x.f2 x.f3 x.f4 x.f5 i) (chB x i) := by
  have bad : chB x i = false → Ev (fun k => spec_l18Chunk.j0 k true x.f0 x.f1 x.f2 x.f3 x.f4 x.f5) (chB x i) := fun h => by
    rw [h]; exact Ev.step (fun k => by rw [spec_l18Chunk.j0]) (by exact Ev.pos rfl (Ev.now _))
  unfold spec_l18Chunk.f
  by_cases h0 : x.f0 = i
  · refine Ev.pos h0 (Ev.here (l1In_some _ _ _) ?_)
    by_cases h1 : 0 ≤ x.f1 ∧ x.f1 ≤ 60000
    · refine Ev.pos (decide_eq_true h1) (Ev.here (l1In_some _ _ _) ?_)
      by_cases h2 : -1 ≤ x.f2 ∧ x.f2 ≤ 60000
      · refine Ev.pos (decide_eq_true h2) (Ev.here (l1In_some _ _ _) ?_)
        by_cases h3 : 1 ≤ x.f3 ∧ x.f3 ≤ 2000
        · refine Ev.pos (decide_eq_true h3) (Ev.here (l1In_some _ _ _) ?_)
          by_cases h4 : 0 ≤ x.f4 ∧ x.f4 ≤ 60000
          · refine Ev.pos (decide_eq_true h4) (Ev.here (l1In_some _ _ _) ?_)
            by_cases h5 : 1 ≤ (x.f5.length : Int) ∧ (x.f5.length : Int) ≤ 5
            · rw [decide_eq_true h5]
              refine Ev.step (fun k => by rw [spec_l18Chunk.j0]) ?_
              refine Ev.neg (by decide) ?_
              refine Ev.cast (spec_chunk_loop x hl x.f5.length 0 (by omega)) ?_
              unfold chB; rw [decide_eq_true h0, decide_eq_true h1, decide_eq_true h2, decide_eq_true h3, decide_eq_true h4, decide_eq_true h5]; rfl
            · rw [decide_eq_false h5]
              exact bad (by unfold chB; rw [decide_eq_false h5]; simp)
          · exact Ev.neg (by rw [decide_eq_false h4]; decide) (bad (by unfold chB; rw [decide_eq_false h4]; simp))
        · exact Ev.neg (by rw [decide_eq_false h3]; decide) (bad (by unfold chB; rw [decide_eq_false h3]; simp))
      · exact Ev.neg (by rw [decide_eq_false h2]; decide) (bad (by unfold chB; rw [decide_eq_false h2]; simp))
    · exact Ev.neg (by rw [decide_eq_false h1]; decide) (bad (by unfold chB; rw [decide_eq_false h1]; simp))
  · exact Ev.neg h0 (bad (by unfold chB; rw [decide_eq_false h0]; simp))
theorem impl_chunkOk_ev (x : S172) (hl : x.f5.length ≤ 1048576) (i : Int) : Ev (fun k => impl_chunkOk.f k x.f0 x.f1 x.f2 x.f3 x.f4 x.f5 i) (chB x i) := by
  have no : chB x i = false → ∀ (c : Prop) [Decidable c], Ev (fun _ => if c then some false else some false) (chB x i) := fun h c _ => by
    rw [h]
    by_cases hc : c
    · exact Ev.pos hc (Ev.now _)
    · exact Ev.neg hc (Ev.now _)
  have no1 : chB x i = false → Ev (fun _ => some false) (chB x i) := fun h => by rw [h]; exact Ev.now _
  unfold impl_chunkOk.f
  refine Ev.here (within_some _ _ _) ?_
  by_cases h1 : 0 ≤ x.f1 ∧ x.f1 ≤ 60000
  · refine Ev.pos (decide_eq_true h1) (Ev.here (within_some _ _ _) ?_)
    by_cases h2 : -1 ≤ x.f2 ∧ x.f2 ≤ 60000
    · refine Ev.pos (decide_eq_true h2) (Ev.here (within_some _ _ _) ?_)
      by_cases h0 : x.f0 = i
      · refine Ev.pos h0 ?_
        by_cases h4 : 0 ≤ x.f4 ∧ x.f4 ≤ 60000
        · refine Ev.pos (decide_eq_true h4) (Ev.here (within_some _ _ _) ?_)
          by_cases h3 : 1 ≤ x.f3 ∧ x.f3 ≤ 2000
          · refine Ev.pos (decide_eq_true h3) (Ev.bind (a := encG x.f5 x.f5.length 0 && decide (1 ≤ (x.f5.length : Int) ∧ (x.f5.length : Int) ≤ 5)) ?_ (Ev.const ?_))
            · unfold impl_encsRight.f
              exact impl_encs_loop x.f5 hl x.f5.length 0 (by omega)
            · unfold chB; rw [decide_eq_true h0, decide_eq_true h1, decide_eq_true h2, decide_eq_true h3, decide_eq_true h4, Bool.and_comm (encG x.f5 x.f5.length 0)]; rfl
          · exact Ev.neg (by rw [decide_eq_false h3]; decide) (no1 (by unfold chB; rw [decide_eq_false h3]; simp))
        · exact Ev.neg (by rw [decide_eq_false h4]; decide) (no1 (by unfold chB; rw [decide_eq_false h4]; simp))
      · exact Ev.neg h0 (no1 (by unfold chB; rw [decide_eq_false h0]; simp))
    · exact Ev.neg (by rw [decide_eq_false h2]; decide) (no (by unfold chB; rw [decide_eq_false h2]; simp) _)
  · exact Ev.neg (by rw [decide_eq_false h1]; decide) (no (by unfold chB; rw [decide_eq_false h1]; simp) _)
def chsB (l : List S172) : Nat → Nat → Bool
  | 0, _ => true
  | d + 1, i => chB (rd_T172 l (i : Int)) (i : Int) && chsB l d (i + 1)
def grB (n : Nat) (g : S169) : Bool := decide (1 ≤ g.f0 ∧ g.f0 ≤ 200) && (decide ((g.f1.length : Int) = (n : Int)) && chsB g.f1 g.f1.length 0)
def metaG (L : List S169) (n : Nat) (R : Int) : Nat → Nat → Int → Bool
  | 0, _, acc => decide (acc = R)
  | d + 1, i, acc => grB n (rd_T169 L (i : Int)) && metaG L n R d (i + 1) (acc + (rd_T169 L (i : Int)).f0)
def metaB (s : List S125) (R : Int) (L : List S169) : Bool := schOk s && (decide ((L.length : Int) ≤ 40) && (decide (0 ≤ R ∧ R ≤ 200) && metaG L (leaves s).length R L.length 0 0))
theorem spec_chs_loop (lv : List Int) (acc i' : Int) (s : List S125) (R : Int) (L : List S169) (i : Int) (g0 : Int) (l : List S172) (hl : l.length ≤ 1048576) (hs : ∀ y ∈ l, y.f5.length ≤ 1048576) (r : Bool) (hr : Ev (fun k => spec_MetaOk.l0 k lv acc (wrap64 (i + 1)) s R L) r) :
    ∀ d j : Nat, j + d = l.length → Ev (fun k => spec_MetaOk.l1 k lv acc i (j : Int) s R L g0 l) (chsB l d j && r) := by
  intro d
  induction d with
  | zero =>
    intro j hj
    refine Ev.step (fun k => by rw [spec_MetaOk.l1]) ?_
    exact Ev.neg (by omega) (by simpa [chsB] using hr)
  | succ d ih =>
    intro j hj
    have h := ih (j + 1) (by omega)
    have e : rd_T172 l (j : Int) = l[j] := getD_eq (by simpa using (show j < l.length by omega))
    have hc := spec_l18Chunk_ev (rd_T172 l (j : Int)) (by rw [e]; exact hs _ (List.getElem_mem _)) (j : Int)
    refine Ev.step (fun k => by rw [spec_MetaOk.l1]) ?_
    unfold chsB
    rw [wrap64_id (x := (j : Int) + 1) (by omega) (by omega)]
    refine Ev.pos (by omega) (Ev.pos (by omega) (Ev.bind hc ?_))
    cases chB (rd_T172 l (j : Int)) (j : Int) with
    | true => refine Ev.pos rfl ?_; simpa using h
    | false => exact Ev.neg (by decide) (Ev.now _)
theorem impl_chs_loop (x3 : Int) (s : List S125) (R : Int) (L L2 : List S169) (n : Int) (i : Int) (g0 : Int) (l : List S172) (hl : l.length ≤ 1048576) (hs : ∀ y ∈ l, y.f5.length ≤ 1048576) (r : Bool) (hr : Ev (fun k => impl_MetaOk.l0 k (wrap64 (x3 + g0)) L n (wrap64 (i + 1)) s R L2) r) :
    ∀ d j : Nat, j + d = l.length → Ev (fun k => impl_MetaOk.l1 k x3 L n i l (l.length : Int) (j : Int) s R L2 g0 l) (chsB l d j && r) := by
  intro d
  induction d with
  | zero =>
    intro j hj
    refine Ev.step (fun k => by rw [impl_MetaOk.l1]) ?_
    exact Ev.neg (by omega) (by simpa [chsB] using hr)
  | succ d ih =>
    intro j hj
    have h := ih (j + 1) (by omega)
    have e : rd_T172 l (j : Int) = l[j] := getD_eq (by simpa using (show j < l.length by omega))
    have hc := impl_chunkOk_ev (rd_T172 l (j : Int)) (by rw [e]; exact hs _ (List.getElem_mem _)) (j : Int)
    refine Ev.step (fun k => by rw [impl_MetaOk.l1]) ?_
    unfold chsB
    rw [wrap64_id (x := (j : Int) + 1) (by omega) (by omega)]
    refine Ev.pos (by omega) (Ev.pos (by omega) (Ev.pos (by omega) (Ev.bind hc ?_)))
    cases chB (rd_T172 l (j : Int)) (j : Int) with
    | true => refine Ev.pos rfl ?_; simpa using h
    | false => exact Ev.neg (by decide) (Ev.now _)
theorem spec_meta_loop (lv : List Int) (s : List S125) (R : Int) (L : List S169) (hm : MetaShort L) (hL : L.length ≤ 40) : ∀ (d i : Nat) (acc : Int), i + d = L.length → 0 ≤ acc → acc ≤ 200 * i → Ev (fun k => spec_MetaOk.l0 k lv acc (i : Int) s R L) (metaG L lv.length R d i acc) := by
  intro d
  induction d with
  | zero =>
    intro i acc hi h0 h1
    refine Ev.step (fun k => by rw [spec_MetaOk.l0]) ?_
    exact Ev.neg (by omega) (Ev.const (by unfold metaG; by_cases h : acc = R <;> simp [h]))
  | succ d ih =>
    intro i acc hi h0 h1
    refine Ev.step (fun k => by rw [spec_MetaOk.l0]) ?_
    unfold metaG grB
    have e : rd_T169 L (i : Int) = L[i] := getD_eq (by simpa using (show i < L.length by omega))
    have hg := hm.2 (rd_T169 L (i : Int)) (by rw [e]; exact List.getElem_mem _)
    generalize rd_T169 L (i : Int) = g at *
    refine Ev.pos (by omega) (Ev.pos (by omega) (Ev.here (l1In_some _ _ _) ?_))
    by_cases h2 : 1 ≤ g.f0 ∧ g.f0 ≤ 200
    · rw [decide_eq_true h2]
      refine Ev.pos rfl ?_
      refine Ev.step (fun k => by rw [spec_MetaOk.j2]) ?_
      by_cases h3 : (g.f1.length : Int) = (lv.length : Int)
      · rw [decide_eq_true h3]
        refine Ev.neg (by simp [h3]) ?_
        rw [wrap64_id (x := acc + g.f0) (by omega) (by omega)]
        have hn := ih (i + 1) (acc + g.f0) (by omega) (by omega) (by omega)
        have hr : Ev (fun k => spec_MetaOk.l0 k lv (acc + g.f0) (wrap64 ((i : Int) + 1)) s R L) (metaG L lv.length R d (i + 1) (acc + g.f0)) := by
          rw [wrap64_id (x := (i : Int) + 1) (by omega) (by omega)]; simpa using hn
        have := spec_chs_loop lv (acc + g.f0) 0 s R L (i : Int) g.f0 g.f1 hg.1 hg.2 _ hr g.f1.length 0 (by omega)
        simpa using this
      · rw [decide_eq_false h3]
        exact Ev.pos (by simp [h3]) (Ev.now _)
    · rw [decide_eq_false h2]
      refine Ev.neg (by decide) ?_
      exact Ev.step (fun k => by rw [spec_MetaOk.j2]) (by exact Ev.pos rfl (Ev.now _))
theorem impl_meta_loop (s : List S125) (hs : ColsOk s) (R : Int) (L : List S169) (hm : MetaShort L) (hL : L.length ≤ 40) : ∀ (d i : Nat) (acc : Int), i + d = L.length → 0 ≤ acc → acc ≤ 200 * i → Ev (fun k => impl_MetaOk.l0 k acc L (L.length : Int) (i : Int) s R L) (metaG L (lvs s s.length).length R d i acc && decide (0 ≤ R ∧ R ≤ 200)) := by
  intro d
  induction d with
  | zero =>
    intro i acc hi h0 h1
    refine Ev.step (fun k => by rw [impl_MetaOk.l0]) ?_
    refine Ev.neg (by omega) ?_
    unfold metaG
    by_cases h : acc = R
    · subst h
      exact Ev.pos rfl (Ev.const (by by_cases h5 : acc ≤ 200 <;> simp [h5, h0]))
    · rw [decide_eq_false h]
      exact Ev.neg h (Ev.now _)
  | succ d ih =>
    intro i acc hi h0 h1
    refine Ev.step (fun k => by rw [impl_MetaOk.l0]) ?_
    unfold metaG grB
    have e : rd_T169 L (i : Int) = L[i] := getD_eq (by simpa using (show i < L.length by omega))
    have hg := hm.2 (rd_T169 L (i : Int)) (by rw [e]; exact List.getElem_mem _)
    generalize rd_T169 L (i : Int) = g at *
    refine Ev.pos (by omega) (Ev.pos (by omega) (Ev.pos (by omega) (Ev.here (within_some _ _ _) ?_)))
    by_cases h2 : 1 ≤ g.f0 ∧ g.f0 ≤ 200
    · rw [decide_eq_true h2]
      refine Ev.pos rfl (Ev.bind (impl_leavesOf_ev s hs.1) ?_)
      refine Ev.step (fun k => by rw [impl_MetaOk.j2]) ?_
      by_cases h3 : (g.f1.length : Int) = ((lvs s s.length).length : Int)
      · rw [decide_eq_true h3]
        refine Ev.neg (by simp [h3]) ?_
        have hn := ih (i + 1) (acc + g.f0) (by omega) (by omega) (by omega)
        have hr : Ev (fun k => impl_MetaOk.l0 k (wrap64 (acc + g.f0)) L (L.length : Int) (wrap64 ((i : Int) + 1)) s R L) (metaG L (lvs s s.length).length R d (i + 1) (acc + g.f0) && decide (0 ≤ R ∧ R ≤ 200)) := by
          rw [wrap64_id (x := (i : Int) + 1) (by omega) (by omega), wrap64_id (x := acc + g.f0) (by omega) (by omega)]; simpa using hn
        have := impl_chs_loop acc s R L L (L.length : Int) (i : Int) g.f0 g.f1 hg.1 hg.2 _ hr g.f1.length 0 (by omega)
        simpa [Bool.and_assoc] using this
      · rw [decide_eq_false h3]
        exact Ev.pos (by simp [h3]) (Ev.now _)
    · rw [decide_eq_false h2]
      refine Ev.neg (by decide) ?_
      exact Ev.step (fun k => by rw [impl_MetaOk.j2]) (by exact Ev.pos rfl (Ev.now _))
theorem spec_MetaOk_ev (s : List S125) (hs : ColsOk s) (R : Int) (L : List S169) (hm : MetaShort L) : Ev (fun k => spec_MetaOk.f k s R L) (metaB s R L) := by
  have bad : metaB s R L = false → Ev (fun k => spec_MetaOk.j0 k (leaves s) true s R L) (metaB s R L) := fun h => by
    rw [h]; exact Ev.step (fun k => by rw [spec_MetaOk.j0]) (by exact Ev.pos rfl (Ev.now _))
  unfold spec_MetaOk.f
  refine Ev.bind (spec_SchemaLeaves_ev s hs) (Ev.bind (spec_SchemaOk_ev s hs) ?_)
  cases hk : schOk s with
  | false => exact Ev.neg (by decide) (bad (by unfold metaB; rw [hk]; rfl))
  | true =>
    refine Ev.pos rfl ?_
    by_cases hL : (L.length : Int) > 40
    · exact Ev.pos hL (bad (by unfold metaB; rw [decide_eq_false (show ¬ (L.length : Int) ≤ 40 by omega)]; simp))
    · refine Ev.neg hL (Ev.here (l1In_some _ _ _) ?_)
      by_cases hR : 0 ≤ R ∧ R ≤ 200
      · rw [decide_eq_true hR]
        refine Ev.step (fun k => by rw [spec_MetaOk.j0]) ?_
        refine Ev.neg (by decide) ?_
        have := spec_meta_loop (leaves s) s R L hm (by omega) L.length 0 0 (by omega) (by omega) (by omega)
        refine Ev.cast this ?_
        unfold metaB; rw [hk, decide_eq_true hR, decide_eq_true (show (L.length : Int) ≤ 40 by omega)]; rfl
      · rw [decide_eq_false hR]
        exact bad (by unfold metaB; rw [decide_eq_false hR]; simp)
theorem impl_MetaOk_ev (s : List S125) (hs : ColsOk s) (R : Int) (L : List S169) (hm : MetaShort L) : Ev (fun k => impl_MetaOk.f k s R L) (metaB s R L) := by
  have bad : ∀ b, b = true → metaB s R L = false → Ev (fun k => impl_MetaOk.j0 k b s R L) (metaB s R L) := fun b hb h => by
    rw [h, hb]; exact Ev.step (fun k => by rw [impl_MetaOk.j0]) (by exact Ev.pos rfl (Ev.now _))
  unfold impl_MetaOk.f
  refine Ev.bind (impl_SchemaOk_ev s hs) ?_
  cases hk : schOk s with
  | false => exact Ev.neg (by decide) (bad _ rfl (by unfold metaB; rw [hk]; rfl))
  | true =>
    refine Ev.pos rfl ?_
    by_cases hL : (L.length : Int) > 40
    · exact bad _ (decide_eq_true hL) (by unfold metaB; rw [decide_eq_false (show ¬ (L.length : Int) ≤ 40 by omega)]; simp)
    · rw [decide_eq_false hL]
      refine Ev.step (fun k => by rw [impl_MetaOk.j0]) ?_
      refine Ev.neg (by decide) ?_
      have := impl_meta_loop s hs R L hm (by omega) L.length 0 0 (by omega) (by omega) (by omega)
      refine Ev.cast this ?_
      have hlv : leaves s = lvs s s.length := by unfold leaves; rw [if_pos hk]
      unfold metaB; rw [hk, decide_eq_true (show (L.length : Int) ≤ 40 by omega), hlv, Bool.and_comm]; rfl
theorem FnExactMetaOk : ∀ (x0 : S104), (w104 x0) → ∃ k, laws_FnExactMetaOk.f k x0.f0 x0.f1 x0.f2 = some true := by
  intro x hx
  refine Ev.rounds ?_
  unfold laws_FnExactMetaOk.f
  have w0 := hx.1
  have w2 := hx.2.2
  obtain ⟨r1, s1, c1, l1⟩ := szColS_ev x.f0 w0.1 w0.2 1048576 (by omega) (by omega)
  by_cases n1 : r1 < 0
  · refine Ev.bind (a := -1) ?_ (Ev.pos (by decide) (Ev.now _))
    unfold laws_szMeta.f
    exact Ev.bind s1 (Ev.pos n1 (Ev.now _))
  obtain ⟨r2, s2, c2, l2⟩ := szGroupMetaS_ok x.f2 w2.1 w2.2 r1 (by omega) (by omega)
  by_cases n2 : r2 < 0
  · refine Ev.bind (a := -1) ?_ (Ev.pos (by decide) (Ev.now _))
    unfold laws_szMeta.f
    exact Ev.bind s1 (Ev.neg n1 (Ev.bind s2 (Ev.pos n2 (Ev.now _))))
  refine Ev.bind (a := r2) ?_ (Ev.neg n2 ?_)
  · unfold laws_szMeta.f
    exact Ev.bind s1 (Ev.neg n1 (Ev.bind s2 (Ev.neg n2 (Ev.now _))))
  have g2 := l2 (by omega)
  have t : Ev (fun k => laws_toMeta.f k x.f0 x.f1 x.f2) (x.f0.map cvCol, x.f1, x.f2.map cvGroup) := by
    unfold laws_toMeta.f
    exact Ev.bind (toColS_ev x.f0 (by omega)) (Ev.bind (toGroupMetaS_ev x.f2 g2.1 g2.2) (Ev.now _))
  have hs := colsOk_of x.f0 (by omega) w0.2
  have hm := metaShort_of x.f2 g2.1 g2.2
  have es := spec_MetaOk_ev (x.f0.map cvCol) hs x.f1 (x.f2.map cvGroup) hm
  have ei := impl_MetaOk_ev (x.f0.map cvCol) hs x.f1 (x.f2.map cvGroup) hm
  have q : Ev (fun k => laws_eqMeta.f k (x.f0.map cvCol) x.f1 (x.f2.map cvGroup) (x.f0.map cvCol) x.f1 (x.f2.map cvGroup)) true := by
    unfold laws_eqMeta.f
    exact Ev.bind (eqColS_ev (x.f0.map cvCol) (by simp; omega)) (Ev.pos rfl (Ev.pos rfl (Ev.bind (eqGroupMetaS_ev _ hm) (Ev.pos rfl (Ev.now _)))))
  exact Ev.bind t (Ev.bind es (Ev.bind t (Ev.bind ei (Ev.neg (by simp) (Ev.bind t (Ev.bind q (Ev.pos rfl (Ev.now _))))))))
end Go.Proofs.Ytnfamhegbfjggaa.Pure
