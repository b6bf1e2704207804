/- The pure statement of FnExactConfigOk: the printed functions answer as the law says, for all arguments. No condition. -/
import Derived.Test.YtnfamhegbfjggaaVFnExactConfigOk
import Derived.Test.YtnfamhegbfjggaaPFnExactConfigOkx
import Derived.Test.YtnfamhegbfjggaaArgFnExactConfigOk
namespace Go.Proofs.Ytnfamhegbfjggaa.Pure
open Go.RowKit Go.Proofs.Ytnfamhegbfjggaa.PFnExactConfigOk Go.Proofs.Ytnfamhegbfjggaa.Core Go.Proofs.YtnfamhegbfjggaaW.PrintWords Go.Proofs.YtnfamhegbfjggaaW.PrintLast Go.Proofs.YtnfamhegbfjggaaW.PrintMore Go.Proofs.Ytnfamhegbfjggaa.AFnExactConfigOk
set_option linter.unusedVariables false
set_option linter.unusedSimpArgs false
def cvCol (x : S122) : S125 := ⟨x.f0, x.f1, x.f2, x.f3⟩
theorem toColS_ev (l : List S122) (hl : l.length ≤ 1048576) : Ev (fun k => laws_toColS.f k l) (l.map cvCol) := by
  unfold laws_toColS.f
  refine Ev.pos (by omega) (Ev.pos (by omega) ?_)
  refine copy_loop (fun k out i => laws_toColS.l0 k l out i) l cvCol (fun out i r h ho hr => ?_) (fun out ho => ?_) (List.replicate ((l.length : Int)).toNat z125) (by simp)
  · refine Ev.step (fun k => by rw [laws_toColS.l0]) ?_
    refine Ev.pos (by omega) (Ev.pos (by omega) (Ev.here rfl (Ev.pos (by omega) ?_)))
    rw [wrap64_id (by omega) (by omega)]
    have e : rd_T122 l (i : Int) = l[i] := getD_eq (by simpa using h)
    simp only [e]
    simpa [cvCol] using hr
  · exact Ev.step (fun k => by rw [laws_toColS.l0]) (by exact Ev.neg (by omega) (Ev.now _))
theorem szCol_some (x : S122) (hw : w122 x) (c : Int) (h0 : 0 ≤ c) (h1 : c ≤ 1048576) : ∃ r, laws_szCol.f x.f0 x.f1 x.f2 x.f3 c = some r ∧ r ≤ c := by
  have b0 : (x.f0.size : Int) ≤ 9223372036854775807 := by have := hw.1; unfold maxLen at this; omega
  unfold laws_szCol.f
  rw [wrap64_id (x := c - (x.f0.size : Int)) (by omega) (by omega)]
  by_cases n0 : c - (x.f0.size : Int) < 0
  · exact ⟨-1, by simp [n0], by omega⟩
  simp only [if_neg n0, Option.bind_some]
  exact ⟨_, rfl, by omega⟩
theorem szColS_ev (l : List S122) (hw : l.length ≤ maxLen) (ht : ∀ x ∈ l, w122 x) (c : Int) (h0 : 0 ≤ c) (h1 : c ≤ 1048576) : ∃ r, Ev (fun k => laws_szColS.f k l c) r ∧ r ≤ c ∧ (0 ≤ r → r + l.length ≤ c) := by
  have hm : l.length ≤ 9223372036854775807 := by unfold maxLen at hw; omega
  unfold laws_szColS.f
  rw [wrap64_id (by omega) (by omega)]
  by_cases hn : c - (l.length : Int) < 0
  · exact ⟨-1, Ev.pos hn (Ev.now _), by omega, by omega⟩
  · obtain ⟨r, hr, hrc⟩ := budget_loop (fun k c i => laws_szColS.l0 k l c i) l.length (fun c i hc0 hc1 hi => by
      have e : rd_T122 l (i : Int) = l[i] := getD_eq (by simpa using hi)
      obtain ⟨c', hc', hle⟩ := szCol_some l[i] (ht l[i] (List.getElem_mem hi)) c hc0 hc1
      refine ⟨c', hle, fun hneg => ?_, fun hpos r hr => ?_⟩
      · exact Ev.step (fun k => by rw [laws_szColS.l0]) (by exact Ev.pos (by omega) (Ev.pos (by omega) (Ev.here (by rw [e]; exact hc') (Ev.pos hneg (Ev.now _)))))
      · refine Ev.step (fun k => by rw [laws_szColS.l0]) ?_
        refine Ev.pos (by omega) (Ev.pos (by omega) (Ev.here (by rw [e]; exact hc') (Ev.neg (by omega) ?_)))
        rw [wrap64_id (by omega) (by omega)]
        simpa using hr)
      (fun c => Ev.step (fun k => by rw [laws_szColS.l0]) (by exact Ev.neg (by omega) (Ev.now _))) (c - l.length) (by omega) (by omega)
    exact ⟨r, Ev.neg hn hr, by omega, by omega⟩
theorem eqCol_ev (a : S125) : laws_eqCol.f a.f0 a.f1 a.f2 a.f3 a.f0 a.f1 a.f2 a.f3 = some true := by
  unfold laws_eqCol.f
  simp
theorem eqColS_ev (l : List S125) (hl : l.length ≤ 9223372036854775806) : Ev (fun k => laws_eqColS.f k l l) true := by
  unfold laws_eqColS.f
  refine Ev.pos rfl ?_
  refine same_loop (fun k i => laws_eqColS.l0 k l l i) l.length (fun i r h hr => ?_) ?_
  · refine Ev.step (fun k => by rw [laws_eqColS.l0]) ?_
    refine Ev.pos (by omega) (Ev.pos (by omega) (Ev.pos (by omega) (Ev.here (eqCol_ev _) (Ev.pos rfl ?_))))
    rw [wrap64_id (by omega) (by omega)]
    simpa using hr
  · exact Ev.step (fun k => by rw [laws_eqColS.l0]) (by exact Ev.neg (by omega) (Ev.now _))
theorem toIntS_ev (l : List Int) (hl : l.length ≤ 35184372088832) : Ev (fun k => laws_toIntS.f k l) l := by
  unfold laws_toIntS.f
  refine Ev.pos (by omega) (Ev.pos (by omega) ?_)
  have := copy_loop (fun k out i => laws_toIntS.l0 k l out i) l id (fun out i r h ho hr => ?_) (fun out ho => ?_) (List.replicate ((l.length : Int)).toNat 0) (by simp)
  · simpa using this
  · refine Ev.step (fun k => by rw [laws_toIntS.l0]) ?_
    refine Ev.pos (by omega) (Ev.pos (by omega) (Ev.pos (by omega) ?_))
    rw [wrap64_id (by omega) (by omega), rd_eq (by simpa using h)]
    simpa using hr
  · exact Ev.step (fun k => by rw [laws_toIntS.l0]) (by exact Ev.neg (by omega) (Ev.now _))
theorem eqIntS_ev (l : List Int) (hl : l.length ≤ 9223372036854775806) : Ev (fun k => laws_eqIntS.f k l l) true := by
  unfold laws_eqIntS.f
  refine Ev.pos rfl ?_
  refine same_loop (fun k i => laws_eqIntS.l0 k l l i) l.length (fun i r h hr => ?_) ?_
  · refine Ev.step (fun k => by rw [laws_eqIntS.l0]) ?_
    refine Ev.pos (by omega) (Ev.pos (by omega) (Ev.pos (by omega) (Ev.pos rfl ?_)))
    rw [wrap64_id (by omega) (by omega)]
    simpa using hr
  · exact Ev.step (fun k => by rw [laws_eqIntS.l0]) (by exact Ev.neg (by omega) (Ev.now _))
def tOk (t : Int) : Bool := decide (t = 0 ∨ t = 1 ∨ t = 2 ∨ t = 5 ∨ t = 6)
theorem l5Type_some (t : Int) : spec_l5Type.f t = some (tOk t) := by
  unfold spec_l5Type.f
  (repeat' split) <;> simp_all [tOk]
theorem l1In_same (x lo hi : Int) : (if x ≥ lo then some (decide (x ≤ hi)) else some false) = some (decide (lo ≤ x ∧ x ≤ hi)) := by
  by_cases h : x ≥ lo
  · rw [if_pos h]; congr 1; simp; omega
  · rw [if_neg h]; congr 1; symm; simp; omega
theorem within_some (x lo hi : Int) : impl_within.f x lo hi = some (decide (lo ≤ x ∧ x ≤ hi)) := by unfold impl_within.f; exact l1In_same x lo hi
theorem typeOk_some (t : Int) : impl_TypeOk.f t = some (tOk t) := by
  unfold impl_TypeOk.f
  rw [within_some]
  simp only [Option.bind_some]
  by_cases h : 0 ≤ t ∧ t ≤ 2
  · rw [if_pos (by simpa using h)]
    have : t = 0 ∨ t = 1 ∨ t = 2 := by omega
    rcases this with rfl | rfl | rfl <;> rfl
  · rw [if_neg (by simpa using h)]
    by_cases h5 : t = 5
    · subst h5; rfl
    · rw [if_neg h5]
      by_cases h6 : t = 6
      · subst h6; rfl
      · have h0 : t ≠ 0 := by omega
        have h1 : t ≠ 1 := by omega
        have h2 : t ≠ 2 := by omega
        simp [tOk, h0, h1, h2, h5, h6]
def wideB (t : Int) : Int := if t = 1 then 4 else if t = 2 then 8 else if t = 5 then 8 else 0
theorem wideOf_some (t : Int) : impl_wideOf.f t = some (wideB t) := by unfold impl_wideOf.f wideB; (repeat' split) <;> rfl
theorem splitWide_some (t : Int) : spec_SplitWide.f t = some (wideB t) := wideOf_some t
def encB (e t : Int) : Bool := decide (tOk t = true ∧ (e = 0 ∨ e = 8 ∨ (e = 3 ∧ t = 0) ∨ (e = 5 ∧ (t = 1 ∨ t = 2)) ∨ ((e = 6 ∨ e = 7) ∧ t = 6) ∨ (e = 9 ∧ (t = 1 ∨ t = 2 ∨ t = 5))))
theorem wide_pos (t : Int) : decide (wideB t > 0) = decide (t = 1 ∨ t = 2 ∨ t = 5) := by
  unfold wideB
  by_cases h1 : t = 1
  · simp [h1]
  by_cases h2 : t = 2
  · simp [h2]
  by_cases h5 : t = 5
  · simp [h5]
  · simp [h1, h2, h5]
theorem spec_EncOk_ev (e t : Int) : Ev (fun k => spec_EncOk.f k e t) (encB e t) := by
  refine ⟨3, fun k hk => ?_⟩
  obtain ⟨m, rfl⟩ : ∃ m, k = m + 3 := ⟨k - 3, by omega⟩
  simp only [spec_EncOk.f, spec_EncOk.j0, spec_EncOk.j1, l5Type_some, splitWide_some, wide_pos, Option.bind_some]
  by_cases ht : tOk t = true
  · rw [if_pos ht]
    by_cases h0 : e = 0
    · subst h0; simp [encB, ht]
    by_cases h8 : e = 8
    · subst h8; simp [encB, ht]
    by_cases h3 : e = 3
    · subst h3; simp [encB, ht]; rfl
    by_cases h5 : e = 5
    · subst h5; by_cases h1 : t = 1 <;> simp [encB, ht, h1] <;> rfl
    by_cases h6 : e = 6
    · subst h6; simp [encB, ht]; rfl
    by_cases h7 : e = 7
    · subst h7; simp [encB, ht]; rfl
    by_cases h9 : e = 9
    · subst h9; simp [encB, ht]
    · simp [encB, h0, h8, h3, h5, h6, h7, h9]
  · rw [if_neg ht]; simp [encB, ht]
theorem impl_EncOk_ev (e t : Int) : Ev (fun k => impl_EncOk.f k e t) (encB e t) := by
  refine ⟨3, fun k hk => ?_⟩
  obtain ⟨m, rfl⟩ : ∃ m, k = m + 3 := ⟨k - 3, by omega⟩
  simp only [impl_EncOk.f, impl_EncOk.j0, typeOk_some, wideOf_some, wide_pos, Option.bind_some]
  by_cases h0 : e = 0
  · subst h0; simp [encB]
  by_cases h8 : e = 8
  · subst h8; simp [encB]
  by_cases h3 : e = 3
  · subst h3; simp [encB, tOk]; by_cases h : t = 0 <;> simp [h]
  by_cases h5 : e = 5
  · subst h5; by_cases h1 : t = 1 <;> by_cases h2 : t = 2 <;> simp [encB, tOk, h1, h2]
  by_cases h6 : e = 6
  · subst h6; by_cases h : t = 6 <;> simp [encB, tOk, h]
  by_cases h7 : e = 7
  · subst h7; by_cases h : t = 6 <;> simp [encB, tOk, h]
  by_cases h9 : e = 9
  · subst h9; by_cases h1 : t = 1 <;> by_cases h2 : t = 2 <;> by_cases h5 : t = 5 <;> simp [encB, tOk, h1, h2, h5]
  · simp [encB, h0, h8, h3, h5, h6, h7, h9]
theorem l1In_some (x lo hi : Int) : spec_l1In.f x lo hi = some (decide (lo ≤ x ∧ x ≤ hi)) := by unfold spec_l1In.f; exact l1In_same x lo hi
def nameOk (b : ByteArray) : Bool := decide (1 ≤ (b.size : Int) ∧ (b.size : Int) ≤ 20) && (List.range b.size).all (fun (i : Nat) => decide (97 ≤ bt b (i : Int) ∧ bt b (i : Int) ≤ 122))
theorem spec_l5Name_ev (b : ByteArray) (hb : b.size ≤ 9223372036854775807) : Ev (fun k => spec_l5Name.f k b) (nameOk b) := by
  unfold spec_l5Name.f nameOk
  refine Ev.here (l1In_some _ _ _) ?_
  by_cases h : 1 ≤ (b.size : Int) ∧ (b.size : Int) ≤ 20
  · rw [decide_eq_true h]
    refine Ev.pos rfl ?_
    have key := all_loop (fun k i => spec_l5Name.l0 k b i) (fun (i : Nat) => decide (97 ≤ bt b (i : Int) ∧ bt b (i : Int) ≤ 122)) b.size false true
      (fun i r hi hp hr => by
        have hp' := of_decide_eq_true hp
        refine Ev.step (fun k => by rw [spec_l5Name.l0]) ?_
        refine Ev.pos (by omega) (Ev.pos (by omega) (Ev.neg (by omega) (Ev.neg (by omega) ?_)))
        rw [wrap64_id (by omega) (by omega)]
        simpa using hr)
      (fun i hi hp => by
        have hp' := of_decide_eq_false hp
        refine Ev.step (fun k => by rw [spec_l5Name.l0]) ?_
        refine Ev.pos (by omega) (Ev.pos (by omega) ?_)
        by_cases h1 : bt b (i : Int) < 97
        · exact Ev.pos h1 (Ev.now _)
        · exact Ev.neg h1 (Ev.pos (by omega) (Ev.now _)))
      (by exact Ev.step (fun k => by rw [spec_l5Name.l0]) (by exact Ev.neg (by omega) (Ev.now _)))
    refine Ev.cast key ?_
    cases (List.range b.size).all _ <;> rfl
  · rw [decide_eq_false h]
    exact Ev.neg (by decide) (Ev.now _)
theorem impl_isColName_ev (b : ByteArray) (hb : b.size ≤ 9223372036854775807) : Ev (fun k => impl_isColName.f k b) (nameOk b) := by
  unfold impl_isColName.f nameOk
  have key := all_loop (fun k i => impl_isColName.l0 k b (b.size : Int) i) (fun (i : Nat) => decide (97 ≤ bt b (i : Int) ∧ bt b (i : Int) ≤ 122)) b.size false (decide (1 ≤ (b.size : Int) ∧ (b.size : Int) ≤ 20))
    (fun i r hi hp hr => by
      have hp' := of_decide_eq_true hp
      refine Ev.step (fun k => by rw [impl_isColName.l0]) ?_
      rw [wrap64_id (x := bt b (i : Int)) (by omega) (by omega)]
      refine Ev.pos (by omega) (Ev.pos (by omega) (Ev.pos (by omega) (Ev.here (within_some _ _ _) (Ev.pos hp ?_))))
      rw [wrap64_id (by omega) (by omega)]
      simpa using hr)
    (fun i hi hp => by
      have hrg := bt_range b (i : Int)
      refine Ev.step (fun k => by rw [impl_isColName.l0]) ?_
      rw [wrap64_id (x := bt b (i : Int)) (by omega) (by omega)]
      refine Ev.pos (by omega) (Ev.pos (by omega) (Ev.pos (by omega) (Ev.here (within_some _ _ _) ?_)))
      rw [hp]
      exact Ev.neg (by decide) (Ev.now _))
    (by
      refine Ev.step (fun k => by rw [impl_isColName.l0]) ?_
      exact Ev.neg (by omega) (Ev.here (within_some _ _ _) (Ev.now _)))
  refine Ev.cast key ?_
  cases (List.range b.size).all _ <;> simp
def colB (root : Bool) (c : S125) : Bool := (if c.f1 = 7 then decide (1 ≤ c.f3) else tOk c.f1 && decide (c.f3 = 0)) && decide (0 ≤ c.f2 ∧ c.f2 ≤ 2) && (root || nameOk c.f0)
def parts (f : Int → Int) (s : List S125) : Nat → Int → List ByteArray → Int
  | 0, next, _ => next
  | n + 1, next, names => if next ≥ (s.length : Int) then -1 else if names.any (fun x => decide (x.toList = (rd_T125 s next).f0.toList)) then -1 else if f next < 0 then -1 else parts f s n (f next) (names ++ [(rd_T125 s next).f0])
def chk (s : List S125) : Nat → Int → Int
  | 0, _ => -1
  | d + 1, p => if p ≥ (s.length : Int) then -1 else if colB (decide (p = 0)) (rd_T125 s p) = true then parts (chk s d) s (rd_T125 s p).f3.toNat (p + 1) [] else -1
theorem parts_range (f : Int → Int) (s : List S125) (hf : ∀ p, 0 ≤ p → f p = -1 ∨ (p < f p ∧ f p ≤ s.length)) : ∀ (n : Nat) (next : Int) (names : List ByteArray), 0 ≤ next → next ≤ s.length → parts f s n next names = -1 ∨ (next ≤ parts f s n next names ∧ parts f s n next names ≤ s.length)
  | 0, next, names, h0, h1 => .inr ⟨by simp [parts], by simp [parts]; exact h1⟩
  | n + 1, next, names, h0, h1 => by
    unfold parts
    split
    · exact .inl rfl
    split
    · exact .inl rfl
    split
    · exact .inl rfl
    · have hn := hf next h0
      have := parts_range f s hf n (f next) (names ++ [(rd_T125 s next).f0]) (by omega) (by omega)
      omega
theorem chk_range (s : List S125) : ∀ (d : Nat) (p : Int), 0 ≤ p → chk s d p = -1 ∨ (p < chk s d p ∧ chk s d p ≤ s.length)
  | 0, p, h => .inl rfl
  | d + 1, p, h => by
    unfold chk
    split
    · exact .inl rfl
    split
    · have := parts_range (chk s d) s (fun q hq => chk_range s d q hq) (rd_T125 s p).f3.toNat (p + 1) [] (by omega) (by omega)
      omega
    · exact .inl rfl
/-- A row of columns whose names are no longer than Go's int, and that are not too many. -/
def ColsOk (s : List S125) : Prop := s.length ≤ 1048576 ∧ (∀ i : Int, (rd_T125 s i).f0.size ≤ 9223372036854775807) ∧ (∀ i : Int, (rd_T125 s i).f3 ≤ 9223372036854775807)
theorem colOk_some (c : S125) : impl_colOk.f c.f0 c.f1 c.f2 c.f3 = some ((if c.f1 = 7 then decide (1 ≤ c.f3) else tOk c.f1 && decide (c.f3 = 0)) && decide (0 ≤ c.f2 ∧ c.f2 ≤ 2)) := by
  unfold impl_colOk.f
  simp only [typeOk_some, within_some, Option.bind_some]
  by_cases h7 : c.f1 = 7
  · rw [if_pos h7, if_pos h7]
    have ht : tOk c.f1 = false := by rw [h7]; rfl
    rw [ht, if_neg (by decide)]
    by_cases h : c.f3 > 0
    · rw [if_pos h, decide_eq_true (show 1 ≤ c.f3 by omega)]; rfl
    · rw [if_neg h, decide_eq_false (show ¬ 1 ≤ c.f3 by omega)]; rfl
  · rw [if_neg h7, if_neg h7]
    cases ht : tOk c.f1 with
    | false => rw [if_neg (by decide)]; rfl
    | true =>
      rw [if_pos rfl]
      by_cases h : c.f3 = 0
      · rw [if_pos h, decide_eq_true h]; rfl
      · rw [if_neg h, decide_eq_false h]; rfl
theorem impl_colAfter_ev (s : List S125) (hs : ColsOk s) : ∀ (d : Nat) (p : Int), d ≤ 7 → 0 ≤ p → p ≤ s.length → Ev (fun k => impl_colAfter.f k s p (7 - (d : Int))) (chk s d p) := by
  obtain ⟨hl, hn, hm⟩ := hs
  have bad : ∀ p dd, Ev (fun k => impl_colAfter.j0 k s p dd true) (-1) := fun p dd => Ev.step (fun k => by rw [impl_colAfter.j0]) (by exact Ev.pos rfl (Ev.now _))
  intro d
  induction d with
  | zero =>
    intro p _ h0 h1
    refine Ev.step (fun k => by rw [impl_colAfter.f]) ?_
    by_cases h : p ≥ (s.length : Int)
    · exact Ev.pos h (bad _ _)
    · exact Ev.neg h (Ev.pos (by omega) (bad _ _))
  | succ d ih =>
    intro p hd h0 h1
    refine Ev.step (fun k => by rw [impl_colAfter.f]) ?_
    unfold chk
    by_cases h : p ≥ (s.length : Int)
    · rw [if_pos h]; exact Ev.pos h (bad _ _)
    rw [if_neg h]
    refine Ev.neg h (Ev.neg (by omega) (Ev.pos h0 (Ev.pos (by omega) (Ev.here (colOk_some (rd_T125 s p)) ?_))))
    have inner : ∀ (n : Nat) (i next : Int) (names : List ByteArray), i + n = (rd_T125 s p).f3 → 0 ≤ i → 0 ≤ next → next ≤ s.length → (names.length : Int) ≤ next →
        Ev (fun k => impl_colAfter.l0 k s (7 - ((d + 1 : Nat) : Int)) next names (rd_T125 s p).f3 i) (parts (chk s d) s n next names) := by
      intro n
      induction n with
      | zero =>
        intro i next names hi i0 n0 n1 nl
        exact Ev.step (fun k => by rw [impl_colAfter.l0]) (by exact Ev.neg (by omega) (Ev.now _))
      | succ n ihn =>
        intro i next names hi i0 n0 n1 nl
        refine Ev.step (fun k => by rw [impl_colAfter.l0]) ?_
        unfold parts
        refine Ev.pos (by omega) ?_
        by_cases hx : next ≥ (s.length : Int)
        · rw [if_pos hx]; exact Ev.pos hx (Ev.now _)
        rw [if_neg hx]
        refine Ev.neg hx ?_
        have rest : ∀ (m j : Nat), j + m = names.length → Ev (fun k => impl_colAfter.l1 k s (7 - ((d + 1 : Nat) : Int)) next names (rd_T125 s p).f3 i (names.length : Int) (j : Int))
            (if (names.drop j).any (fun x => decide (x.toList = (rd_T125 s next).f0.toList)) then -1 else if chk s d next < 0 then -1 else parts (chk s d) s n (chk s d next) (names ++ [(rd_T125 s next).f0])) := by
          intro m
          induction m with
          | zero =>
            intro j hj
            rw [List.drop_eq_nil_of_le (by omega)]
            rw [if_neg (by simp)]
            refine Ev.step (fun k => by rw [impl_colAfter.l1]) ?_
            refine Ev.neg (by omega) (Ev.pos n0 (Ev.pos (by omega) (Ev.pos (by omega) ?_)))
            have e : wrap64 (7 - ((d + 1 : Nat) : Int) + 1) = 7 - (d : Int) := by rw [wrap64_id (by omega) (by omega)]; omega
            rw [e]
            refine Ev.bind (ih next (by omega) n0 n1) ?_
            have hr := chk_range s d next n0
            by_cases hneg : chk s d next < 0
            · rw [if_pos hneg]; exact Ev.pos hneg (Ev.now _)
            · rw [if_neg hneg]
              refine Ev.neg hneg ?_
              have hmm := hm p
              rw [wrap64_id (x := i + 1) (by omega) (by omega)]
              exact ihn (i + 1) (chk s d next) (names ++ [(rd_T125 s next).f0]) (by omega) (by omega) (by omega) (by omega) (by simp; omega)
          | succ m ihm =>
            intro j hj
            have hjl : j < names.length := by omega
            have ed : names.drop j = names[j] :: names.drop (j + 1) := List.drop_eq_getElem_cons hjl
            refine Ev.step (fun k => by rw [impl_colAfter.l1]) ?_
            refine Ev.pos (by omega) (Ev.pos (by omega) (Ev.pos (by omega) (Ev.pos n0 (Ev.pos (by omega) ?_))))
            rw [rdOf_eq (by omega)]
            have ej : names[((j : Int)).toNat]'(by omega) = names[j] := rfl
            rw [ej, ed, List.any_cons]
            by_cases he : (names[j]).toList = (rd_T125 s next).f0.toList
            · rw [decide_eq_true he]; exact Ev.pos he (Ev.now _)
            · rw [decide_eq_false he]
              refine Ev.neg he ?_
              rw [wrap64_id (x := (j : Int) + 1) (by omega) (by omega)]
              exact ihm (j + 1) (by omega)
        exact rest names.length 0 (by omega)
    have hx : ∀ b : Bool, colB (decide (p = 0)) (rd_T125 s p) = !b → Ev (fun k => impl_colAfter.j0 k s p (7 - ((d + 1 : Nat) : Int)) b) (if colB (decide (p = 0)) (rd_T125 s p) = true then parts (chk s d) s (rd_T125 s p).f3.toNat (p + 1) [] else -1) := by
      intro b hb
      cases b with
      | true => rw [hb, if_neg (by decide)]; exact bad _ _
      | false =>
        rw [hb, if_pos (show (!false) = true from rfl)]
        refine Ev.step (fun k => by rw [impl_colAfter.j0]) ?_
        have hm0 : 0 ≤ (rd_T125 s p).f3 := by
          unfold colB at hb
          by_cases h7 : (rd_T125 s p).f1 = 7
          · rw [if_pos h7] at hb; simp at hb; omega
          · rw [if_neg h7] at hb; simp at hb; omega
        refine Ev.neg (by decide) (Ev.pos h0 (Ev.pos (by omega) ?_))
        rw [wrap64_id (x := p + 1) (by omega) (by omega)]
        exact inner (rd_T125 s p).f3.toNat 0 (p + 1) [] (by omega) (by omega) (by omega) (by omega) (by simp; omega)
    cases hc : ((if (rd_T125 s p).f1 = 7 then decide (1 ≤ (rd_T125 s p).f3) else tOk (rd_T125 s p).f1 && decide ((rd_T125 s p).f3 = 0)) && decide (0 ≤ (rd_T125 s p).f2 ∧ (rd_T125 s p).f2 ≤ 2)) with
    | false => exact Ev.neg (by decide) (hx true (by unfold colB; rw [hc]; rfl))
    | true =>
      refine Ev.pos rfl ?_
      by_cases hp0 : p > 0
      · refine Ev.pos hp0 (Ev.bind (impl_isColName_ev _ (hn p)) ?_)
        exact hx _ (by unfold colB; rw [hc, decide_eq_false (show ¬ p = 0 by omega)]; simp)
      · refine Ev.neg hp0 ?_
        exact hx false (by unfold colB; rw [hc, decide_eq_true (show p = 0 by omega)]; simp)
def rootB (c : S125) : Bool := decide (c.f1 = 7) && decide (c.f2 = 0) && decide (c.f0.toList = ([] : List UInt8))
theorem spec_l5Check_ev (s : List S125) (hs : ColsOk s) : ∀ (d : Nat) (p : Int), d ≤ 7 → 0 ≤ p → p ≤ s.length → Ev (fun k => spec_l5Check.f k s p (7 - (d : Int))) (if p = 0 ∧ rootB (rd_T125 s p) = false then -1 else chk s d p) := by
  obtain ⟨hl, hn, hm⟩ := hs
  have bad : ∀ p dd, Ev (fun k => spec_l5Check.j0 k s p dd true) (-1) := fun p dd => Ev.step (fun k => by rw [spec_l5Check.j0]) (by exact Ev.pos rfl (Ev.now _))
  intro d
  induction d with
  | zero =>
    intro p _ h0 h1
    refine Ev.step (fun k => by rw [spec_l5Check.f]) ?_
    have e : (if p = 0 ∧ rootB (rd_T125 s p) = false then -1 else chk s 0 p) = -1 := by split <;> rfl
    rw [e]
    by_cases h : p ≥ (s.length : Int)
    · exact Ev.pos h (bad _ _)
    · refine Ev.neg h ?_
      have : decide (7 - ((0 : Nat) : Int) > 6) = true := by decide
      rw [this]; exact bad _ _
  | succ d ih =>
    intro p hd h0 h1
    refine Ev.step (fun k => by rw [spec_l5Check.f]) ?_
    by_cases h : p ≥ (s.length : Int)
    · have e : (if p = 0 ∧ rootB (rd_T125 s p) = false then -1 else chk s (d + 1) p) = -1 := by
        split
        · rfl
        · unfold chk; rw [if_pos h]
      rw [e]; exact Ev.pos h (bad _ _)
    refine Ev.neg h ?_
    have hdd : decide (7 - ((d + 1 : Nat) : Int) > 6) = false := decide_eq_false (by omega)
    rw [hdd]
    refine Ev.step (fun k => by rw [spec_l5Check.j0]) ?_
    refine Ev.neg (by decide) (Ev.pos h0 (Ev.pos (by omega) ?_))
    have inner : ∀ (n : Nat) (i next : Int) (names : List ByteArray), i + n = (rd_T125 s p).f3 → 0 ≤ i → 0 < next → next ≤ s.length → (names.length : Int) ≤ next →
        Ev (fun k => spec_l5Check.l0 k s (7 - ((d + 1 : Nat) : Int)) next names i (rd_T125 s p).f0 (rd_T125 s p).f1 (rd_T125 s p).f2 (rd_T125 s p).f3) (parts (chk s d) s n next names) := by
      intro n
      induction n with
      | zero =>
        intro i next names hi i0 n0 n1 nl
        exact Ev.step (fun k => by rw [spec_l5Check.l0]) (by exact Ev.neg (by omega) (Ev.now _))
      | succ n ihn =>
        intro i next names hi i0 n0 n1 nl
        refine Ev.step (fun k => by rw [spec_l5Check.l0]) ?_
        unfold parts
        refine Ev.pos (by omega) ?_
        by_cases hx : next ≥ (s.length : Int)
        · rw [if_pos hx]; exact Ev.pos hx (Ev.now _)
        rw [if_neg hx]
        refine Ev.neg hx ?_
        have rest : ∀ (m j : Nat), j + m = names.length → Ev (fun k => spec_l5Check.l1 k s (7 - ((d + 1 : Nat) : Int)) next names i (j : Int) (rd_T125 s p).f0 (rd_T125 s p).f1 (rd_T125 s p).f2 (rd_T125 s p).f3)
            (if (names.drop j).any (fun x => decide (x.toList = (rd_T125 s next).f0.toList)) then -1 else if chk s d next < 0 then -1 else parts (chk s d) s n (chk s d next) (names ++ [(rd_T125 s next).f0])) := by
          intro m
          induction m with
          | zero =>
            intro j hj
            rw [List.drop_eq_nil_of_le (by omega)]
            rw [if_neg (by simp)]
            refine Ev.step (fun k => by rw [spec_l5Check.l1]) ?_
            refine Ev.neg (by omega) (Ev.pos (by omega) (Ev.pos (by omega) (Ev.pos (by omega) ?_)))
            have e : wrap64 (7 - ((d + 1 : Nat) : Int) + 1) = 7 - (d : Int) := by rw [wrap64_id (by omega) (by omega)]; omega
            rw [e]
            have hih := ih next (by omega) (by omega) n1
            rw [if_neg (by omega)] at hih
            refine Ev.bind hih ?_
            have hr := chk_range s d next (by omega)
            by_cases hneg : chk s d next < 0
            · rw [if_pos hneg]; exact Ev.pos hneg (Ev.now _)
            · rw [if_neg hneg]
              refine Ev.neg hneg ?_
              have hmm := hm p
              rw [wrap64_id (x := i + 1) (by omega) (by omega)]
              exact ihn (i + 1) (chk s d next) (names ++ [(rd_T125 s next).f0]) (by omega) (by omega) (by omega) (by omega) (by simp; omega)
          | succ m ihm =>
            intro j hj
            have hjl : j < names.length := by omega
            have ed : names.drop j = names[j] :: names.drop (j + 1) := List.drop_eq_getElem_cons hjl
            refine Ev.step (fun k => by rw [spec_l5Check.l1]) ?_
            refine Ev.pos (by omega) (Ev.pos (by omega) (Ev.pos (by omega) (Ev.pos (by omega) ?_)))
            rw [rdOf_eq (by omega)]
            have ej : names[((j : Int)).toNat]'(by omega) = names[j] := rfl
            rw [ej, ed, List.any_cons]
            by_cases he : (names[j]).toList = (rd_T125 s next).f0.toList
            · rw [decide_eq_true he]; exact Ev.pos he (Ev.now _)
            · rw [decide_eq_false he]
              refine Ev.neg he ?_
              rw [wrap64_id (x := (j : Int) + 1) (by omega) (by omega)]
              exact ihm (j + 1) (by omega)
        exact rest names.length 0 (by omega)
    -- what stands behind the checks of the name and of the kind of repetition
    have hx : ∀ b : Bool, (!b) = (decide (0 ≤ (rd_T125 s p).f2 ∧ (rd_T125 s p).f2 ≤ 2) && (decide (p = 0) || nameOk (rd_T125 s p).f0)) → Ev (fun k => spec_l5Check.j1 k s p (7 - ((d + 1 : Nat) : Int)) b (rd_T125 s p).f0 (rd_T125 s p).f1 (rd_T125 s p).f2 (rd_T125 s p).f3) (chk s (d + 1) p) := by
      intro b hb
      unfold chk
      rw [if_neg h]
      refine Ev.step (fun k => by rw [spec_l5Check.j1]) ?_
      unfold colB
      rw [Bool.and_assoc, ← hb]
      cases b with
      | true => rw [Bool.not_true, Bool.and_false, if_neg (show ¬ (false = true) by decide)]; exact Ev.pos rfl (Ev.now _)
      | false =>
        rw [Bool.not_false, Bool.and_true]
        refine Ev.neg (by decide) ?_
        by_cases h7 : (rd_T125 s p).f1 = 7
        · refine Ev.pos h7 ?_
          rw [if_pos h7]
          by_cases h3 : (rd_T125 s p).f3 < 1
          · rw [decide_eq_false (show ¬ 1 ≤ (rd_T125 s p).f3 by omega), if_neg (show ¬ (false = true) by decide)]; exact Ev.pos h3 (Ev.now _)
          · rw [decide_eq_true (show 1 ≤ (rd_T125 s p).f3 by omega), if_pos (show true = true from rfl)]
            refine Ev.neg h3 ?_
            rw [wrap64_id (x := p + 1) (by omega) (by omega)]
            exact inner (rd_T125 s p).f3.toNat 0 (p + 1) [] (by omega) (by omega) (by omega) (by omega) (by simp; omega)
        · refine Ev.neg h7 (Ev.here (l5Type_some _) ?_)
          rw [if_neg h7]
          cases ht : tOk (rd_T125 s p).f1 with
          | false => exact Ev.neg (show ¬ (false = true) by decide) (Ev.const rfl)
          | true =>
            refine Ev.pos rfl ?_
            by_cases h3 : (rd_T125 s p).f3 = 0
            · rw [decide_eq_true h3, if_pos (show (true && true) = true from rfl), h3]
              refine Ev.pos rfl (Ev.const ?_)
              rw [wrap64_id (x := p + 1) (by omega) (by omega)]; rfl
            · rw [decide_eq_false h3, if_neg (show ¬ ((true && false) = true) by decide)]; exact Ev.neg h3 (Ev.now _)
    by_cases hp0 : p = 0
    · refine Ev.pos hp0 ?_
      have hbad : rootB (rd_T125 s p) = false → Ev (fun k => spec_l5Check.j1 k s p (7 - ((d + 1 : Nat) : Int)) true (rd_T125 s p).f0 (rd_T125 s p).f1 (rd_T125 s p).f2 (rd_T125 s p).f3) (if p = 0 ∧ rootB (rd_T125 s p) = false then -1 else chk s (d + 1) p) := fun hr => by
        rw [if_pos ⟨hp0, hr⟩]
        exact Ev.step (fun k => by rw [spec_l5Check.j1]) (by exact Ev.pos rfl (Ev.now _))
      by_cases r1 : (rd_T125 s p).f0.toList = ([] : List UInt8)
      · refine Ev.pos r1 ?_
        by_cases r2 : (rd_T125 s p).f2 = 0
        · refine Ev.pos r2 ?_
          by_cases r3 : (rd_T125 s p).f1 = 7
          · refine Ev.pos r3 (Ev.neg (by omega) (Ev.here (l1In_some _ _ _) ?_))
            have hr : rootB (rd_T125 s p) = true := by unfold rootB; rw [decide_eq_true r1, decide_eq_true r2, decide_eq_true r3]; rfl
            rw [if_neg (by rw [hr]; simp)]
            exact hx _ (by rw [decide_eq_true hp0]; simp)
          · exact Ev.neg r3 (hbad (by unfold rootB; rw [decide_eq_false r3]; simp))
        · exact Ev.neg r2 (hbad (by unfold rootB; rw [decide_eq_false r2]; simp))
      · exact Ev.neg r1 (hbad (by unfold rootB; rw [decide_eq_false r1]; simp))
    · rw [if_neg (by omega)]
      refine Ev.neg hp0 (Ev.pos (by omega) (Ev.bind (spec_l5Name_ev _ (hn p)) ?_))
      cases hnm : nameOk (rd_T125 s p).f0 with
      | true =>
        refine Ev.pos rfl (Ev.here (l1In_some _ _ _) ?_)
        exact hx _ (by rw [hnm]; simp)
      | false => exact Ev.neg (by decide) (hx true (by rw [hnm, decide_eq_false hp0]; simp))
def schOk (s : List S125) : Bool := decide (2 ≤ (s.length : Int) ∧ (s.length : Int) ≤ 20) && rootB (rd_T125 s 0) && decide (chk s 6 0 = (s.length : Int))
theorem impl_SchemaOk_ev (s : List S125) (hs : ColsOk s) : Ev (fun k => impl_SchemaOk.f k s) (schOk s) := by
  unfold impl_SchemaOk.f schOk
  refine Ev.here (within_some _ _ _) ?_
  by_cases h : 2 ≤ (s.length : Int) ∧ (s.length : Int) ≤ 20
  · rw [decide_eq_true h]
    refine Ev.pos rfl (Ev.pos (by omega) ?_)
    unfold rootB
    by_cases r3 : (rd_T125 s 0).f1 = 7
    · refine Ev.pos r3 ?_
      by_cases r2 : (rd_T125 s 0).f2 = 0
      · refine Ev.pos r2 ?_
        by_cases r1 : (rd_T125 s 0).f0.toList = ([] : List UInt8)
        · refine Ev.pos r1 (Ev.bind (impl_colAfter_ev s hs 6 0 (by omega) (by omega) (by omega)) (Ev.const ?_))
          rw [decide_eq_true r1, decide_eq_true r2, decide_eq_true r3]
          rfl
        · refine Ev.neg r1 (Ev.const ?_); rw [decide_eq_false r1]; simp
      · refine Ev.neg r2 (Ev.const ?_); rw [decide_eq_false r2]; simp
    · refine Ev.neg r3 (Ev.const ?_); rw [decide_eq_false r3]; simp
  · rw [decide_eq_false h]
    exact Ev.neg (by decide) (Ev.now _)
theorem spec_SchemaOk_ev (s : List S125) (hs : ColsOk s) : Ev (fun k => spec_SchemaOk.f k s) (schOk s) := by
  unfold spec_SchemaOk.f schOk
  refine Ev.here (l1In_some _ _ _) ?_
  by_cases h : 2 ≤ (s.length : Int) ∧ (s.length : Int) ≤ 20
  · rw [decide_eq_true h]
    refine Ev.pos rfl (Ev.bind (spec_l5Check_ev s hs 6 0 (by omega) (by omega) (by omega)) (Ev.const ?_))
    cases hr : rootB (rd_T125 s 0) with
    | false =>
      rw [if_pos ⟨rfl, rfl⟩]
      have : ((-1 : Int) == (s.length : Int)) = false := by simp
      rw [this]; rfl
    | true =>
      rw [if_neg (by simp)]
      rfl
  · rw [decide_eq_false h]
    exact Ev.neg (by decide) (Ev.now _)
/-- The columns that are no structs, from the front. -/
def lvStep (s : List S125) (i : Nat) (out : List Int) : List Int := if (rd_T125 s (i : Int)).f1 = 7 then out else out ++ [(i : Int)]
def lvs (s : List S125) (n : Nat) : List Int := (List.range n).foldl (fun out i => lvStep s i out) []
theorem lvStep_length (s : List S125) (i : Nat) (out : List Int) : (lvStep s i out).length ≤ out.length + 1 := by
  unfold lvStep; split <;> simp
theorem lvs_length (s : List S125) (n : Nat) : (lvs s n).length ≤ n := by
  induction n with
  | zero => simp [lvs]
  | succ n ih =>
    unfold lvs at ih ⊢
    rw [List.range_succ, List.foldl_append]
    simp only [List.foldl_cons, List.foldl_nil]
    have := lvStep_length s n ((List.range n).foldl (fun out i => lvStep s i out) [])
    omega
theorem lvs_mem (s : List S125) (n : Nat) : ∀ x ∈ lvs s n, 0 ≤ x ∧ x < n ∧ (rd_T125 s x).f1 ≠ 7 := by
  induction n with
  | zero => intro x hx; simp [lvs] at hx
  | succ n ih =>
    intro x hx
    unfold lvs at hx ih
    rw [List.range_succ, List.foldl_append] at hx
    simp only [List.foldl_cons, List.foldl_nil] at hx
    generalize (List.range n).foldl (fun out i => lvStep s i out) [] = q at hx ih
    unfold lvStep at hx
    split at hx
    · have := ih x hx; omega
    · rename_i h7
      rcases List.mem_append.1 hx with h | h
      · have := ih x h; exact ⟨this.1, by omega, this.2.2⟩
      · obtain rfl := List.mem_singleton.1 h
        exact ⟨by omega, by omega, h7⟩
theorem spec_l5Leaves_ev (s : List S125) (hs : s.length ≤ 1048576) : Ev (fun k => spec_l5Leaves.f k s) (lvs s s.length) := by
  unfold spec_l5Leaves.f
  refine loop_inv (fun k out i => spec_l5Leaves.l0 k s out i) (fun i out => lvStep s i out) s.length _ (fun i out => out.length ≤ i) [] (by simp) (fun i out hi ho => by have := lvStep_length s i out; omega) (fun i out hi ho hr => ?_) (fun out ho he => ?_)
  · have e : ((i + 1 : Nat) : Int) = (i : Int) + 1 := by push_cast; rfl
    rw [e] at hr
    refine Ev.step (fun k => by rw [spec_l5Leaves.l0]) ?_
    refine Ev.pos (by omega) (Ev.pos (by omega) ?_)
    rw [wrap64_id (x := (i : Int) + 1) (by omega) (by omega)]
    unfold lvStep at hr
    by_cases h7 : (rd_T125 s (i : Int)).f1 = 7
    · rw [if_pos h7] at hr; exact Ev.pos h7 hr
    · rw [if_neg h7] at hr; exact Ev.neg h7 (Ev.pos (by omega) hr)
  · refine Ev.step (fun k => by rw [spec_l5Leaves.l0]) ?_
    refine Ev.neg (by omega) (Ev.const ?_)
    rw [he]; rfl
theorem impl_leavesOf_ev (s : List S125) (hs : s.length ≤ 1048576) : Ev (fun k => impl_leavesOf.f k s) (lvs s s.length) := by
  unfold impl_leavesOf.f
  refine loop_inv (fun k out i => impl_leavesOf.l0 k out s (s.length : Int) i) (fun i out => lvStep s i out) s.length _ (fun i out => out.length ≤ i) [] (by simp) (fun i out hi ho => by have := lvStep_length s i out; omega) (fun i out hi ho hr => ?_) (fun out ho he => ?_)
  · have e : ((i + 1 : Nat) : Int) = (i : Int) + 1 := by push_cast; rfl
    rw [e] at hr
    refine Ev.step (fun k => by rw [impl_leavesOf.l0]) ?_
    refine Ev.pos (by omega) (Ev.pos (by omega) (Ev.pos (by omega) ?_))
    rw [wrap64_id (x := (i : Int) + 1) (by omega) (by omega)]
    unfold lvStep at hr
    by_cases h7 : (rd_T125 s (i : Int)).f1 = 7
    · rw [if_pos h7] at hr; exact Ev.pos h7 hr
    · rw [if_neg h7] at hr; exact Ev.neg h7 (Ev.pos (by omega) hr)
  · refine Ev.step (fun k => by rw [impl_leavesOf.l0]) ?_
    refine Ev.neg (by omega) (Ev.const ?_)
    rw [he]; rfl
def leaves (s : List S125) : List Int := if schOk s = true then lvs s s.length else []
theorem spec_SchemaLeaves_ev (s : List S125) (hs : ColsOk s) : Ev (fun k => spec_SchemaLeaves.f k s) (leaves s) := by
  unfold spec_SchemaLeaves.f leaves
  refine Ev.bind (spec_SchemaOk_ev s hs) ?_
  cases schOk s with
  | true => exact Ev.pos rfl (Ev.bind (spec_l5Leaves_ev s hs.1) (Ev.now _))
  | false => exact Ev.neg (by decide) (Ev.now _)
theorem leaves_length (s : List S125) : (leaves s).length ≤ s.length := by
  unfold leaves; split
  · exact lvs_length s _
  · simp
theorem schOk_parts {s : List S125} (h : schOk s = true) : 2 ≤ (s.length : Int) ∧ (s.length : Int) ≤ 20 ∧ rootB (rd_T125 s 0) = true ∧ chk s 6 0 = (s.length : Int) := by
  unfold schOk at h
  simp only [Bool.and_eq_true, decide_eq_true_eq] at h
  exact ⟨h.1.1.1, h.1.1.2, h.1.2, h.2⟩
/-- What is known of the leaf number i. -/
theorem leaf_pos {s : List S125} {i : Int} (h0 : 0 ≤ i) (h1 : i < (leaves s).length) : ∃ pos : Nat, rd (leaves s) i = (pos : Int) ∧ pos < s.length ∧ 0 < pos ∧ schOk s = true := by
  have hk : schOk s = true := by
    unfold leaves at h1
    split at h1
    · assumption
    · simp at h1; omega
  have hm : rd (leaves s) i ∈ leaves s := by rw [rd_eq (by omega)]; exact List.getElem_mem _
  have hm2 : rd (leaves s) i ∈ lvs s s.length := by
    have e : leaves s = lvs s s.length := by unfold leaves; rw [if_pos hk]
    rw [e] at hm ⊢; exact hm
  obtain ⟨m0, m1, m7⟩ := lvs_mem s s.length _ hm2
  obtain ⟨_, _, hr, _⟩ := schOk_parts hk
  have hne : rd (leaves s) i ≠ 0 := by
    intro e
    rw [e] at m7
    unfold rootB at hr
    simp only [Bool.and_eq_true, decide_eq_true_eq] at hr
    exact m7 hr.1.1
  exact ⟨(rd (leaves s) i).toNat, by omega, by omega, by omega, hk⟩
theorem colsOk_of (l : List S122) (hl : l.length ≤ 1048576) (hw : ∀ y ∈ l, w122 y) : ColsOk (l.map cvCol) := by
  have h : ∀ i : Int, (rd_T125 (l.map cvCol) i).f0.size ≤ 9223372036854775807 ∧ (rd_T125 (l.map cvCol) i).f3 ≤ 9223372036854775807 := by
    intro i
    have e : rd_T125 (l.map cvCol) i = (l.map cvCol).getD i.toNat z125 := rfl
    rw [e]
    by_cases hi : i.toNat < l.length
    · rw [getD_eq (by simpa using hi), List.getElem_map]
      have := hw (l[i.toNat]) (List.getElem_mem _)
      obtain ⟨a, b, c, d⟩ := this
      have := i64_of d
      exact ⟨by unfold maxLen at a; exact a, this.2⟩
    · rw [List.getD_eq_getElem?_getD, List.getElem?_eq_none (by simp; omega)]
      exact ⟨by decide, by decide⟩
  exact ⟨by simpa using hl, fun i => (h i).1, fun i => (h i).2⟩
def plainB (v p g d : Int) : Bool := decide ((1 ≤ v ∧ v ≤ 2) ∧ (1 ≤ p ∧ p ≤ 200) ∧ (1 ≤ g ∧ g ≤ 200) ∧ (0 ≤ d ∧ d ≤ 20000))
theorem l16Plain_some (v p g d : Int) (b : Bool) (l : List Int) : spec_l16Plain.f v b p g d l = some (plainB v p g d) := by
  unfold spec_l16Plain.f plainB
  simp only [l1In_some, Option.bind_some]
  by_cases h1 : 1 ≤ v ∧ v ≤ 2
  · rw [decide_eq_true h1, if_pos rfl]
    by_cases h2 : 1 ≤ p ∧ p ≤ 200
    · rw [decide_eq_true h2, if_pos rfl]
      by_cases h3 : 1 ≤ g ∧ g ≤ 200
      · rw [decide_eq_true h3, if_pos rfl]; congr 1; apply decide_eq_decide.2; exact ⟨fun h => ⟨h1, h2, h3, h⟩, fun h => h.2.2.2⟩
      · rw [decide_eq_false h3, if_neg (by decide)]; congr 1; symm; apply decide_eq_false; exact fun h => h3 h.2.2.1
    · rw [decide_eq_false h2, if_neg (by decide)]; congr 1; symm; apply decide_eq_false; exact fun h => h2 h.2.1
  · rw [decide_eq_false h1, if_neg (by decide)]; congr 1; symm; apply decide_eq_false; exact fun h => h1 h.1
def encsB (s : List S125) (e : List Int) : Bool := decide ((e.length : Int) = (leaves s).length) && (List.range (leaves s).length).all (fun (i : Nat) => encB (rd e (i : Int)) (rd_T125 s (rd (leaves s) (i : Int))).f1)
def cfgB (s : List S125) (v p g d : Int) (e : List Int) : Bool := schOk s && plainB v p g d && encsB s e
theorem leaf_in {s : List S125} {i : Nat} (h : i < (leaves s).length) : 0 ≤ rd (leaves s) (i : Int) ∧ rd (leaves s) (i : Int) < s.length := by
  obtain ⟨pos, h1, h2, _, _⟩ := leaf_pos (s := s) (i := (i : Int)) (by omega) (by omega)
  omega
theorem spec_ConfigOk_ev (s : List S125) (hs : ColsOk s) (v p g d : Int) (b : Bool) (e : List Int) (he : e.length ≤ 1048576) : Ev (fun k => spec_ConfigOk.f k s v b p g d e) (cfgB s v p g d e) := by
  have hl := hs.1
  have hll := leaves_length s
  have bad : ∀ lv {x}, x = true → cfgB s v p g d e = false → Ev (fun k => spec_ConfigOk.j0 k s lv x v b p g d e) (cfgB s v p g d e) := fun lv x hx h => by
    rw [h, hx]; exact Ev.step (fun k => by rw [spec_ConfigOk.j0]) (by exact Ev.pos rfl (Ev.now _))
  unfold spec_ConfigOk.f
  refine Ev.bind (spec_SchemaLeaves_ev s hs) (Ev.bind (spec_SchemaOk_ev s hs) ?_)
  cases hk : schOk s with
  | false => exact Ev.neg (by decide) (bad _ rfl (by simp [cfgB, hk]))
  | true =>
    refine Ev.pos rfl (Ev.here (l16Plain_some v p g d b e) ?_)
    cases hp : plainB v p g d with
    | false => exact Ev.neg (by decide) (bad _ rfl (by simp [cfgB, hp]))
    | true =>
      refine Ev.pos rfl ?_
      by_cases hn : (e.length : Int) = (leaves s).length
      · refine Ev.step (fun k => by rw [spec_ConfigOk.j0]) ?_
        refine Ev.neg (by simpa using hn) ?_
        have key := all_loop (fun k i => spec_ConfigOk.l0 k s (leaves s) i v b p g d e) (fun (i : Nat) => encB (rd e (i : Int)) (rd_T125 s (rd (leaves s) (i : Int))).f1) (leaves s).length false true
          (fun i r hi hp hr => by
            have hli := leaf_in hi
            refine Ev.step (fun k => by rw [spec_ConfigOk.l0]) ?_
            refine Ev.pos (by omega) (Ev.pos (by omega) (Ev.pos (by omega) (Ev.pos hli.1 (Ev.pos hli.2 (Ev.bind (spec_EncOk_ev _ _) ?_)))))
            rw [hp]
            refine Ev.pos rfl ?_
            rw [wrap64_id (by omega) (by omega)]
            simpa using hr)
          (fun i hi hp => by
            have hli := leaf_in hi
            refine Ev.step (fun k => by rw [spec_ConfigOk.l0]) ?_
            refine Ev.pos (by omega) (Ev.pos (by omega) (Ev.pos (by omega) (Ev.pos hli.1 (Ev.pos hli.2 (Ev.bind (spec_EncOk_ev _ _) ?_)))))
            rw [hp]
            exact Ev.neg (by decide) (Ev.now _))
          (by exact Ev.step (fun k => by rw [spec_ConfigOk.l0]) (by exact Ev.neg (by omega) (Ev.now _)))
        refine Ev.cast key ?_
        unfold cfgB encsB
        rw [hk, hp, decide_eq_true hn]
        cases (List.range (leaves s).length).all _ <;> rfl
      · exact bad _ (by simpa using hn) (by unfold cfgB encsB; rw [decide_eq_false hn]; simp)
theorem pagesOk_some (v p g d : Int) (b : Bool) (l : List Int) : impl_pagesOk.f v b p g d l = some (decide ((1 ≤ v ∧ v ≤ 2) ∧ (1 ≤ p ∧ p ≤ 200) ∧ (0 ≤ d ∧ d ≤ 20000))) := by
  unfold impl_pagesOk.f
  simp only [within_some, Option.bind_some]
  by_cases h1 : 1 ≤ v ∧ v ≤ 2
  · rw [decide_eq_true h1, if_pos rfl]
    by_cases h2 : 1 ≤ p ∧ p ≤ 200
    · rw [decide_eq_true h2, if_pos rfl]; congr 1; apply decide_eq_decide.2; exact ⟨fun h => ⟨h1, h2, h⟩, fun h => h.2.2⟩
    · rw [decide_eq_false h2, if_neg (by decide)]; congr 1; symm; apply decide_eq_false; exact fun h => h2 h.2.1
  · rw [decide_eq_false h1, if_neg (by decide)]; congr 1; symm; apply decide_eq_false; exact fun h => h1 h.1
theorem impl_ConfigOk_ev (s : List S125) (hs : ColsOk s) (v p g d : Int) (b : Bool) (e : List Int) (he : e.length ≤ 1048576) : Ev (fun k => impl_ConfigOk.f k s v b p g d e) (cfgB s v p g d e) := by
  have hl := hs.1
  have hll := leaves_length s
  have bad : ∀ {x}, x = true → cfgB s v p g d e = false → Ev (fun k => impl_ConfigOk.j0 k s x v b p g d e) (cfgB s v p g d e) := fun {x} hx h => by
    rw [h, hx]; exact Ev.step (fun k => by rw [impl_ConfigOk.j0]) (by exact Ev.pos rfl (Ev.now _))
  unfold impl_ConfigOk.f
  refine Ev.bind (impl_SchemaOk_ev s hs) ?_
  cases hk : schOk s with
  | false => exact Ev.neg (by decide) (bad rfl (by simp [cfgB, hk]))
  | true =>
    have hlv : lvs s s.length = leaves s := by unfold leaves; rw [if_pos hk]
    have hlo := impl_leavesOf_ev s hl
    rw [hlv] at hlo
    refine Ev.pos rfl (Ev.here (pagesOk_some v p g d b e) ?_)
    by_cases h1 : (1 ≤ v ∧ v ≤ 2) ∧ (1 ≤ p ∧ p ≤ 200) ∧ (0 ≤ d ∧ d ≤ 20000)
    · rw [decide_eq_true h1]
      refine Ev.pos rfl (Ev.here (within_some _ _ _) ?_)
      by_cases h2 : 1 ≤ g ∧ g ≤ 200
      · rw [decide_eq_true h2]
        have hp : plainB v p g d = true := by unfold plainB; exact decide_eq_true ⟨h1.1, h1.2.1, h2, h1.2.2⟩
        refine Ev.pos rfl (Ev.bind hlo ?_)
        by_cases hn : (e.length : Int) = (leaves s).length
        · refine Ev.step (fun k => by rw [impl_ConfigOk.j0]) ?_
          refine Ev.neg (by simpa using hn) (Ev.bind hlo ?_)
          have key := all_loop (fun k i => impl_ConfigOk.l0 k s (leaves s) ((leaves s).length : Int) i v b p g d e) (fun (i : Nat) => encB (rd e (i : Int)) (rd_T125 s (rd (leaves s) (i : Int))).f1) (leaves s).length false true
            (fun i r hi hp hr => by
              have hli := leaf_in hi
              refine Ev.step (fun k => by rw [impl_ConfigOk.l0]) ?_
              refine Ev.pos (by omega) (Ev.pos (by omega) (Ev.pos (by omega) (Ev.pos (by omega) (Ev.pos hli.1 (Ev.pos hli.2 (Ev.bind (impl_EncOk_ev _ _) ?_))))))
              rw [hp]
              refine Ev.pos rfl ?_
              rw [wrap64_id (by omega) (by omega)]
              simpa using hr)
            (fun i hi hp => by
              have hli := leaf_in hi
              refine Ev.step (fun k => by rw [impl_ConfigOk.l0]) ?_
              refine Ev.pos (by omega) (Ev.pos (by omega) (Ev.pos (by omega) (Ev.pos (by omega) (Ev.pos hli.1 (Ev.pos hli.2 (Ev.bind (impl_EncOk_ev _ _) ?_))))))
              rw [hp]
              exact Ev.neg (by decide) (Ev.now _))
            (by exact Ev.step (fun k => by rw [impl_ConfigOk.l0]) (by exact Ev.neg (by omega) (Ev.now _)))
          refine Ev.cast key ?_
          unfold cfgB encsB
          rw [hk, hp, decide_eq_true hn]
          cases (List.range (leaves s).length).all _ <;> rfl
        · exact bad (by simpa using hn) (by unfold cfgB encsB; rw [decide_eq_false hn]; simp)
      · rw [decide_eq_false h2]
        exact Ev.neg (by decide) (bad rfl (by unfold cfgB plainB; rw [decide_eq_false (fun h => h2 h.2.2.1)]; simp))
    · rw [decide_eq_false h1]
      exact Ev.neg (by decide) (bad rfl (by unfold cfgB plainB; rw [decide_eq_false (fun h => h1 ⟨h.1, h.2.1, h.2.2.2⟩)]; simp))
theorem FnExactConfigOk : ∀ (x0 : List (S122)) (x1 : S57), (x0.length ≤ maxLen ∧ ∀ y ∈ x0, w122 y) → (w57 x1) → ∃ k, laws_FnExactConfigOk.f k x0 x1.f0 x1.f1 x1.f2 x1.f3 x1.f4 x1.f5 = some true := by
  intro l c hx hc
  refine Ev.rounds ?_
  unfold laws_FnExactConfigOk.f
  obtain ⟨r1, s1, c1, l1⟩ := szColS_ev l hx.1 hx.2 1048576 (by omega) (by omega)
  refine Ev.bind s1 ?_
  by_cases n1 : r1 < 0
  · exact Ev.pos n1 (Ev.now _)
  refine Ev.neg n1 ?_
  obtain ⟨cv, cb, cp, cg, cd, ce⟩ := c
  have hce : ce.length ≤ 9223372036854775807 := hc.2.2.2.2.2.1
  unfold laws_szConfig.f laws_szIntS.f
  dsimp only
  rw [wrap64_id (x := r1 - (ce.length : Int)) (by omega) (by omega)]
  by_cases n2 : r1 - (ce.length : Int) < 0
  · exact Ev.here (a := -1) (by rw [if_pos n2]; rfl) (Ev.pos (by decide) (Ev.now _))
  refine Ev.here (a := r1 - (ce.length : Int)) (by rw [if_neg n2]; simp only [Option.bind_some]; rw [if_neg n2]) (Ev.neg n2 ?_)
  have t := toColS_ev l (by omega)
  have hs := colsOk_of l (by omega) hx.2
  have es := spec_ConfigOk_ev (l.map cvCol) hs cv cp cg cd cb ce (by omega)
  have ei := impl_ConfigOk_ev (l.map cvCol) hs cv cp cg cd cb ce (by omega)
  have q := eqColS_ev (l.map cvCol) (by simp; omega)
  have tc : Ev (fun k => laws_toConfig.f k cv cb cp cg cd ce) (cv, cb, cp, cg, cd, ce) := by
    unfold laws_toConfig.f; exact Ev.bind (toIntS_ev ce (by omega)) (Ev.now _)
  have qc : Ev (fun k => laws_eqConfig.f k cv cb cp cg cd ce cv cb cp cg cd ce) true := by
    unfold laws_eqConfig.f
    exact Ev.pos rfl (Ev.neg (by simp) (Ev.pos rfl (Ev.pos rfl (Ev.pos rfl (Ev.bind (eqIntS_ev ce (by omega)) (Ev.pos rfl (Ev.now _)))))))
  refine Ev.bind t (Ev.bind tc (Ev.bind es (Ev.bind t (Ev.bind tc (Ev.bind ei (Ev.neg (by simp) (Ev.bind t (Ev.bind q (Ev.pos rfl (Ev.bind tc (Ev.bind qc (Ev.pos rfl (Ev.now _)))))))))))))
end Go.Proofs.Ytnfamhegbfjggaa.Pure
