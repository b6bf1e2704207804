/- The pure statement of FnExactDictOf: the printed functions answer as the law says, for all arguments. No condition. -/
import Derived.Test.YtgbhjjhnkiagfaaCore
import Derived.Test.YtgbhjjhnkiagfaaPFnExactDictOfx
import Derived.Test.YtgbhjjhnkiagfaaArgFnExactDictOf
namespace Go.Proofs.Ytgbhjjhnkiagfaa.Pure
open Go.RowKit Go.Proofs.Ytgbhjjhnkiagfaa.PFnExactDictOf Go.Proofs.Ytgbhjjhnkiagfaa.Core Go.Proofs.YtgbhjjhnkiagfaaW.PrintWords Go.Proofs.YtgbhjjhnkiagfaaW.PrintLast Go.Proofs.YtgbhjjhnkiagfaaW.PrintMore Go.Proofs.YtgbhjjhnkiagfaaW.PrintMore2 Go.Proofs.Ytgbhjjhnkiagfaa.AFnExactDictOf
set_option linter.unusedVariables false
set_option linter.unusedSimpArgs false
def cvVal (x : S60) : S31 := ⟨x.f0, x.f1⟩
theorem toValS_ev (l : List S60) (hl : l.length ≤ 1048576) : Ev (fun k => laws_toValS.f k l) (l.map cvVal) := by
  unfold laws_toValS.f
  refine Ev.pos (by omega) (Ev.pos (by omega) ?_)
  refine copy_loop (fun k out i => laws_toValS.l0 k l out i) l cvVal (fun out i r h ho hr => ?_) (fun out ho => ?_) (List.replicate ((l.length : Int)).toNat z31) (by simp)
  · refine Ev.step (fun k => by rw [laws_toValS.l0]) ?_
    refine Ev.pos (by omega) (Ev.pos (by omega) (Ev.here rfl (Ev.pos (by omega) ?_)))
    rw [wrap64_id (by omega) (by omega)]
    have e : rd_T60 l (i : Int) = l[i] := getD_eq (by simpa using h)
    simp only [e]
    simpa [cvVal] using hr
  · exact Ev.step (fun k => by rw [laws_toValS.l0]) (by exact Ev.neg (by omega) (Ev.now _))
theorem szVal_some (x : S60) (hw : w60 x) (c : Int) (h0 : 0 ≤ c) (h1 : c ≤ 1048576) : ∃ r, laws_szVal.f x.f0 x.f1 c = some r ∧ r ≤ c := by
  have b0 : (x.f1.size : Int) ≤ 9223372036854775807 := by have := hw.2; unfold maxLen at this; omega
  unfold laws_szVal.f
  rw [wrap64_id (x := c - (x.f1.size : Int)) (by omega) (by omega)]
  by_cases n0 : c - (x.f1.size : Int) < 0
  · exact ⟨-1, by simp [n0], by omega⟩
  simp only [if_neg n0, Option.bind_some]
  exact ⟨_, rfl, by omega⟩
theorem szValS_ev (l : List S60) (hw : l.length ≤ maxLen) (ht : ∀ x ∈ l, w60 x) (c : Int) (h0 : 0 ≤ c) (h1 : c ≤ 1048576) : ∃ r, Ev (fun k => laws_szValS.f k l c) r ∧ r ≤ c ∧ (0 ≤ r → r + l.length ≤ c) := by
  have hm : l.length ≤ 9223372036854775807 := by unfold maxLen at hw; omega
  unfold laws_szValS.f
  rw [wrap64_id (by omega) (by omega)]
  by_cases hn : c - (l.length : Int) < 0
  · exact ⟨-1, Ev.pos hn (Ev.now _), by omega, by omega⟩
  · obtain ⟨r, hr, hrc⟩ := budget_loop (fun k c i => laws_szValS.l0 k l c i) l.length (fun c i hc0 hc1 hi => by
      have e : rd_T60 l (i : Int) = l[i] := getD_eq (by simpa using hi)
      obtain ⟨c', hc', hle⟩ := szVal_some l[i] (ht l[i] (List.getElem_mem hi)) c hc0 hc1
      refine ⟨c', hle, fun hneg => ?_, fun hpos r hr => ?_⟩
      · exact Ev.step (fun k => by rw [laws_szValS.l0]) (by exact Ev.pos (by omega) (Ev.pos (by omega) (Ev.here (by rw [e]; exact hc') (Ev.pos hneg (Ev.now _)))))
      · refine Ev.step (fun k => by rw [laws_szValS.l0]) ?_
        refine Ev.pos (by omega) (Ev.pos (by omega) (Ev.here (by rw [e]; exact hc') (Ev.neg (by omega) ?_)))
        rw [wrap64_id (by omega) (by omega)]
        simpa using hr)
      (fun c => Ev.step (fun k => by rw [laws_szValS.l0]) (by exact Ev.neg (by omega) (Ev.now _))) (c - l.length) (by omega) (by omega)
    exact ⟨r, Ev.neg hn hr, by omega, by omega⟩
theorem eqVal_ev (a : S31) : laws_eqVal.f a.f0 a.f1 a.f0 a.f1 = some true := by
  unfold laws_eqVal.f
  simp
theorem eqValS_ev (l : List S31) (hl : l.length ≤ 9223372036854775806) : Ev (fun k => laws_eqValS.f k l l) true := by
  unfold laws_eqValS.f
  refine Ev.pos rfl ?_
  refine same_loop (fun k i => laws_eqValS.l0 k l l i) l.length (fun i r h hr => ?_) ?_
  · refine Ev.step (fun k => by rw [laws_eqValS.l0]) ?_
    refine Ev.pos (by omega) (Ev.pos (by omega) (Ev.pos (by omega) (Ev.here (eqVal_ev _) (Ev.pos rfl ?_))))
    rw [wrap64_id (by omega) (by omega)]
    simpa using hr
  · exact Ev.step (fun k => by rw [laws_eqValS.l0]) (by exact Ev.neg (by omega) (Ev.now _))
theorem eqIntS_ev (l : List Int) (hl : l.length ≤ 9223372036854775806) : Ev (fun k => laws_eqIntS.f k l l) true := by
  unfold laws_eqIntS.f
  refine Ev.pos rfl ?_
  refine same_loop (fun k i => laws_eqIntS.l0 k l l i) l.length (fun i r h hr => ?_) ?_
  · refine Ev.step (fun k => by rw [laws_eqIntS.l0]) ?_
    refine Ev.pos (by omega) (Ev.pos (by omega) (Ev.pos (by omega) (Ev.pos rfl ?_)))
    rw [wrap64_id (by omega) (by omega)]
    simpa using hr
  · exact Ev.step (fun k => by rw [laws_eqIntS.l0]) (by exact Ev.neg (by omega) (Ev.now _))
theorem markIntS_ev (l : List Int) (c : Int) (hc : 0 ≤ c) (hl : c + l.length ≤ 9223372036854775806) : ∃ m ys, m = c + l.length ∧ Ev (fun k => laws_markIntS.f k l c) (m, ys) ∧ Ev (fun k => laws_heldIntS.f k ys c) m := by
  obtain ⟨m, ys, _, hm, h1, h2⟩ := marks_held 1 9223372036854775807 (by omega) (fun c (_ : Int) => c) (fun k xs c i => laws_markIntS.l0 k xs c i) (fun k xs c i => laws_heldIntS.l0 k xs c i)
    (fun xs c i r h hb h0 hB hr => by
      refine Ev.step (fun k => by rw [laws_markIntS.l0]) ?_
      refine Ev.pos (by omega) (Ev.pos (by omega) ?_)
      rw [wrap64_id (x := c + 1) (by omega) (by omega), wrap64_id (x := (i : Int) + 1) (by omega) (by omega)]
      simpa using hr)
    (fun xs c => Ev.step (fun k => by rw [laws_markIntS.l0]) (by exact Ev.neg (by omega) (Ev.now _)))
    (fun xs c i r z h hb h0 hB hz hr => by
      refine Ev.step (fun k => by rw [laws_heldIntS.l0]) ?_
      refine Ev.pos (by omega) (Ev.pos (by omega) (Ev.pos (by rw [rd_eq (by simpa using h)]; simpa using hz) ?_))
      rw [wrap64_id (x := c + 1) (by omega) (by omega), wrap64_id (x := (i : Int) + 1) (by omega) (by omega)]
      simpa using hr)
    (fun xs c => Ev.step (fun k => by rw [laws_heldIntS.l0]) (by exact Ev.neg (by omega) (Ev.now _)))
    l c hc (by omega)
  exact ⟨m, ys, by omega, h1, h2⟩
theorem markText_l0_ev : ∀ (n : Nat) (c : Int) (out : ByteArray), 0 ≤ c → c < 10 ^ n → c ≤ 9223372036854775807 → out.size + n + 1 ≤ 1000 → ∃ t, Ev (fun k => laws_markText.l0 k c out) t := by
  intro n
  induction n with
  | zero =>
    intro c out h0 h1 hb hs
    obtain rfl : c = 0 := by simp at h1; omega
    exact ⟨_, Ev.step (fun k => by rw [laws_markText.l0]) (by exact Ev.neg (by omega) (Ev.pos (by omega) (Ev.now _)))⟩
  | succ n ih =>
    intro c out h0 h1 hb hs
    by_cases hc : c > 0
    · have h2 : c / 10 < 10 ^ n := by
        rw [Int.pow_succ] at h1
        exact Int.ediv_lt_of_lt_mul (by omega) h1
      obtain ⟨t, ht⟩ := ih (c / 10) (strOfNums [(wrap64 (48 + (Int.tmod c 10))) % 256] ++ out) (by omega) h2 (by omega) (by
        rw [ByteArray.size_append, strOfNums_size]; simp; omega)
      refine ⟨t, Ev.step (fun k => by rw [laws_markText.l0]) ?_⟩
      refine Ev.pos hc (Ev.here rfl (Ev.pos (by rw [strOfNums_size]; simp; omega) ?_))
      rw [Int.tdiv_eq_ediv_of_nonneg h0, wrap64_id (x := c / 10) (by omega) (by omega)]
      exact ht
    · obtain rfl : c = 0 := by omega
      exact ⟨_, Ev.step (fun k => by rw [laws_markText.l0]) (by exact Ev.neg (by omega) (Ev.pos (by omega) (Ev.now _)))⟩
theorem markText_ev (c : Int) (h : c ≤ 9223372036854775807) : ∃ t, Ev (fun k => laws_markText.f k c) t := by
  unfold laws_markText.f
  by_cases hc : c ≤ 0
  · exact ⟨_, Ev.pos hc (Ev.now _)⟩
  · obtain ⟨t, ht⟩ := markText_l0_ev 19 c (⟨#[]⟩ : ByteArray) (by omega) (by omega) h (by decide)
    exact ⟨t, Ev.neg hc ht⟩
noncomputable def mtxt (c : Int) : ByteArray := if h : c ≤ 9223372036854775807 then (markText_ev c h).choose else ByteArray.empty
theorem mtxt_ev {c : Int} (h : c ≤ 9223372036854775807) : Ev (fun k => laws_markText.f k c) (mtxt c) := by
  unfold mtxt
  rw [dif_pos h]
  exact (markText_ev c h).choose_spec
theorem markValS_ev (l : List S31) (c : Int) (hc : 0 ≤ c) (hl : c + 2 * l.length ≤ 9223372036854775806) : ∃ m ys, m = c + 2 * l.length ∧ Ev (fun k => laws_markValS.f k l c) (m, ys) ∧ Ev (fun k => laws_heldValS.f k ys c) m := by
  obtain ⟨m, ys, _, hm, h1, h2⟩ := marks_held 2 9223372036854775807 (by omega) (fun c (_ : S31) => (⟨c, mtxt (c + 1)⟩ : S31)) (fun k xs c i => laws_markValS.l0 k xs c i) (fun k xs c i => laws_heldValS.l0 k xs c i)
    (fun xs c i r h hb h0 hB hr => by
      refine Ev.step (fun k => by rw [laws_markValS.l0]) ?_
      refine Ev.pos (by omega) (Ev.pos (by omega) ?_)
      rw [wrap64_id (x := c + 1) (by omega) (by omega), wrap64_id (x := c + 1 + 1) (by omega) (by omega), wrap64_id (x := (i : Int) + 1) (by omega) (by omega)]
      refine Ev.here rfl ?_
      refine Ev.bind (mtxt_ev (by omega)) ?_
      have e : c + 1 + 1 = c + 2 := by omega
      simpa [rd_T31, h, e] using hr)
    (fun xs c => Ev.step (fun k => by rw [laws_markValS.l0]) (by exact Ev.neg (by omega) (Ev.now _)))
    (fun xs c i r z h hb h0 hB hz hr => by
      have e : rd_T31 xs (i : Int) = xs[i] := getD_eq (by simpa using h)
      refine Ev.step (fun k => by rw [laws_heldValS.l0]) ?_
      refine Ev.pos (by omega) (Ev.pos (by omega) ?_)
      rw [wrap64_id (x := c + 1) (by omega) (by omega), wrap64_id (x := c + 1 + 1) (by omega) (by omega), wrap64_id (x := (i : Int) + 1) (by omega) (by omega)]
      refine Ev.pos (by rw [e, hz]) ?_
      refine Ev.bind (mtxt_ev (by omega)) (Ev.pos (by rw [e, hz]) ?_)
      have e : c + 1 + 1 = c + 2 := by omega
      simpa [e] using hr)
    (fun xs c => Ev.step (fun k => by rw [laws_heldValS.l0]) (by exact Ev.neg (by omega) (Ev.now _)))
    l c hc (by omega)
  exact ⟨m, ys, by omega, h1, h2⟩
def tOk (t : Int) : Bool := decide (t = 0 ∨ t = 1 ∨ t = 2 ∨ t = 5 ∨ t = 6)
theorem l5Type_some (t : Int) : spec_l5Type.f t = some (tOk t) := by
  unfold spec_l5Type.f
  (repeat' split) <;> simp_all [tOk]
theorem l1In_same (x lo hi : Int) : (if x ≥ lo then some (decide (x ≤ hi)) else some false) = some (decide (lo ≤ x ∧ x ≤ hi)) := by
  by_cases h : x ≥ lo
  · rw [if_pos h]; congr 1; simp; omega
  · rw [if_neg h]; congr 1; symm; simp; omega
theorem within_some (x lo hi : Int) : impl_within.f x lo hi = some (decide (lo ≤ x ∧ x ≤ hi)) := by unfold impl_within.f; exact l1In_same x lo hi
theorem typeOk_some (t : Int) : impl_TypeOk.f t = some (tOk t) := by
  unfold impl_TypeOk.f
  rw [within_some]
  simp only [Option.bind_some]
  by_cases h : 0 ≤ t ∧ t ≤ 2
  · rw [if_pos (by simpa using h)]
    have : t = 0 ∨ t = 1 ∨ t = 2 := by omega
    rcases this with rfl | rfl | rfl <;> rfl
  · rw [if_neg (by simpa using h)]
    by_cases h5 : t = 5
    · subst h5; rfl
    · rw [if_neg h5]
      by_cases h6 : t = 6
      · subst h6; rfl
      · have h0 : t ≠ 0 := by omega
        have h1 : t ≠ 1 := by omega
        have h2 : t ≠ 2 := by omega
        simp [tOk, h0, h1, h2, h5, h6]
def noText (s : ByteArray) : Bool := s.toList == ([] : List UInt8)
def vOk (t : Int) (v : S31) : Bool :=
  if t = 0 then decide (0 ≤ v.f0 ∧ v.f0 ≤ 1) && noText v.f1
  else if t = 1 then decide (-2147483648 ≤ v.f0 ∧ v.f0 ≤ 2147483647) && noText v.f1
  else if t = 2 ∨ t = 5 then noText v.f1
  else if t = 6 then decide (v.f0 = 0) && decide ((v.f1.size : Int) ≤ 40) else false
theorem l1In_some (x lo hi : Int) : spec_l1In.f x lo hi = some (decide (lo ≤ x ∧ x ≤ hi)) := by unfold spec_l1In.f; exact l1In_same x lo hi
theorem impl_ValOk_some (t : Int) (v : S31) : impl_ValOk.f t v.f0 v.f1 = some (vOk t v) := by
  unfold impl_ValOk.f impl_isInt32.f vOk noText
  simp only [within_some, Option.bind_some]
  by_cases h0 : t = 0
  · rw [if_pos h0, if_pos h0]; by_cases h : 0 ≤ v.f0 ∧ v.f0 ≤ 1 <;> simp [h]
  rw [if_neg h0, if_neg h0]
  by_cases h1 : t = 1
  · rw [if_pos h1, if_pos h1]; by_cases h : -2147483648 ≤ v.f0 ∧ v.f0 ≤ 2147483647 <;> simp [h]
  rw [if_neg h1, if_neg h1]
  by_cases h2 : t = 2
  · rw [if_pos h2, if_pos (show t = 2 ∨ t = 5 from .inl h2)]
  rw [if_neg h2]
  by_cases h5 : t = 5
  · rw [if_pos h5, if_pos (show t = 2 ∨ t = 5 from .inr h5)]
  rw [if_neg h5, if_neg (show ¬ (t = 2 ∨ t = 5) by omega)]
  by_cases h6 : t = 6
  · rw [if_pos h6, if_pos h6]; by_cases h : v.f0 = 0 <;> simp [h]
  · rw [if_neg h6, if_neg h6]
theorem spec_ValOk_ev (t : Int) (v : S31) : Ev (fun k => spec_ValOk.f k t v.f0 v.f1) (vOk t v) := by
  refine ⟨2, fun k hk => ?_⟩
  obtain ⟨m, rfl⟩ : ∃ m, k = m + 2 := ⟨k - 2, by omega⟩
  unfold spec_ValOk.f spec_l4Int.f vOk noText
  simp only [l1In_some, Option.bind_some, spec_ValOk.j0]
  by_cases h0 : t = 0
  · rw [if_pos h0, if_pos h0]; by_cases h : 0 ≤ v.f0 ∧ v.f0 ≤ 1 <;> simp [h]
  rw [if_neg h0, if_neg h0]
  by_cases h1 : t = 1
  · rw [if_pos h1, if_pos h1]; by_cases h : -2147483648 ≤ v.f0 ∧ v.f0 ≤ 2147483647 <;> simp [h]
  rw [if_neg h1, if_neg h1]
  by_cases h2 : t = 2
  · rw [if_pos (show t = 2 ∨ t = 5 from .inl h2)]; simp [h2]
  rw [if_neg h2]
  by_cases h5 : t = 5
  · rw [if_pos (show t = 2 ∨ t = 5 from .inr h5)]; simp [h5]
  rw [if_neg (show ¬ (t = 2 ∨ t = 5) by omega)]
  by_cases h6 : t = 6
  · rw [if_pos h6]; by_cases h : v.f0 = 0 <;> simp [h, h6]
  · rw [if_neg h6]; simp [h5, h6]
def vsOk (t : Int) (l : List S31) : Bool := decide ((l.length : Int) ≤ 2000) && tOk t && l.all (vOk t)
theorem impl_valsOk_ev (t : Int) (l : List S31) (hl : l.length ≤ 1048576) : Ev (fun k => impl_valsOk.f k t l) (vsOk t l) := by
  unfold impl_valsOk.f
  have key := all_loop (fun k i => impl_valsOk.l0 k t l l (l.length : Int) i) (fun i => vOk t (l.getD i z31)) l.length false (decide ((l.length : Int) ≤ 2000) && tOk t)
    (fun i r hi hp hr => by
      have e : rd_T31 l (i : Int) = l.getD i z31 := rfl
      refine Ev.step (fun k => by rw [impl_valsOk.l0]) ?_
      refine Ev.pos (by omega) (Ev.pos (by omega) (Ev.pos (by omega) (Ev.here (impl_ValOk_some t _) ?_)))
      rw [e, hp]
      refine Ev.pos rfl ?_
      rw [wrap64_id (by omega) (by omega)]
      simpa using hr)
    (fun i hi hp => by
      have e : rd_T31 l (i : Int) = l.getD i z31 := rfl
      refine Ev.step (fun k => by rw [impl_valsOk.l0]) ?_
      refine Ev.pos (by omega) (Ev.pos (by omega) (Ev.pos (by omega) (Ev.here (impl_ValOk_some t _) ?_)))
      rw [e, hp]
      exact Ev.neg (by decide) (Ev.now _))
    (by
      refine Ev.step (fun k => by rw [impl_valsOk.l0]) ?_
      refine Ev.neg (by omega) ?_
      by_cases h : (l.length : Int) ≤ 2000
      · refine Ev.pos h (Ev.here (typeOk_some t) (Ev.const ?_))
        simp [h]
      · refine Ev.neg h (Ev.const ?_)
        simp [h])
  refine Ev.cast key ?_
  rw [all_range]
  unfold vsOk
  cases l.all (vOk t) <;> simp
theorem spec_l6Vals_ev (t : Int) (l : List S31) (hl : l.length ≤ 1048576) : Ev (fun k => spec_l6Vals.f k t l) (vsOk t l) := by
  have bad : vsOk t l = false → Ev (fun k => spec_l6Vals.j0 k t l true) (vsOk t l) := fun h => by
    rw [h]
    exact Ev.step (fun k => by rw [spec_l6Vals.j0]) (by exact Ev.pos rfl (Ev.now _))
  unfold spec_l6Vals.f
  by_cases h : (l.length : Int) > 2000
  · exact Ev.pos h (bad (by simp [vsOk]; omega))
  refine Ev.neg h (Ev.here (l5Type_some t) ?_)
  cases ht : tOk t with
  | false => exact bad (by simp [vsOk, ht])
  | true =>
    refine Ev.step (fun k => by rw [spec_l6Vals.j0]) ?_
    refine Ev.neg (by decide) ?_
    have key := all_loop (fun k i => spec_l6Vals.l0 k t l i) (fun i => vOk t (l.getD i z31)) l.length false true
      (fun i r hi hp hr => by
        have e : rd_T31 l (i : Int) = l.getD i z31 := rfl
        refine Ev.step (fun k => by rw [spec_l6Vals.l0]) ?_
        refine Ev.pos (by omega) (Ev.pos (by omega) (Ev.bind (spec_ValOk_ev t _) ?_))
        rw [e, hp]
        refine Ev.pos rfl ?_
        rw [wrap64_id (by omega) (by omega)]
        simpa using hr)
      (fun i hi hp => by
        have e : rd_T31 l (i : Int) = l.getD i z31 := rfl
        refine Ev.step (fun k => by rw [spec_l6Vals.l0]) ?_
        refine Ev.pos (by omega) (Ev.pos (by omega) (Ev.bind (spec_ValOk_ev t _) ?_))
        rw [e, hp]
        exact Ev.neg (by decide) (Ev.now _))
      (by exact Ev.step (fun k => by rw [spec_l6Vals.l0]) (by exact Ev.neg (by omega) (Ev.now _)))
    refine Ev.cast key ?_
    rw [all_range]
    have h2 : (l.length : Int) ≤ 2000 := by omega
    cases ha : l.all (vOk t) <;> simp [vsOk, ht, ha, h2]
theorem ba_inj {a b : ByteArray} (h : a.toList = b.toList) : a = b := by
  rw [ByteArray.toList_eq, ByteArray.toList_eq] at h
  cases a; cases b; simpa using h
theorem spec_eq_iff {x y : S31} : ((x.f0 == y.f0 && (x.f1.toList == y.f1.toList)) = true) ↔ x = y := by
  cases x; cases y
  simp only [Bool.and_eq_true, beq_iff_eq]
  constructor
  · rintro ⟨rfl, h⟩; rw [ba_inj h]
  · intro h; injection h with h1 h2; subst h1; subst h2; exact ⟨rfl, rfl⟩
theorem vk_in_nat {n : Nat} (h : n ≤ 1048576) : vk_in (n : Int) = true := by
  simp [vk_in, Lit.wf, IntKind.min, IntKind.max, IntKind.signed, IntKind.bits]; omega
def dGet (l : List (S31)) (i : Nat) : S31 := l.getD i z31
abbrev DSt := List (S31) × List Int × List (S31 × Int)
def dStep (l : List (S31)) (i : Nat) (s : DSt) : DSt :=
  if vk_mem (dGet l i) s.2.2 = true then (s.1, s.2.1 ++ [vk_at (dGet l i) s.2.2], s.2.2) else (s.1 ++ [dGet l i], s.2.1 ++ [(s.1.length : Int)], (dGet l i, (s.1.length : Int)) :: s.2.2)
def dRes (l : List (S31)) : DSt := (List.range l.length).foldl (fun s i => dStep l i s) ([], [], [])
/-- The map tells of each value of the dictionary where it stands; no value stands twice. -/
structure DInv (l : List (S31)) (i : Nat) (s : DSt) : Prop where
  le : s.1.length ≤ i
  len : s.2.1.length = i
  mlen : s.2.2.length = s.1.length
  sub : ∀ x ∈ s.1, x ∈ l
  mem : ∀ x, vk_mem x s.2.2 = true ↔ x ∈ s.1
  at_ : ∀ x, x ∈ s.1 → ∃ j : Nat, j < s.1.length ∧ vk_at x s.2.2 = j ∧ dGet s.1 j = x
  one : ∀ j k : Nat, j < s.1.length → k < s.1.length → dGet s.1 j = dGet s.1 k → j = k
theorem dGet_app {l : List (S31)} {x : S31} {j : Nat} : dGet (l ++ [x]) j = if j < l.length then dGet l j else if j = l.length then x else z31 := by
  unfold dGet
  split
  · rename_i h; rw [getD_eq (by simp; omega), getD_eq h, List.getElem_append_left h]
  · rename_i h
    split
    · rename_i h2; subst h2; simp [List.getD]
    · rename_i h2
      rw [List.getD_eq_getElem?_getD, List.getElem?_eq_none (by simp; omega)]; rfl
theorem dGet_mem {l : List (S31)} {j : Nat} (h : j < l.length) : dGet l j ∈ l := by
  unfold dGet; rw [getD_eq h]; exact List.getElem_mem h
theorem DInv.first (l : List (S31)) : DInv l 0 ([], [], []) :=
  ⟨Nat.le_refl _, rfl, rfl, fun _ h => (List.not_mem_nil h).elim, fun x => (by simp [vk_mem]), fun _ h => (List.not_mem_nil h).elim, fun _ _ h => (Nat.not_lt_zero _ h).elim⟩
theorem DInv.next {l : List (S31)} {i : Nat} {s : DSt} (hi : i < l.length) (h : DInv l i s) : DInv l (i + 1) (dStep l i s) := by
  unfold dStep
  have hx := dGet_mem hi
  obtain ⟨x, hxe⟩ : ∃ x, x = dGet l i := ⟨_, rfl⟩
  rw [← hxe] at hx ⊢
  by_cases hm : vk_mem x s.2.2 = true
  · rw [if_pos hm]
    exact ⟨Nat.le_succ_of_le h.le, by simp [h.len], h.mlen, h.sub, h.mem, h.at_, h.one⟩
  · rw [if_neg hm]
    have hn : x ∉ s.1 := fun hc => hm ((h.mem x).2 hc)
    have hl := h.le
    refine ⟨by simp; exact hl, by simp [h.len], by simp [h.mlen], fun y hy => ?_, fun y => ?_, fun y hy => ?_, fun j k hj hk he => ?_⟩
    · rcases List.mem_append.1 hy with hy | hy
      · exact h.sub y hy
      · rw [List.mem_singleton.1 hy]; exact hx
    · have e : vk_mem y ((x, (s.1.length : Int)) :: s.2.2) = (vk_eq y x || vk_mem y s.2.2) := by simp [vk_mem]
      rw [e, Bool.or_eq_true, vk_eq_iff, h.mem, List.mem_append, List.mem_singleton]
      exact Or.comm
    · by_cases hyx : y = x
      · subst hyx
        refine ⟨s.1.length, by simp, by simp [vk_at, vk_eq_iff.2 rfl], ?_⟩
        rw [dGet_app, if_neg (by omega), if_pos rfl]
      · have hy2 : y ∈ s.1 := by
          rcases List.mem_append.1 hy with hy | hy
          · exact hy
          · exact absurd (List.mem_singleton.1 hy) hyx
        obtain ⟨j, h1, h2, h3⟩ := h.at_ y hy2
        refine ⟨j, by simp; omega, ?_, ?_⟩
        · have : ¬ vk_eq y x = true := fun hc => hyx (vk_eq_iff.1 hc)
          simp only [vk_at, if_neg this]; exact h2
        · rw [dGet_app, if_pos h1]; exact h3
    · simp only [List.length_append, List.length_cons, List.length_nil] at hj hk
      rw [dGet_app, dGet_app] at he
      by_cases hj1 : j < s.1.length
      · rw [if_pos hj1] at he
        by_cases hk1 : k < s.1.length
        · rw [if_pos hk1] at he; exact h.one j k hj1 hk1 he
        · rw [if_neg hk1, if_pos (by omega)] at he
          exact absurd (he ▸ dGet_mem hj1) hn
      · rw [if_neg hj1, if_pos (by omega)] at he
        by_cases hk1 : k < s.1.length
        · rw [if_pos hk1] at he
          exact absurd (he ▸ dGet_mem hk1) hn
        · omega
theorem dRes_inv (l : List (S31)) : DInv l l.length (dRes l) := by
  have key : ∀ i, i ≤ l.length → DInv l i ((List.range i).foldl (fun s i => dStep l i s) ([], [], [])) := by
    intro i
    induction i with
    | zero => intro _; exact DInv.first l
    | succ i ih => intro h; rw [List.range_succ, List.foldl_append]; exact DInv.next (by omega) (ih (by omega))
  exact key _ (Nat.le_refl _)
theorem impl_DictOf_l0 (l : List (S31)) (hl : l.length ≤ 2000) (hw : ∀ x ∈ l, vk_ok x = true) : Ev (fun k => impl_DictOf.l0 k [] [] [] l (l.length : Int) 0) ((dRes l).1, (dRes l).2.1, true) := by
  refine loop_inv (fun k (s : DSt) i => impl_DictOf.l0 k s.1 s.2.1 s.2.2 l (l.length : Int) i) (dStep l) l.length ((dRes l).1, (dRes l).2.1, true) (DInv l) ([], [], []) (DInv.first l) (fun i s hi h => DInv.next hi h) (fun i s hi hI h => ?_) (fun s hI hs => ?_)
  · have e : rd_T31 l (i : Int) = dGet l i := rfl
    have hle := hI.le; have hlen := hI.len; have hml := hI.mlen
    refine Ev.step (fun k => by rw [impl_DictOf.l0]) ?_
    refine Ev.pos (by omega) (Ev.pos (by omega) (Ev.pos (by omega) ?_))
    rw [e, show (⟨(dGet l i).f0, (dGet l i).f1⟩ : S31) = dGet l i from rfl, wrap64_id (x := (i : Int) + 1) (by omega) (by omega)]
    refine Ev.pos (hw _ (dGet_mem hi)) ?_
    unfold dStep at h
    by_cases hm : vk_mem (dGet l i) s.2.2 = true
    · rw [if_pos hm] at h
      exact Ev.pos hm (Ev.pos (by omega) h)
    · rw [if_neg hm] at h
      exact Ev.neg hm (Ev.pos (vk_in_nat (by omega)) (Ev.pos (by omega) (Ev.pos (by omega) (Ev.pos (by omega) h))))
  · refine Ev.step (fun k => by rw [impl_DictOf.l0]) ?_
    refine Ev.neg (by omega) (Ev.const ?_)
    rw [hs]; rfl
theorem spec_scan (l d : List (S31)) (ps : List Int) (i : Nat) (hi : i < l.length) (hl : l.length ≤ 2000) (hd : d.length ≤ 2000) {γ : List (S31) × List Int × Bool} (fin : Int)
    (one : ∀ j k : Nat, j < d.length → k < d.length → dGet d j = dGet d k → j = k) (hin : ∀ j : Nat, j < d.length → dGet d j = dGet l i → fin = j) (hout : (∀ j : Nat, j < d.length → dGet d j ≠ dGet l i) → fin = -1)
    (h : Ev (fun k => spec_DictOf.l1 k l d ps (i : Int) fin (d.length : Int)) γ) : Ev (fun k => spec_DictOf.l1 k l d ps (i : Int) (-1) 0) γ := by
  refine loop_inv (fun k (s : Int) j => spec_DictOf.l1 k l d ps (i : Int) s j) (fun j s => if vk_eq (dGet d j) (dGet l i) = true then (j : Int) else s) d.length γ (fun n s => (∀ j : Nat, j < n → dGet d j = dGet l i → s = j) ∧ ((∀ j : Nat, j < n → dGet d j ≠ dGet l i) → s = -1)) (-1) ⟨fun _ h => by omega, fun _ => rfl⟩ (fun j s hj hI => ?_) (fun j s hj hI h => ?_) (fun s hI _ => ?_)
  · by_cases hq : dGet d j = dGet l i
    · rw [if_pos (vk_eq_iff.2 hq)]
      exact ⟨fun j' hj' he => by rw [one j' j (by omega) hj (he.trans hq.symm)], fun hc => absurd hq (hc j (by omega))⟩
    · rw [if_neg (fun hc => hq (vk_eq_iff.1 hc))]
      refine ⟨fun j' hj' he => ?_, fun hc => hI.2 (fun j' hj' => hc j' (by omega))⟩
      by_cases hjj : j' = j
      · subst hjj; exact absurd he hq
      · exact hI.1 j' (by omega) he
  · have e1 : rd_T31 d (j : Int) = dGet d j := rfl
    have e2 : rd_T31 l (i : Int) = dGet l i := rfl
    refine Ev.step (fun k => by rw [spec_DictOf.l1]) ?_
    refine Ev.pos (by omega) (Ev.pos (by omega) (Ev.pos (by omega) (Ev.pos (by omega) ?_)))
    rw [e1, e2, wrap64_id (x := (j : Int) + 1) (by omega) (by omega)]
    by_cases hq : dGet d j = dGet l i
    · rw [if_pos (vk_eq_iff.2 hq)] at h
      exact Ev.pos (spec_eq_iff.2 hq) h
    · rw [if_neg (fun hc => hq (vk_eq_iff.1 hc))] at h
      exact Ev.neg (fun hc => hq (spec_eq_iff.1 hc)) h
  · have : s = fin := by
      by_cases hex : ∃ j : Nat, j < d.length ∧ dGet d j = dGet l i
      · obtain ⟨j, h1, h2⟩ := hex
        rw [hI.1 j h1 h2, hin j h1 h2]
      · have hno : ∀ j : Nat, j < d.length → dGet d j ≠ dGet l i := fun j h1 h2 => hex ⟨j, h1, h2⟩
        rw [hI.2 hno, hout hno]
    rw [this]; exact h
theorem spec_DictOf_l0 (l : List (S31)) (hl : l.length ≤ 2000) : Ev (fun k => spec_DictOf.l0 k l [] [] 0) ((dRes l).1, (dRes l).2.1, true) := by
  refine loop_inv (fun k (s : DSt) i => spec_DictOf.l0 k l s.1 s.2.1 i) (dStep l) l.length ((dRes l).1, (dRes l).2.1, true) (DInv l) ([], [], []) (DInv.first l) (fun i s hi h => DInv.next hi h) (fun i s hi hI h => ?_) (fun s hI hs => ?_)
  · have e : rd_T31 l (i : Int) = dGet l i := rfl
    have hle := hI.le; have hlen := hI.len
    refine Ev.step (fun k => by rw [spec_DictOf.l0]) ?_
    refine Ev.pos (by omega) ?_
    unfold dStep at h
    by_cases hm : vk_mem (dGet l i) s.2.2 = true
    · rw [if_pos hm] at h
      obtain ⟨j, h1, h2, h3⟩ := hI.at_ _ ((hI.mem _).1 hm)
      refine spec_scan l s.1 s.2.1 i hi hl (by omega) (vk_at (dGet l i) s.2.2) hI.one (fun j' hj' he => ?_) (fun hc => absurd h3 (hc j h1)) ?_
      · rw [h2, hI.one j' j hj' h1 (he.trans h3.symm)]
      · refine Ev.step (fun k => by rw [spec_DictOf.l1]) ?_
        refine Ev.neg (by omega) (Ev.neg (by omega) (Ev.pos (by omega) ?_))
        rw [wrap64_id (x := (i : Int) + 1) (by omega) (by omega)]
        exact h
    · rw [if_neg hm] at h
      have hno : ∀ j : Nat, j < s.1.length → dGet s.1 j ≠ dGet l i := fun j hj he => hm ((hI.mem _).2 (he ▸ dGet_mem hj))
      refine spec_scan l s.1 s.2.1 i hi hl (by omega) (-1) hI.one (fun j' hj' he => absurd he (hno j' hj')) (fun _ => rfl) ?_
      refine Ev.step (fun k => by rw [spec_DictOf.l1]) ?_
      refine Ev.neg (by omega) (Ev.pos (by decide) (Ev.pos (by omega) (Ev.pos (by omega) (Ev.pos (by omega) (Ev.pos (by omega) ?_)))))
      rw [e, show (⟨(dGet l i).f0, (dGet l i).f1⟩ : S31) = dGet l i from rfl, wrap64_id (x := (i : Int) + 1) (by omega) (by omega)]
      exact h
  · refine Ev.step (fun k => by rw [spec_DictOf.l0]) ?_
    refine Ev.neg (by omega) (Ev.const ?_)
    rw [hs]; rfl
/-- What both say of a list. -/
def dOf (t : Int) (l : List (S31)) : List (S31) × List Int × Bool := if vsOk t l = true then ((dRes l).1, (dRes l).2.1, true) else ([], [], false)
theorem vsOk_len {t : Int} {l : List (S31)} (h : vsOk t l = true) : l.length ≤ 2000 := by
  simp only [vsOk, Bool.and_eq_true, decide_eq_true_eq] at h; omega
theorem impl_DictOf_ev (t : Int) (l : List (S31)) (hl : l.length ≤ 1048576) (hw : ∀ x ∈ l, vk_ok x = true) : Ev (fun k => impl_DictOf.f k t l) (dOf t l) := by
  unfold impl_DictOf.f dOf
  refine Ev.bind (impl_valsOk_ev t l hl) ?_
  by_cases h : vsOk t l = true
  · rw [if_pos h]; exact Ev.pos h (impl_DictOf_l0 l (vsOk_len h) hw)
  · rw [if_neg h]; exact Ev.neg h (Ev.now _)
theorem spec_DictOf_ev (t : Int) (l : List (S31)) (hl : l.length ≤ 1048576) : Ev (fun k => spec_DictOf.f k t l) (dOf t l) := by
  unfold spec_DictOf.f dOf
  refine Ev.here rfl (Ev.here rfl (Ev.bind (spec_l6Vals_ev t l hl) ?_))
  by_cases h : vsOk t l = true
  · rw [if_pos h]; exact Ev.pos h (spec_DictOf_l0 l (vsOk_len h))
  · rw [if_neg h]; exact Ev.neg h (Ev.now _)
theorem dOf_len (t : Int) (l : List (S31)) : (dOf t l).1.length ≤ 2000 ∧ (dOf t l).2.1.length ≤ 2000 := by
  unfold dOf
  by_cases h : vsOk t l = true
  · rw [if_pos h]
    have hI := dRes_inv l
    have h1 := hI.le; have h2 := hI.len; have h3 := vsOk_len h
    exact ⟨by show (dRes l).1.length ≤ 2000; omega, by show (dRes l).2.1.length ≤ 2000; omega⟩
  · rw [if_neg h]; simp
theorem FnExactDictOf : ∀ (x0 : Int) (x1 : List (S60)), ((Lit.int .i64 x0).wf = true) → (x1.length ≤ maxLen ∧ ∀ y ∈ x1, w60 y) → ∃ k, laws_FnExactDictOf.f k x0 x1 = some true := by
  intro t x ht hx
  refine Ev.rounds ?_
  unfold laws_FnExactDictOf.f
  obtain ⟨r1, s1, c1, l1⟩ := szValS_ev x hx.1 hx.2 1048576 (by omega) (by omega)
  refine Ev.bind s1 ?_
  by_cases n1 : r1 < 0
  · exact Ev.pos n1 (Ev.now _)
  refine Ev.neg n1 ?_
  have t1 := toValS_ev x (by omega)
  have hlx : (x.map cvVal).length ≤ 1048576 := by simp; omega
  have hw : ∀ y ∈ x.map cvVal, vk_ok y = true := by
    intro y hy
    obtain ⟨a, ha, rfl⟩ := List.mem_map.1 hy
    have := hx.2 a ha
    have h2 : (cvVal a).f1.size ≤ maxLen := this.2
    simp only [vk_ok, Bool.and_eq_true]
    exact ⟨this.1, decide_eq_true h2⟩
  have ei := impl_DictOf_ev t (x.map cvVal) hlx hw
  have es := spec_DictOf_ev t (x.map cvVal) hlx
  obtain ⟨hl1, hl2⟩ := dOf_len t (x.map cvVal)
  obtain ⟨r, hr⟩ : ∃ r, r = dOf t (x.map cvVal) := ⟨_, rfl⟩
  rw [← hr] at ei es hl1 hl2
  clear hr
  have q0 := eqValS_ev (x.map cvVal) (by omega)
  have q1 := eqValS_ev r.1 (by omega)
  have q2 := eqIntS_ev r.2.1 (by omega)
  obtain ⟨m1, y1, p1, k1, _⟩ := markValS_ev (x.map cvVal) 1 (by omega) (by omega)
  obtain ⟨m2, y2, p2, k2, g2⟩ := markValS_ev r.1 1 (by omega) (by omega)
  obtain ⟨m3, y3, p3, k3, g3⟩ := markIntS_ev r.2.1 m2 (by omega) (by omega)
  repeat' (first
    | with_reducible exact Ev.now _
    | with_reducible refine Ev.bind t1 ?_ | with_reducible refine Ev.bind es ?_ | with_reducible refine Ev.bind ei ?_
    | with_reducible refine Ev.bind q0 ?_ | with_reducible refine Ev.bind q1 ?_ | with_reducible refine Ev.bind q2 ?_
    | with_reducible refine Ev.bind k1 ?_ | with_reducible refine Ev.bind k2 ?_ | with_reducible refine Ev.bind k3 ?_ | with_reducible refine Ev.bind g2 ?_ | with_reducible refine Ev.bind g3 ?_
    | refine Ev.pos (by first | rfl | omega) ?_
    | refine Ev.neg (by first | omega | decide | simp) ?_
    | refine Ev.step (fun k => by rw [laws_FnExactDictOf.j0]) ?_
    | refine Ev.step (fun k => by rw [laws_FnExactDictOf.j1]) ?_
    | refine Ev.step (fun k => by rw [laws_FnExactDictOf.j2]) ?_)
end Go.Proofs.Ytgbhjjhnkiagfaa.Pure
