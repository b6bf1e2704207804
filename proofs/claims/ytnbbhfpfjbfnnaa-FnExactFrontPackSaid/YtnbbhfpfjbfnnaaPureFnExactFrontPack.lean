/- The pure statement of FnExactFrontPack: the printed functions answer as the law says, for all arguments. No condition. -/
import Derived.Test.YtnbbhfpfjbfnnaaVFnExactFrontPack
import Derived.Test.YtnbbhfpfjbfnnaaPFnExactFrontPackx
import Derived.Test.YtnbbhfpfjbfnnaaArgFnExactFrontPack
namespace Go.Proofs.Ytnbbhfpfjbfnnaa.Pure
open Go.RowKit Go.Proofs.Ytnbbhfpfjbfnnaa.PFnExactFrontPack Go.Proofs.Ytnbbhfpfjbfnnaa.Core Go.Proofs.YtnbbhfpfjbfnnaaW.PrintWords Go.Proofs.YtnbbhfpfjbfnnaaW.PrintLast Go.Proofs.YtnbbhfpfjbfnnaaW.PrintMore Go.Proofs.YtnbbhfpfjbfnnaaW.PrintMore2 Go.Proofs.Ytnbbhfpfjbfnnaa.AFnExactFrontPack
set_option linter.unusedVariables false
set_option linter.unusedSimpArgs false
def cvVal (x : S50) : S55 := ⟨x.f0, x.f1⟩
theorem toValS_ev (l : List S50) (hl : l.length ≤ 1048576) : Ev (fun k => laws_toValS.f k l) (l.map cvVal) := by
  unfold laws_toValS.f
  refine Ev.pos (by omega) (Ev.pos (by omega) ?_)
  refine copy_loop (fun k out i => laws_toValS.l0 k l out i) l cvVal (fun out i r h ho hr => ?_) (fun out ho => ?_) (List.replicate ((l.length : Int)).toNat z55) (by simp)
  · refine Ev.step (fun k => by rw [laws_toValS.l0]) ?_
    refine Ev.pos (by omega) (Ev.pos (by omega) (Ev.here rfl (Ev.pos (by omega) ?_)))
    rw [wrap64_id (by omega) (by omega)]
    have e : rd_T50 l (i : Int) = l[i] := getD_eq (by simpa using h)
    simp only [e]
    simpa [cvVal] using hr
  · exact Ev.step (fun k => by rw [laws_toValS.l0]) (by exact Ev.neg (by omega) (Ev.now _))
theorem szVal_some (x : S50) (hw : w50 x) (c : Int) (h0 : 0 ≤ c) (h1 : c ≤ 1048576) : ∃ r, laws_szVal.f x.f0 x.f1 c = some r ∧ r ≤ c := by
  have b0 : (x.f1.size : Int) ≤ 9223372036854775807 := by have := hw.2; unfold maxLen at this; omega
  unfold laws_szVal.f
  rw [wrap64_id (x := c - (x.f1.size : Int)) (by omega) (by omega)]
  by_cases n0 : c - (x.f1.size : Int) < 0
  · exact ⟨-1, by simp [n0], by omega⟩
  simp only [if_neg n0, Option.bind_some]
  exact ⟨_, rfl, by omega⟩
theorem szValS_ev (l : List S50) (hw : l.length ≤ maxLen) (ht : ∀ x ∈ l, w50 x) (c : Int) (h0 : 0 ≤ c) (h1 : c ≤ 1048576) : ∃ r, Ev (fun k => laws_szValS.f k l c) r ∧ r ≤ c ∧ (0 ≤ r → r + l.length ≤ c) := by
  have hm : l.length ≤ 9223372036854775807 := by unfold maxLen at hw; omega
  unfold laws_szValS.f
  rw [wrap64_id (by omega) (by omega)]
  by_cases hn : c - (l.length : Int) < 0
  · exact ⟨-1, Ev.pos hn (Ev.now _), by omega, by omega⟩
  · obtain ⟨r, hr, hrc⟩ := budget_loop (fun k c i => laws_szValS.l0 k l c i) l.length (fun c i hc0 hc1 hi => by
      have e : rd_T50 l (i : Int) = l[i] := getD_eq (by simpa using hi)
      obtain ⟨c', hc', hle⟩ := szVal_some l[i] (ht l[i] (List.getElem_mem hi)) c hc0 hc1
      refine ⟨c', hle, fun hneg => ?_, fun hpos r hr => ?_⟩
      · exact Ev.step (fun k => by rw [laws_szValS.l0]) (by exact Ev.pos (by omega) (Ev.pos (by omega) (Ev.here (by rw [e]; exact hc') (Ev.pos hneg (Ev.now _)))))
      · refine Ev.step (fun k => by rw [laws_szValS.l0]) ?_
        refine Ev.pos (by omega) (Ev.pos (by omega) (Ev.here (by rw [e]; exact hc') (Ev.neg (by omega) ?_)))
        rw [wrap64_id (by omega) (by omega)]
        simpa using hr)
      (fun c => Ev.step (fun k => by rw [laws_szValS.l0]) (by exact Ev.neg (by omega) (Ev.now _))) (c - l.length) (by omega) (by omega)
    exact ⟨r, Ev.neg hn hr, by omega, by omega⟩
theorem eqVal_ev (a : S55) : laws_eqVal.f a.f0 a.f1 a.f0 a.f1 = some true := by
  unfold laws_eqVal.f
  simp
theorem eqValS_ev (l : List S55) (hl : l.length ≤ 9223372036854775806) : Ev (fun k => laws_eqValS.f k l l) true := by
  unfold laws_eqValS.f
  refine Ev.pos rfl ?_
  refine same_loop (fun k i => laws_eqValS.l0 k l l i) l.length (fun i r h hr => ?_) ?_
  · refine Ev.step (fun k => by rw [laws_eqValS.l0]) ?_
    refine Ev.pos (by omega) (Ev.pos (by omega) (Ev.pos (by omega) (Ev.here (eqVal_ev _) (Ev.pos rfl ?_))))
    rw [wrap64_id (by omega) (by omega)]
    simpa using hr
  · exact Ev.step (fun k => by rw [laws_eqValS.l0]) (by exact Ev.neg (by omega) (Ev.now _))
theorem eqByteS_ev (l : List Int) (hl : l.length ≤ 9223372036854775806) : Ev (fun k => laws_eqByteS.f k l l) true := by
  unfold laws_eqByteS.f
  refine Ev.pos rfl ?_
  refine same_loop (fun k i => laws_eqByteS.l0 k l l i) l.length (fun i r h hr => ?_) ?_
  · refine Ev.step (fun k => by rw [laws_eqByteS.l0]) ?_
    refine Ev.pos (by omega) (Ev.pos (by omega) (Ev.pos (by omega) (Ev.pos rfl ?_)))
    rw [wrap64_id (by omega) (by omega)]
    simpa using hr
  · exact Ev.step (fun k => by rw [laws_eqByteS.l0]) (by exact Ev.neg (by omega) (Ev.now _))
theorem markByteS_ev (l : List Int) (c : Int) (hc : 0 ≤ c) (hl : c + l.length ≤ 9223372036854775806) : ∃ m ys, m = c + l.length ∧ Ev (fun k => laws_markByteS.f k l c) (m, ys) ∧ Ev (fun k => laws_heldByteS.f k ys c) m := by
  obtain ⟨m, ys, _, hm, h1, h2⟩ := marks_held 1 9223372036854775807 (by omega) (fun c (_ : Int) => c % 256) (fun k xs c i => laws_markByteS.l0 k xs c i) (fun k xs c i => laws_heldByteS.l0 k xs c i)
    (fun xs c i r h hb h0 hB hr => by
      refine Ev.step (fun k => by rw [laws_markByteS.l0]) ?_
      refine Ev.pos (by omega) (Ev.pos (by omega) ?_)
      rw [wrap64_id (x := c + 1) (by omega) (by omega), wrap64_id (x := (i : Int) + 1) (by omega) (by omega)]
      simpa using hr)
    (fun xs c => Ev.step (fun k => by rw [laws_markByteS.l0]) (by exact Ev.neg (by omega) (Ev.now _)))
    (fun xs c i r z h hb h0 hB hz hr => by
      refine Ev.step (fun k => by rw [laws_heldByteS.l0]) ?_
      refine Ev.pos (by omega) (Ev.pos (by omega) (Ev.pos (by rw [rd_eq (by simpa using h)]; simpa using hz) ?_))
      rw [wrap64_id (x := c + 1) (by omega) (by omega), wrap64_id (x := (i : Int) + 1) (by omega) (by omega)]
      simpa using hr)
    (fun xs c => Ev.step (fun k => by rw [laws_heldByteS.l0]) (by exact Ev.neg (by omega) (Ev.now _)))
    l c hc (by omega)
  exact ⟨m, ys, by omega, h1, h2⟩
theorem markText_l0_ev : ∀ (n : Nat) (c : Int) (out : ByteArray), 0 ≤ c → c < 10 ^ n → c ≤ 9223372036854775807 → out.size + n + 1 ≤ 1000 → ∃ t, Ev (fun k => laws_markText.l0 k c out) t := by
  intro n
  induction n with
  | zero =>
    intro c out h0 h1 hb hs
    obtain rfl : c = 0 := by simp at h1; omega
    exact ⟨_, Ev.step (fun k => by rw [laws_markText.l0]) (by exact Ev.neg (by omega) (Ev.pos (by omega) (Ev.now _)))⟩
  | succ n ih =>
    intro c out h0 h1 hb hs
    by_cases hc : c > 0
    · have h2 : c / 10 < 10 ^ n := by
        rw [Int.pow_succ] at h1
        exact Int.ediv_lt_of_lt_mul (by omega) h1
      obtain ⟨t, ht⟩ := ih (c / 10) (strOfNums [(wrap64 (48 + (Int.tmod c 10))) % 256] ++ out) (by omega) h2 (by omega) (by
        rw [ByteArray.size_append, strOfNums_size]; simp; omega)
      refine ⟨t, Ev.step (fun k => by rw [laws_markText.l0]) ?_⟩
      refine Ev.pos hc (Ev.here rfl (Ev.pos (by rw [strOfNums_size]; simp; omega) ?_))
      rw [Int.tdiv_eq_ediv_of_nonneg h0, wrap64_id (x := c / 10) (by omega) (by omega)]
      exact ht
    · obtain rfl : c = 0 := by omega
      exact ⟨_, Ev.step (fun k => by rw [laws_markText.l0]) (by exact Ev.neg (by omega) (Ev.pos (by omega) (Ev.now _)))⟩
theorem markText_ev (c : Int) (h : c ≤ 9223372036854775807) : ∃ t, Ev (fun k => laws_markText.f k c) t := by
  unfold laws_markText.f
  by_cases hc : c ≤ 0
  · exact ⟨_, Ev.pos hc (Ev.now _)⟩
  · obtain ⟨t, ht⟩ := markText_l0_ev 19 c (⟨#[]⟩ : ByteArray) (by omega) (by omega) h (by decide)
    exact ⟨t, Ev.neg hc ht⟩
noncomputable def mtxt (c : Int) : ByteArray := if h : c ≤ 9223372036854775807 then (markText_ev c h).choose else ByteArray.empty
theorem mtxt_ev {c : Int} (h : c ≤ 9223372036854775807) : Ev (fun k => laws_markText.f k c) (mtxt c) := by
  unfold mtxt
  rw [dif_pos h]
  exact (markText_ev c h).choose_spec
theorem markValS_evm (l : List S55) (c : Int) (hc : 0 ≤ c) (hl : c + 2 * l.length ≤ 9223372036854775806) : ∃ m ys, m = c + 2 * l.length ∧ Ev (fun k => laws_markValS.f k l c) (m, ys) ∧ True := by
  obtain ⟨m, ys, hm, h1⟩ := marks_set 2 9223372036854775807 (by omega) (fun c (_ : S55) => (⟨c, mtxt (c + 1)⟩ : S55)) (fun k xs c i => laws_markValS.l0 k xs c i)
    (fun xs c i r h hb h0 hB hr => by
      refine Ev.step (fun k => by rw [laws_markValS.l0]) ?_
      refine Ev.pos (by omega) (Ev.pos (by omega) ?_)
      rw [wrap64_id (x := c + 1) (by omega) (by omega), wrap64_id (x := c + 1 + 1) (by omega) (by omega), wrap64_id (x := (i : Int) + 1) (by omega) (by omega)]
      refine Ev.here rfl ?_
      refine Ev.bind (mtxt_ev (by omega)) ?_
      have e : c + 1 + 1 = c + 2 := by omega
      simpa [rd_T55, h, e] using hr)
    (fun xs c => Ev.step (fun k => by rw [laws_markValS.l0]) (by exact Ev.neg (by omega) (Ev.now _)))
    l c hc (by omega)
  exact ⟨m, ys, by omega, h1, trivial⟩
def tOk (t : Int) : Bool := decide (t = 0 ∨ t = 1 ∨ t = 2 ∨ t = 5 ∨ t = 6)
theorem l5Type_some (t : Int) : spec_l5Type.f t = some (tOk t) := by
  unfold spec_l5Type.f
  (repeat' split) <;> simp_all [tOk]
theorem l1In_same (x lo hi : Int) : (if x ≥ lo then some (decide (x ≤ hi)) else some false) = some (decide (lo ≤ x ∧ x ≤ hi)) := by
  by_cases h : x ≥ lo
  · rw [if_pos h]; congr 1; simp; omega
  · rw [if_neg h]; congr 1; symm; simp; omega
theorem within_some (x lo hi : Int) : impl_within.f x lo hi = some (decide (lo ≤ x ∧ x ≤ hi)) := by unfold impl_within.f; exact l1In_same x lo hi
theorem typeOk_some (t : Int) : impl_TypeOk.f t = some (tOk t) := by
  unfold impl_TypeOk.f
  rw [within_some]
  simp only [Option.bind_some]
  by_cases h : 0 ≤ t ∧ t ≤ 2
  · rw [if_pos (by simpa using h)]
    have : t = 0 ∨ t = 1 ∨ t = 2 := by omega
    rcases this with rfl | rfl | rfl <;> rfl
  · rw [if_neg (by simpa using h)]
    by_cases h5 : t = 5
    · subst h5; rfl
    · rw [if_neg h5]
      by_cases h6 : t = 6
      · subst h6; rfl
      · have h0 : t ≠ 0 := by omega
        have h1 : t ≠ 1 := by omega
        have h2 : t ≠ 2 := by omega
        simp [tOk, h0, h1, h2, h5, h6]
def noText (s : ByteArray) : Bool := s.toList == ([] : List UInt8)
def vOk (t : Int) (v : S55) : Bool :=
  if t = 0 then decide (0 ≤ v.f0 ∧ v.f0 ≤ 1) && noText v.f1
  else if t = 1 then decide (-2147483648 ≤ v.f0 ∧ v.f0 ≤ 2147483647) && noText v.f1
  else if t = 2 ∨ t = 5 then noText v.f1
  else if t = 6 then decide (v.f0 = 0) && decide ((v.f1.size : Int) ≤ 40) else false
theorem l1In_some (x lo hi : Int) : spec_l1In.f x lo hi = some (decide (lo ≤ x ∧ x ≤ hi)) := by unfold spec_l1In.f; exact l1In_same x lo hi
theorem impl_ValOk_some (t : Int) (v : S55) : impl_ValOk.f t v.f0 v.f1 = some (vOk t v) := by
  unfold impl_ValOk.f impl_isInt32.f vOk noText
  simp only [within_some, Option.bind_some]
  by_cases h0 : t = 0
  · rw [if_pos h0, if_pos h0]; by_cases h : 0 ≤ v.f0 ∧ v.f0 ≤ 1 <;> simp [h]
  rw [if_neg h0, if_neg h0]
  by_cases h1 : t = 1
  · rw [if_pos h1, if_pos h1]; by_cases h : -2147483648 ≤ v.f0 ∧ v.f0 ≤ 2147483647 <;> simp [h]
  rw [if_neg h1, if_neg h1]
  by_cases h2 : t = 2
  · rw [if_pos h2, if_pos (show t = 2 ∨ t = 5 from .inl h2)]
  rw [if_neg h2]
  by_cases h5 : t = 5
  · rw [if_pos h5, if_pos (show t = 2 ∨ t = 5 from .inr h5)]
  rw [if_neg h5, if_neg (show ¬ (t = 2 ∨ t = 5) by omega)]
  by_cases h6 : t = 6
  · rw [if_pos h6, if_pos h6]; by_cases h : v.f0 = 0 <;> simp [h]
  · rw [if_neg h6, if_neg h6]
theorem spec_ValOk_ev (t : Int) (v : S55) : Ev (fun k => spec_ValOk.f k t v.f0 v.f1) (vOk t v) := by
  refine ⟨2, fun k hk => ?_⟩
  obtain ⟨m, rfl⟩ : ∃ m, k = m + 2 := ⟨k - 2, by omega⟩
  unfold spec_ValOk.f spec_l4Int.f vOk noText
  simp only [l1In_some, Option.bind_some, spec_ValOk.j0]
  by_cases h0 : t = 0
  · rw [if_pos h0, if_pos h0]; by_cases h : 0 ≤ v.f0 ∧ v.f0 ≤ 1 <;> simp [h]
  rw [if_neg h0, if_neg h0]
  by_cases h1 : t = 1
  · rw [if_pos h1, if_pos h1]; by_cases h : -2147483648 ≤ v.f0 ∧ v.f0 ≤ 2147483647 <;> simp [h]
  rw [if_neg h1, if_neg h1]
  by_cases h2 : t = 2
  · rw [if_pos (show t = 2 ∨ t = 5 from .inl h2)]; simp [h2]
  rw [if_neg h2]
  by_cases h5 : t = 5
  · rw [if_pos (show t = 2 ∨ t = 5 from .inr h5)]; simp [h5]
  rw [if_neg (show ¬ (t = 2 ∨ t = 5) by omega)]
  by_cases h6 : t = 6
  · rw [if_pos h6]; by_cases h : v.f0 = 0 <;> simp [h, h6]
  · rw [if_neg h6]; simp [h5, h6]
def vsOk (t : Int) (l : List S55) : Bool := decide ((l.length : Int) ≤ 2000) && tOk t && l.all (vOk t)
theorem impl_valsOk_ev (t : Int) (l : List S55) (hl : l.length ≤ 1048576) : Ev (fun k => impl_valsOk.f k t l) (vsOk t l) := by
  unfold impl_valsOk.f
  have key := all_loop (fun k i => impl_valsOk.l0 k t l l (l.length : Int) i) (fun i => vOk t (l.getD i z55)) l.length false (decide ((l.length : Int) ≤ 2000) && tOk t)
    (fun i r hi hp hr => by
      have e : rd_T55 l (i : Int) = l.getD i z55 := rfl
      refine Ev.step (fun k => by rw [impl_valsOk.l0]) ?_
      refine Ev.pos (by omega) (Ev.pos (by omega) (Ev.pos (by omega) (Ev.here (impl_ValOk_some t _) ?_)))
      rw [e, hp]
      refine Ev.pos rfl ?_
      rw [wrap64_id (by omega) (by omega)]
      simpa using hr)
    (fun i hi hp => by
      have e : rd_T55 l (i : Int) = l.getD i z55 := rfl
      refine Ev.step (fun k => by rw [impl_valsOk.l0]) ?_
      refine Ev.pos (by omega) (Ev.pos (by omega) (Ev.pos (by omega) (Ev.here (impl_ValOk_some t _) ?_)))
      rw [e, hp]
      exact Ev.neg (by decide) (Ev.now _))
    (by
      refine Ev.step (fun k => by rw [impl_valsOk.l0]) ?_
      refine Ev.neg (by omega) ?_
      by_cases h : (l.length : Int) ≤ 2000
      · refine Ev.pos h (Ev.here (typeOk_some t) (Ev.const ?_))
        simp [h]
      · refine Ev.neg h (Ev.const ?_)
        simp [h])
  refine Ev.cast key ?_
  rw [all_range]
  unfold vsOk
  cases l.all (vOk t) <;> simp
theorem spec_l6Vals_ev (t : Int) (l : List S55) (hl : l.length ≤ 1048576) : Ev (fun k => spec_l6Vals.f k t l) (vsOk t l) := by
  have bad : vsOk t l = false → Ev (fun k => spec_l6Vals.j0 k t l true) (vsOk t l) := fun h => by
    rw [h]
    exact Ev.step (fun k => by rw [spec_l6Vals.j0]) (by exact Ev.pos rfl (Ev.now _))
  unfold spec_l6Vals.f
  by_cases h : (l.length : Int) > 2000
  · exact Ev.pos h (bad (by simp [vsOk]; omega))
  refine Ev.neg h (Ev.here (l5Type_some t) ?_)
  cases ht : tOk t with
  | false => exact bad (by simp [vsOk, ht])
  | true =>
    refine Ev.step (fun k => by rw [spec_l6Vals.j0]) ?_
    refine Ev.neg (by decide) ?_
    have key := all_loop (fun k i => spec_l6Vals.l0 k t l i) (fun i => vOk t (l.getD i z55)) l.length false true
      (fun i r hi hp hr => by
        have e : rd_T55 l (i : Int) = l.getD i z55 := rfl
        refine Ev.step (fun k => by rw [spec_l6Vals.l0]) ?_
        refine Ev.pos (by omega) (Ev.pos (by omega) (Ev.bind (spec_ValOk_ev t _) ?_))
        rw [e, hp]
        refine Ev.pos rfl ?_
        rw [wrap64_id (by omega) (by omega)]
        simpa using hr)
      (fun i hi hp => by
        have e : rd_T55 l (i : Int) = l.getD i z55 := rfl
        refine Ev.step (fun k => by rw [spec_l6Vals.l0]) ?_
        refine Ev.pos (by omega) (Ev.pos (by omega) (Ev.bind (spec_ValOk_ev t _) ?_))
        rw [e, hp]
        exact Ev.neg (by decide) (Ev.now _))
      (by exact Ev.step (fun k => by rw [spec_l6Vals.l0]) (by exact Ev.neg (by omega) (Ev.now _)))
    refine Ev.cast key ?_
    rw [all_range]
    have h2 : (l.length : Int) ≤ 2000 := by omega
    cases ha : l.all (vOk t) <;> simp [vsOk, ht, ha, h2]
def diffs (l : List Int) : List Int := (List.range (l.length - 1)).map fun (i : Nat) => wrap64 (rd l ((i : Int) + 1) - rd l (i : Int))
theorem diffs_length (l : List Int) : (diffs l).length = l.length - 1 := by simp [diffs]
theorem differences_same : ∀ (k : Nat) (a b : List Int) (i : Int), spec_Differences.l0 k a b i = impl_Differences.l0 k a b i
  | 0, _, _, _ => by rw [spec_Differences.l0, impl_Differences.l0]
  | k + 1, a, b, i => by rw [spec_Differences.l0, impl_Differences.l0]; simp only [differences_same k]
theorem impl_Differences_ev (l : List Int) (hl : l.length ≤ 1048576) : Ev (fun k => impl_Differences.f k l) (diffs l) := by
  unfold impl_Differences.f
  have := append_loop (fun k out i => impl_Differences.l0 k l out (i + 1)) (fun i => wrap64 (rd l ((i : Int) + 1) - rd l (i : Int))) (l.length - 1) (diffs l)
    (fun i s h hs hr => by
      refine Ev.step (fun k => by rw [impl_Differences.l0]) ?_
      refine Ev.pos (by omega) (Ev.pos (by omega) ?_)
      rw [wrap64_id (x := (i : Int) + 1 - 1) (by omega) (by omega)]
      refine Ev.pos (by omega) (Ev.pos (by omega) (Ev.pos (by omega) ?_))
      rw [wrap64_id (x := (i : Int) + 1 + 1) (by omega) (by omega)]
      have e : (i : Int) + 1 - 1 = i := by omega
      rw [e]
      simpa using hr)
    (Ev.step (fun k => by rw [impl_Differences.l0]) (by exact Ev.neg (by omega) (Ev.now _)))
  simpa using this
theorem spec_Differences_ev (l : List Int) (hl : l.length ≤ 1048576) : Ev (fun k => spec_Differences.f k l) (diffs l) :=
  Ev.congr (fun k => by unfold spec_Differences.f impl_Differences.f; exact differences_same k _ _ _) (impl_Differences_ev l hl)
theorem bv_ofInt_wrap (x : Int) : BitVec.ofInt 64 (wrap64 x) = BitVec.ofInt 64 x := by
  apply BitVec.eq_of_toNat_eq
  rw [BitVec.toNat_ofInt, BitVec.toNat_ofInt]
  congr 1
  unfold wrap64; omega
theorem or_wrap (a c : Nat) (ha : a < 2 ^ 64) (hc : c < 2 ^ 64) : Go.bits .or .i64 (wrap64 (a : Int)) (wrap64 (c : Int)) = wrap64 ((a ||| c : Nat) : Int) := by
  have e : Go.bits .or .i64 (wrap64 (a : Int)) (wrap64 (c : Int)) = IntKind.i64.wrap (((BitVec.ofInt 64 (wrap64 (a : Int)) ||| BitVec.ofInt 64 (wrap64 (c : Int))).toNat : Nat) : Int) := rfl
  rw [e, bv_ofInt_wrap, bv_ofInt_wrap, BitVec.ofInt_natCast, BitVec.ofInt_natCast, BitVec.toNat_or, BitVec.toNat_ofNat, BitVec.toNat_ofNat, Nat.mod_eq_of_lt ha, Nat.mod_eq_of_lt hc, IntKind.wrap_i64]
  unfold wrap64; omega
theorem or_digit (m a d : Nat) (ha : a < 2 ^ m) : a ||| d * 2 ^ m = a + d * 2 ^ m := by
  have := Nat.shiftLeft_add_eq_or_of_lt ha d
  rw [Nat.shiftLeft_eq] at this
  rw [Nat.or_comm, ← this, Nat.add_comm]
theorem emod_digit (x p : Int) (hp : 0 < p) : x % (p * 256) = x % p + (x / p) % 256 * p := by
  have h1 := Int.mul_ediv_add_emod x p
  have h2 := Int.mul_ediv_add_emod (x / p) 256
  have a0 := Int.emod_nonneg x (show p ≠ 0 by omega)
  have a1 := Int.emod_lt_of_pos x hp
  have b0 := Int.emod_nonneg (x / p) (show (256 : Int) ≠ 0 by omega)
  have b1 := Int.emod_lt_of_pos (x / p) (show (0 : Int) < 256 by omega)
  have e : x = (x % p + (x / p) % 256 * p) + (p * 256) * (x / p / 256) := by
    have e3 : p * (x / p) = p * (256 * (x / p / 256) + x / p % 256) := by rw [h2]
    rw [Int.mul_add] at e3
    have e4 : p * (256 * (x / p / 256)) = (p * 256) * (x / p / 256) := by rw [Int.mul_assoc]
    have e5 : p * (x / p % 256) = x / p % 256 * p := Int.mul_comm _ _
    omega
  have m0 : 0 ≤ (x / p) % 256 * p := Int.mul_nonneg b0 (by omega)
  have m1 : (x / p) % 256 * p ≤ 255 * p := Int.mul_le_mul_of_nonneg_right (by omega) (by omega)
  generalize hr : x % p + (x / p) % 256 * p = r at *
  conv => lhs; rw [e]
  rw [Int.add_mul_emod_self_left, Int.emod_eq_of_lt (by omega) (by omega)]
theorem bits_and_mask (x m : Int) (k : Nat) (hk : k ≤ 63) (hm : m = 2 ^ k - 1) : Go.bits .and .i64 x m = x % 2 ^ k := by
  have p0 : (0 : Int) < 2 ^ k := Int.pow_pos (by omega)
  have eP : (2 : Int) ^ k = ((2 ^ k : Nat) : Int) := by push_cast; rfl
  have h63 : 2 ^ k ≤ 2 ^ 63 := Nat.pow_le_pow_right (by omega) hk
  have n0 : 0 < 2 ^ k := Nat.pow_pos (by omega)
  have e : Go.bits .and .i64 x m = IntKind.i64.wrap ((((BitVec.ofInt 64 x) &&& (BitVec.ofInt 64 m)).toNat : Nat) : Int) := rfl
  rw [e, BitVec.toNat_and, BitVec.toNat_ofInt, BitVec.toNat_ofInt]
  have em : (m % ((2 ^ 64 : Nat) : Int)).toNat = 2 ^ k - 1 := by
    rw [hm, eP, Int.emod_eq_of_lt (by omega) (by omega)]; omega
  rw [em, Nat.and_two_pow_sub_one_eq_mod]
  have hlt : (x % ((2 ^ 64 : Nat) : Int)).toNat % 2 ^ k < 2 ^ k := Nat.mod_lt _ n0
  rw [wraps_i64 _ (by omega) (by omega), eP, Int.natCast_emod]
  rw [Int.toNat_of_nonneg (Int.emod_nonneg _ (by omega))]
  apply Int.emod_emod_of_dvd
  refine Int.natCast_dvd_natCast.2 (Nat.pow_dvd_pow 2 (by omega))
theorem u64_id {x : Int} (h0 : 0 ≤ x) (h1 : x < 18446744073709551616) : IntKind.u64.wrap x = x := by rw [IntKind.wrap_u64]; omega
theorem bits_and_mask_u (x m : Int) (k : Nat) (hk : k ≤ 63) (hm : m = 2 ^ k - 1) : Go.bits .and .u64 x m = x % 2 ^ k := by
  have p0 : (0 : Int) < 2 ^ k := Int.pow_pos (by omega)
  have eP : (2 : Int) ^ k = ((2 ^ k : Nat) : Int) := by push_cast; rfl
  have h63 : 2 ^ k ≤ 2 ^ 63 := Nat.pow_le_pow_right (by omega) hk
  have n0 : 0 < 2 ^ k := Nat.pow_pos (by omega)
  have e : Go.bits .and .u64 x m = IntKind.u64.wrap ((((BitVec.ofInt 64 x) &&& (BitVec.ofInt 64 m)).toNat : Nat) : Int) := rfl
  rw [e, BitVec.toNat_and, BitVec.toNat_ofInt, BitVec.toNat_ofInt]
  have em : (m % ((2 ^ 64 : Nat) : Int)).toNat = 2 ^ k - 1 := by
    rw [hm, eP, Int.emod_eq_of_lt (by omega) (by omega)]; omega
  rw [em, Nat.and_two_pow_sub_one_eq_mod]
  have hlt : (x % ((2 ^ 64 : Nat) : Int)).toNat % 2 ^ k < 2 ^ k := Nat.mod_lt _ n0
  rw [u64_id (by omega) (by omega), eP, Int.natCast_emod]
  rw [Int.toNat_of_nonneg (Int.emod_nonneg _ (by omega))]
  apply Int.emod_emod_of_dvd
  refine Int.natCast_dvd_natCast.2 (Nat.pow_dvd_pow 2 (by omega))
theorem l2Down7 (x : Int) : spec_l2Down.f x 7 = some (x / 128 % 144115188075855872) := by
  unfold spec_l2Down.f
  rw [if_neg (by decide), if_pos (by decide), wrap64_id (x := 64 - 7) (by omega) (by omega), if_pos (by decide)]
  have e1 : shr .i64 x 7 = x / 128 := rfl
  have e2 : shl .i64 1 (64 - 7) = 144115188075855872 := by
    unfold shl; rw [IntKind.wrap_i64]; rfl
  rw [e1, e2, wrap64_id (by omega) (by omega), bits_and_mask (x / 128) (144115188075855872 - 1) 57 (by omega) rfl]; rfl
theorem l2Down1 (x : Int) : spec_l2Down.f x 1 = some (x / 2 % 9223372036854775808) := by
  unfold spec_l2Down.f
  rw [if_neg (by decide), if_pos (by decide), wrap64_id (x := 64 - 1) (by omega) (by omega), if_pos (by decide)]
  have e1 : shr .i64 x 1 = x / 2 := rfl
  have e2 : shl .i64 1 (64 - 1) = -9223372036854775808 := by
    unfold shl; rw [IntKind.wrap_i64]; rfl
  have e3 : wrap64 (-9223372036854775808 - 1) = 9223372036854775807 := by unfold wrap64; omega
  rw [e1, e2, e3, bits_and_mask (x / 2) 9223372036854775807 63 (by omega) rfl]; rfl
theorem or_u64_128 (x : Int) (h0 : 0 ≤ x) (h1 : x < 128) : Go.bits .or .u64 x 128 = x + 128 := by
  obtain ⟨n, rfl⟩ := Int.eq_ofNat_of_zero_le h0
  have hn : n < 2 ^ 7 := by omega
  have e := (bits_nat .u64 64 (by decide) (fun m h0 h1 => u64_id h0 (by simpa using h1)) n 128 (by omega) (by decide)).2
  have e2 : n ||| 128 = n + 128 := by
    have := or_digit 7 n 1 hn
    simpa using this
  have e3 : Go.bits .or .u64 (n : Int) 128 = ((n ||| 128 : Nat) : Int) := e
  rw [e3, e2]; rfl
/-- The varint of X: both sides print the same bytes. -/
theorem uvarPut_both : ∀ (d : Nat) (x X : Int) (out : List Int), 0 ≤ X → X < 18446744073709551616 → X = x % 18446744073709551616 → X < 128 ^ (d + 1) → out.length + d ≤ 10000 →
    ∃ r : List Int, Ev (fun k => spec_UvarPut.l0 k x (out)) r ∧ Ev (fun k => impl_UvarPut.l0 k X out) r ∧ r.length ≤ out.length + d + 1 ∧ (∀ y ∈ r, y ∈ out ∨ (0 ≤ y ∧ y ≤ 255)) := by
  intro d
  induction d with
  | zero =>
    intro x X out h0 h1 hx hd ho
    have hX : X < 128 := by simpa using hd
    refine ⟨out ++ [X], ?_, ?_, by simp, ?_⟩
    · refine Ev.step (fun k => by rw [spec_UvarPut.l0]) ?_
      refine Ev.here (l2Down7 x) (Ev.pos (by omega) (Ev.pos (by omega) (Ev.const ?_)))
      have : x % 256 = X := by omega
      rw [this]
    · refine Ev.step (fun k => by rw [impl_UvarPut.l0]) ?_
      refine Ev.neg (by omega) (Ev.pos (by omega) (Ev.const ?_))
      have : X % 256 = X := by omega
      rw [this]
    · intro y hy
      rcases List.mem_append.1 hy with h | h
      · exact .inl h
      · obtain rfl := List.mem_singleton.1 h; right; omega
  | succ d ih =>
    intro x X out h0 h1 hx hd ho
    by_cases hX : X < 128
    · refine ⟨out ++ [X], ?_, ?_, by simp, ?_⟩
      · refine Ev.step (fun k => by rw [spec_UvarPut.l0]) ?_
        refine Ev.here (l2Down7 x) (Ev.pos (by omega) (Ev.pos (by omega) (Ev.const ?_)))
        have : x % 256 = X := by omega
        rw [this]
      · refine Ev.step (fun k => by rw [impl_UvarPut.l0]) ?_
        refine Ev.neg (by omega) (Ev.pos (by omega) (Ev.const ?_))
        have : X % 256 = X := by omega
        rw [this]
      · intro y hy
        rcases List.mem_append.1 hy with h | h
        · exact .inl h
        · obtain rfl := List.mem_singleton.1 h; right; omega
    · have hpow : X / 128 < 128 ^ (d + 1) := by
        rw [Int.pow_succ] at hd
        omega
      have hq : x / 128 % 144115188075855872 = X / 128 := by omega
      obtain ⟨r, r1, r2, r3, r4⟩ := ih (x / 128 % 144115188075855872) (X / 128) (out ++ [X % 128 + 128]) (by omega) (by omega) (by rw [hq]; omega) hpow (by simp; omega)
      refine ⟨r, ?_, ?_, by simp at r3; omega, ?_⟩
      · refine Ev.step (fun k => by rw [spec_UvarPut.l0]) ?_
        refine Ev.here (l2Down7 x) (Ev.neg (by omega) (Ev.pos (by omega) (Ev.here (l2Down7 x) ?_)))
        rw [bits_and_mask x 127 7 (by omega) rfl]
        have e : (2 : Int) ^ 7 = 128 := rfl
        rw [e, wrap64_id (by omega) (by omega)]
        have e2 : (x % 128 + 128) % 256 = X % 128 + 128 := by omega
        rw [e2]; exact r1
      · refine Ev.step (fun k => by rw [impl_UvarPut.l0]) ?_
        refine Ev.pos (by omega) (Ev.pos (by omega) ?_)
        rw [bits_and_mask_u X 127 7 (by omega) rfl]
        have e : (2 : Int) ^ 7 = 128 := rfl
        rw [e, or_u64_128 _ (by omega) (by omega)]
        have e2 : (X % 128 + 128) % 256 = X % 128 + 128 := by omega
        rw [e2]; exact r2
      · intro y hy
        rcases r4 y hy with h | h
        · rcases List.mem_append.1 h with h | h
          · exact .inl h
          · obtain rfl := List.mem_singleton.1 h; right; omega
        · exact .inr h
theorem UvarPut_ev (x : Int) : ∃ r : List Int, Ev (fun k => spec_UvarPut.f k x) r ∧ Ev (fun k => impl_UvarPut.f k x) r ∧ r.length ≤ 10 ∧ (∀ y ∈ r, 0 ≤ y ∧ y ≤ 255) := by
  unfold spec_UvarPut.f impl_UvarPut.f
  have e : IntKind.u64.wrap x = x % 18446744073709551616 := by rw [IntKind.wrap_u64]
  rw [e]
  obtain ⟨r, r1, r2, r3, r4⟩ := uvarPut_both 9 x (x % 18446744073709551616) [] (by omega) (by omega) rfl (by
    have : (128 : Int) ^ (9 + 1) = 1180591620717411303424 := by decide
    omega) (by simp)
  exact ⟨r, r1, r2, by simpa using r3, fun y hy => by
    rcases r4 y hy with h | h
    · cases h
    · exact h⟩
theorem Zig_both (x : Int) (h0 : -9223372036854775808 ≤ x) (h1 : x ≤ 9223372036854775807) : ∃ z, spec_Zig.f x = some z ∧ impl_Zig.f x = some z := by
  unfold spec_Zig.f impl_Zig.f
  by_cases h : x < 0
  · rw [if_pos h]
    refine ⟨_, rfl, ?_⟩
    have e : x / 9223372036854775808 = -1 := by omega
    rw [e]
    simp only [Go.bits, BitVec.xor_comm]
  · rw [if_neg h]
    refine ⟨_, rfl, ?_⟩
    have e : x / 9223372036854775808 = 0 := by omega
    rw [e]
    have e2 : Go.bits .xor .i64 (wrap64 (x * 2)) 0 = IntKind.i64.wrap ((((BitVec.ofInt 64 (wrap64 (x * 2))) ^^^ (BitVec.ofInt 64 0)).toNat : Nat) : Int) := rfl
    have e3 : (BitVec.ofInt 64 0) = 0#64 := rfl
    have e4 : Go.bits .xor .i64 (wrap64 (x * 2)) 0 = wrap64 (x * 2) := by
      rw [e2, e3, BitVec.xor_zero, BitVec.toNat_ofInt, IntKind.wrap_i64]
      unfold wrap64; omega
    rw [e4]
theorem ZigPut_ev (x : Int) (h0 : -9223372036854775808 ≤ x) (h1 : x ≤ 9223372036854775807) : ∃ r : List Int, Ev (fun k => spec_ZigPut.f k x) r ∧ Ev (fun k => impl_ZigPut.f k x) r ∧ r.length ≤ 10 ∧ (∀ y ∈ r, 0 ≤ y ∧ y ≤ 255) := by
  obtain ⟨z, z1, z2⟩ := Zig_both x h0 h1
  obtain ⟨r, r1, r2, r3, r4⟩ := UvarPut_ev z
  unfold spec_ZigPut.f impl_ZigPut.f
  exact ⟨r, Ev.here z1 (Ev.bind r1 (Ev.now _)), Ev.here z2 (Ev.bind r2 (Ev.now _)), r3, r4⟩
/-- How many bits a number has, told in at most f rounds. -/
def blF : Nat → Nat → Nat
  | 0, _ => 0
  | f + 1, n => if n = 0 then 0 else blF f (n / 2) + 1
theorem blF_le : ∀ (f n : Nat), blF f n ≤ f
  | 0, _ => Nat.le_refl _
  | f + 1, n => by
    unfold blF
    have := blF_le f (n / 2)
    split <;> omega
theorem blF_more : ∀ (f n : Nat), n < 2 ^ f → ∀ g, blF (f + g) n = blF f n
  | 0, n, h, g => by
    obtain rfl : n = 0 := by simpa using h
    cases g with
    | zero => rfl
    | succ g => rw [Nat.zero_add]; unfold blF; rw [if_pos rfl]
  | f + 1, n, h, g => by
    rw [show f + 1 + g = (f + g) + 1 by omega]
    unfold blF
    rw [blF_more f (n / 2) (by rw [Nat.pow_succ] at h; omega) g]
theorem blF_shift : ∀ (k f n : Nat), 0 < n / 2 ^ k → blF (f + k) n = k + blF f (n / 2 ^ k)
  | 0, f, n, h => by simp
  | k + 1, f, n, h => by
    rw [show f + (k + 1) = (f + k) + 1 by omega]
    have hn : n ≠ 0 := by
      intro e; rw [e] at h; simp at h
    have hd : n / 2 / 2 ^ k = n / 2 ^ (k + 1) := by rw [Nat.div_div_eq_div_mul, Nat.pow_succ, Nat.mul_comm]
    rw [show blF (f + k + 1) n = blF (f + k) (n / 2) + 1 from by rw [blF, if_neg hn], blF_shift k f (n / 2) (by rw [hd]; exact h), hd]
    omega
theorem tab_at (v : Int) (h0 : 0 ≤ v) (h1 : v < 256) : bt (⟨#[0, 1, 2, 2, 3, 3, 3, 3, 4, 4, 4, 4, 4, 4, 4, 4, 5, 5, 5, 5, 5, 5, 5, 5, 5, 5, 5, 5, 5, 5, 5, 5, 6, 6, 6, 6, 6, 6, 6, 6, 6, 6, 6, 6, 6, 6, 6, 6, 6, 6, 6, 6, 6, 6, 6, 6, 6, 6, 6, 6, 6, 6, 6, 6, 7, 7, 7, 7, 7, 7, 7, 7, 7, 7, 7, 7, 7, 7, 7, 7, 7, 7, 7, 7, 7, 7, 7, 7, 7, 7, 7, 7, 7, 7, 7, 7, 7, 7, 7, 7, 7, 7, 7, 7, 7, 7, 7, 7, 7, 7, 7, 7, 7, 7, 7, 7, 7, 7, 7, 7, 7, 7, 7, 7, 7, 7, 7, 7, 8, 8, 8, 8, 8, 8, 8, 8, 8, 8, 8, 8, 8, 8, 8, 8, 8, 8, 8, 8, 8, 8, 8, 8, 8, 8, 8, 8, 8, 8, 8, 8, 8, 8, 8, 8, 8, 8, 8, 8, 8, 8, 8, 8, 8, 8, 8, 8, 8, 8, 8, 8, 8, 8, 8, 8, 8, 8, 8, 8, 8, 8, 8, 8, 8, 8, 8, 8, 8, 8, 8, 8, 8, 8, 8, 8, 8, 8, 8, 8, 8, 8, 8, 8, 8, 8, 8, 8, 8, 8, 8, 8, 8, 8, 8, 8, 8, 8, 8, 8, 8, 8, 8, 8, 8, 8, 8, 8, 8, 8, 8, 8, 8, 8, 8, 8, 8, 8, 8, 8, 8, 8, 8, 8, 8, 8, 8, 8]⟩ : ByteArray) v = (blF 8 v.toNat : Int) := by
  have key : ∀ n : Fin 256, bt (⟨#[0, 1, 2, 2, 3, 3, 3, 3, 4, 4, 4, 4, 4, 4, 4, 4, 5, 5, 5, 5, 5, 5, 5, 5, 5, 5, 5, 5, 5, 5, 5, 5, 6, 6, 6, 6, 6, 6, 6, 6, 6, 6, 6, 6, 6, 6, 6, 6, 6, 6, 6, 6, 6, 6, 6, 6, 6, 6, 6, 6, 6, 6, 6, 6, 7, 7, 7, 7, 7, 7, 7, 7, 7, 7, 7, 7, 7, 7, 7, 7, 7, 7, 7, 7, 7, 7, 7, 7, 7, 7, 7, 7, 7, 7, 7, 7, 7, 7, 7, 7, 7, 7, 7, 7, 7, 7, 7, 7, 7, 7, 7, 7, 7, 7, 7, 7, 7, 7, 7, 7, 7, 7, 7, 7, 7, 7, 7, 7, 8, 8, 8, 8, 8, 8, 8, 8, 8, 8, 8, 8, 8, 8, 8, 8, 8, 8, 8, 8, 8, 8, 8, 8, 8, 8, 8, 8, 8, 8, 8, 8, 8, 8, 8, 8, 8, 8, 8, 8, 8, 8, 8, 8, 8, 8, 8, 8, 8, 8, 8, 8, 8, 8, 8, 8, 8, 8, 8, 8, 8, 8, 8, 8, 8, 8, 8, 8, 8, 8, 8, 8, 8, 8, 8, 8, 8, 8, 8, 8, 8, 8, 8, 8, 8, 8, 8, 8, 8, 8, 8, 8, 8, 8, 8, 8, 8, 8, 8, 8, 8, 8, 8, 8, 8, 8, 8, 8, 8, 8, 8, 8, 8, 8, 8, 8, 8, 8, 8, 8, 8, 8, 8, 8, 8, 8, 8, 8]⟩ : ByteArray) ((n.val : Nat) : Int) = (blF 8 n.val : Int) := by decide +kernel
  have h : bt (⟨#[0, 1, 2, 2, 3, 3, 3, 3, 4, 4, 4, 4, 4, 4, 4, 4, 5, 5, 5, 5, 5, 5, 5, 5, 5, 5, 5, 5, 5, 5, 5, 5, 6, 6, 6, 6, 6, 6, 6, 6, 6, 6, 6, 6, 6, 6, 6, 6, 6, 6, 6, 6, 6, 6, 6, 6, 6, 6, 6, 6, 6, 6, 6, 6, 7, 7, 7, 7, 7, 7, 7, 7, 7, 7, 7, 7, 7, 7, 7, 7, 7, 7, 7, 7, 7, 7, 7, 7, 7, 7, 7, 7, 7, 7, 7, 7, 7, 7, 7, 7, 7, 7, 7, 7, 7, 7, 7, 7, 7, 7, 7, 7, 7, 7, 7, 7, 7, 7, 7, 7, 7, 7, 7, 7, 7, 7, 7, 7, 8, 8, 8, 8, 8, 8, 8, 8, 8, 8, 8, 8, 8, 8, 8, 8, 8, 8, 8, 8, 8, 8, 8, 8, 8, 8, 8, 8, 8, 8, 8, 8, 8, 8, 8, 8, 8, 8, 8, 8, 8, 8, 8, 8, 8, 8, 8, 8, 8, 8, 8, 8, 8, 8, 8, 8, 8, 8, 8, 8, 8, 8, 8, 8, 8, 8, 8, 8, 8, 8, 8, 8, 8, 8, 8, 8, 8, 8, 8, 8, 8, 8, 8, 8, 8, 8, 8, 8, 8, 8, 8, 8, 8, 8, 8, 8, 8, 8, 8, 8, 8, 8, 8, 8, 8, 8, 8, 8, 8, 8, 8, 8, 8, 8, 8, 8, 8, 8, 8, 8, 8, 8, 8, 8, 8, 8, 8, 8]⟩ : ByteArray) ((v.toNat : Nat) : Int) = (blF 8 v.toNat : Int) := key ⟨v.toNat, by omega⟩
  rw [Int.toNat_of_nonneg h0] at h
  exact h
theorem len64_j0 (x p : Int) (h0 : 0 ≤ x) (h1 : x < 4294967296) (hp0 : 0 ≤ p) (hp1 : p ≤ 32) : Ev (fun k => bits_Len64.j0 k x p) (p + blF 32 x.toNat) := by
  refine Ev.step (fun k => by rw [bits_Len64.j0]) ?_
  by_cases h16 : x ≥ 65536
  · have e16 : blF 32 x.toNat = 16 + blF 16 (x.toNat / 2 ^ 16) := blF_shift 16 16 x.toNat (by omega)
    have q16 : x.toNat / 2 ^ 16 = (x / 65536).toNat := by omega
    refine Ev.pos h16 ?_
    by_cases h8 : x / 65536 ≥ 256
    · have e8 : blF 16 (x / 65536).toNat = 8 + blF 8 ((x / 65536).toNat / 2 ^ 8) := blF_shift 8 8 _ (by omega)
      have q8 : (x / 65536).toNat / 2 ^ 8 = (x / 65536 / 256 % 256).toNat := by omega
      refine Ev.pos h8 (Ev.pos (by omega) (Ev.pos (by omega) (Ev.const ?_)))
      rw [tab_at _ (by omega) (by omega), e16, q16, e8, q8]
      have := blF_le 8 (x / 65536 / 256 % 256).toNat
      rw [wrap64_id (x := p + 16) (by omega) (by omega), wrap64_id (x := p + 16 + 8) (by omega) (by omega), wrap64_id (x := ((blF 8 (x / 65536 / 256 % 256).toNat : Nat) : Int)) (by omega) (by omega), wrap64_id (by omega) (by omega)]
      congr 1; push_cast; omega
    · have e8 : blF 16 (x / 65536).toNat = blF 8 (x / 65536).toNat := blF_more 8 _ (by omega) 8
      have q8 : x / 65536 % 256 = x / 65536 := by omega
      refine Ev.neg h8 (Ev.pos (by omega) (Ev.pos (by omega) (Ev.const ?_)))
      rw [tab_at _ (by omega) (by omega), e16, q16, e8, q8]
      have := blF_le 8 (x / 65536).toNat
      rw [wrap64_id (x := p + 16) (by omega) (by omega), wrap64_id (x := ((blF 8 (x / 65536).toNat : Nat) : Int)) (by omega) (by omega), wrap64_id (by omega) (by omega)]
      congr 1; push_cast; omega
  · have e16 : blF 32 x.toNat = blF 16 x.toNat := blF_more 16 _ (by omega) 16
    refine Ev.neg h16 ?_
    by_cases h8 : x ≥ 256
    · have e8 : blF 16 x.toNat = 8 + blF 8 (x.toNat / 2 ^ 8) := blF_shift 8 8 _ (by omega)
      have q8 : x.toNat / 2 ^ 8 = (x / 256 % 256).toNat := by omega
      refine Ev.pos h8 (Ev.pos (by omega) (Ev.pos (by omega) (Ev.const ?_)))
      rw [tab_at _ (by omega) (by omega), e16, e8, q8]
      have := blF_le 8 (x / 256 % 256).toNat
      rw [wrap64_id (x := p + 8) (by omega) (by omega), wrap64_id (x := ((blF 8 (x / 256 % 256).toNat : Nat) : Int)) (by omega) (by omega), wrap64_id (by omega) (by omega)]
      congr 1; push_cast; omega
    · have e8 : blF 16 x.toNat = blF 8 x.toNat := blF_more 8 _ (by omega) 8
      have q8 : x % 256 = x := by omega
      refine Ev.neg h8 (Ev.pos (by omega) (Ev.pos (by omega) (Ev.const ?_)))
      rw [tab_at _ (by omega) (by omega), e16, e8, q8]
      have := blF_le 8 x.toNat
      rw [wrap64_id (x := ((blF 8 x.toNat : Nat) : Int)) (by omega) (by omega), wrap64_id (by omega) (by omega)]
/-- The width of a whole number, as one without a sign. -/
def widB (x : Int) : Int := (blF 64 (x % 18446744073709551616).toNat : Int)
theorem widB_range (x : Int) : 0 ≤ widB x ∧ widB x ≤ 64 := by
  unfold widB
  have := blF_le 64 (x % 18446744073709551616).toNat
  omega
theorem impl_widthOf_ev (x : Int) : Ev (fun k => impl_widthOf.f k x) (widB x) := by
  unfold impl_widthOf.f bits_Len64.f widB
  have e : IntKind.u64.wrap x = x % 18446744073709551616 := by rw [IntKind.wrap_u64]
  rw [e]
  generalize hX : x % 18446744073709551616 = X
  have h0 : 0 ≤ X := by omega
  have h1 : X < 18446744073709551616 := by omega
  have key : Ev (fun k => if X ≥ 4294967296 then (bits_Len64.j0 k (X / 4294967296) 32) else (bits_Len64.j0 k X 0)) (blF 64 X.toNat : Int) := by
    by_cases h : X ≥ 4294967296
    · refine Ev.pos h (Ev.cast (len64_j0 (X / 4294967296) 32 (by omega) (by omega) (by omega) (by omega)) ?_)
      have := blF_shift 32 32 X.toNat (by omega)
      have q : X.toNat / 2 ^ 32 = (X / 4294967296).toNat := by omega
      rw [this, q]; push_cast; omega
    · refine Ev.neg h (Ev.cast (len64_j0 X 0 h0 (by omega) (by omega) (by omega)) ?_)
      have := blF_more 32 X.toNat (by omega) 32
      rw [this]; omega
  exact Ev.bind key (Ev.now _)
theorem spec_l9Width_ev (x : Int) (h0 : -9223372036854775808 ≤ x) (h1 : x ≤ 9223372036854775807) : Ev (fun k => spec_l9Width.f k x) (widB x) := by
  unfold spec_l9Width.f widB
  have key : ∀ (f : Nat) (x w : Int), f ≤ 64 → -9223372036854775808 ≤ x → x ≤ 9223372036854775807 → (x % 18446744073709551616).toNat < 2 ^ f → 0 ≤ w → w + f ≤ 64 → Ev (fun k => spec_l9Width.l0 k x w) (w + blF f (x % 18446744073709551616).toNat) := by
    intro f
    induction f with
    | zero =>
      intro x w _ h0 h1 hx hw0 hw1
      have hz : (x % 18446744073709551616).toNat = 0 := by simpa using hx
      refine Ev.step (fun k => by rw [spec_l9Width.l0]) ?_
      refine Ev.pos (by omega) (Ev.const ?_)
      simp [blF]
    | succ f ih =>
      intro x w hf h0 h1 hx hw0 hw1
      refine Ev.step (fun k => by rw [spec_l9Width.l0]) ?_
      by_cases hz : x = 0
      · refine Ev.pos hz (Ev.const ?_)
        subst hz; simp [blF]
      · refine Ev.neg hz (Ev.here (l2Down1 x) ?_)
        rw [wrap64_id (x := w + 1) (by omega) (by omega)]
        have q : (x / 2 % 9223372036854775808) % 18446744073709551616 = x / 2 % 9223372036854775808 := by omega
        have q2 : (x / 2 % 9223372036854775808).toNat = (x % 18446744073709551616).toNat / 2 := by omega
        have := ih (x / 2 % 9223372036854775808) (w + 1) (by omega) (by omega) (by omega) (by rw [q, q2]; rw [Nat.pow_succ] at hx; omega) (by omega) (by omega)
        rw [q, q2] at this
        refine Ev.cast this ?_
        rw [show blF (f + 1) (x % 18446744073709551616).toNat = blF f ((x % 18446744073709551616).toNat / 2) + 1 from by rw [blF, if_neg (by omega)]]
        push_cast; omega
  have := key 64 x 0 (by omega) h0 h1 (by omega) (by omega) (by omega)
  simpa using this
theorem or_u8_range (a b : Int) : 0 ≤ Go.bits .or .u8 a b ∧ Go.bits .or .u8 a b ≤ 255 := by
  have e : Go.bits .or .u8 a b = IntKind.u8.wrap (((BitVec.ofInt 8 a ||| BitVec.ofInt 8 b).toNat : Nat) : Int) := rfl
  rw [e, IntKind.wrap_u8]; omega
theorem or_u8_zero (a : Int) (h0 : 0 ≤ a) (h1 : a ≤ 255) : Go.bits .or .u8 a 0 = a := by
  have e : Go.bits .or .u8 a 0 = IntKind.u8.wrap (((BitVec.ofInt 8 a ||| BitVec.ofInt 8 0).toNat : Nat) : Int) := rfl
  have z : BitVec.ofInt 8 0 = 0#8 := rfl
  rw [e, z, BitVec.or_zero, BitVec.toNat_ofInt, IntKind.wrap_u8]; omega
theorem and_one (x : Int) : Go.bits .and .i64 x 1 = x % 2 := bits_and_mask x 1 1 (by omega) rfl
/-- Bit k of number i is put into its place. -/
def bput (l : List Int) (w i k : Nat) (out : List Int) : List Int :=
  out.set ((i * w + k) / 8) (Go.bits .or .u8 (rd out (((i * w + k) / 8 : Nat) : Int)) (shl .u8 ((shr .i64 (rd l (i : Int)) (k : Int)) % 2) (((i * w + k) % 8 : Nat) : Int)))
def brow (l : List Int) (w i : Nat) (out : List Int) : List Int := (List.range w).foldl (fun o k => bput l w i k o) out
def bitsR (l : List Int) (w : Nat) : List Int := (List.range l.length).foldl (fun o i => brow l w i o) (List.replicate ((l.length * w + 7) / 8) 0)
def BOk (n : Nat) (out : List Int) : Prop := out.length = n ∧ ∀ x ∈ out, 0 ≤ x ∧ x ≤ 255
theorem bput_ok {n : Nat} {l : List Int} {w i k : Nat} {out : List Int} (h : BOk n out) : BOk n (bput l w i k out) := by
  refine ⟨by simpa [bput] using h.1, fun x hx => ?_⟩
  unfold bput at hx
  rcases List.mem_or_eq_of_mem_set hx with h' | rfl
  · exact h.2 x h'
  · exact or_u8_range _ _
theorem brow_ok {n : Nat} {l : List Int} {w i : Nat} : ∀ (m : Nat) {out : List Int}, BOk n out → BOk n ((List.range m).foldl (fun o k => bput l w i k o) out) := by
  intro m
  induction m with
  | zero => intro out h; exact h
  | succ m ih => intro out h; rw [List.range_succ, List.foldl_append]; exact bput_ok (ih h)
theorem bput_skip {n : Nat} {l : List Int} {w i k : Nat} {out : List Int} (h : BOk n out) (hb : (shr .i64 (rd l (i : Int)) (k : Int)) % 2 = 0) (hi : (i * w + k) / 8 < n) : bput l w i k out = out := by
  unfold bput
  rw [hb]
  have e : shl .u8 0 (((i * w + k) % 8 : Nat) : Int) = 0 := by unfold shl; rw [Int.zero_mul, IntKind.wrap_u8]; rfl
  have hl : (i * w + k) / 8 < out.length := by rw [h.1]; exact hi
  have er : rd out (((i * w + k) / 8 : Nat) : Int) = out[(i * w + k) / 8] := rd_eq (by omega)
  have hm := h.2 _ (List.getElem_mem hl)
  rw [e, er, or_u8_zero _ hm.1 hm.2, List.set_getElem_self]
theorem bitsR_ok (l : List Int) (w : Nat) : BOk ((l.length * w + 7) / 8) (bitsR l w) := by
  unfold bitsR
  have : ∀ m, BOk ((l.length * w + 7) / 8) ((List.range m).foldl (fun o i => brow l w i o) (List.replicate ((l.length * w + 7) / 8) 0)) := by
    intro m
    induction m with
    | zero => exact ⟨by simp, fun x hx => by obtain rfl := List.eq_of_mem_replicate hx; omega⟩
    | succ m ih => rw [List.range_succ, List.foldl_append]; exact brow_ok w ih
  exact this _
theorem pos_facts (l : List Int) (hl : l.length ≤ 4000) (w : Nat) (hw : w ≤ 64) (i k : Nat) (hi : i < l.length) (hk : k < w) :
    (wrap64 ((i : Int) * (w : Int)) + (k : Int)) = ((i * w + k : Nat) : Int) ∧ i * w + k < l.length * w ∧ l.length * w ≤ 256000 := by
  have h1 : (i + 1) * w ≤ l.length * w := Nat.mul_le_mul_right _ hi
  rw [Nat.add_mul, Nat.one_mul] at h1
  have h2 : l.length * w ≤ 4000 * 64 := Nat.mul_le_mul hl hw
  have hc : ((i : Int) * (w : Int)) = ((i * w : Nat) : Int) := by push_cast; rfl
  rw [hc, wrap64_id (by omega) (by omega)]
  exact ⟨by push_cast; rfl, by omega, by omega⟩
theorem spec_l9Bits_ev (l : List Int) (hl : l.length ≤ 4000) (w : Nat) (hw : w ≤ 64) : Ev (fun k => spec_l9Bits.f k l (w : Int)) (bitsR l w) := by
  have h2 : l.length * w ≤ 4000 * 64 := Nat.mul_le_mul hl hw
  have hc : ((l.length : Int) * (w : Int)) = ((l.length * w : Nat) : Int) := by push_cast; rfl
  have hN : wrap64 (Int.tdiv (wrap64 (wrap64 ((l.length : Int) * (w : Int)) + 7)) 8) = (((l.length * w + 7) / 8 : Nat) : Int) := by
    rw [hc, wrap64_id (x := ((l.length * w : Nat) : Int)) (by omega) (by omega), wrap64_id (x := ((l.length * w : Nat) : Int) + 7) (by omega) (by omega), Int.tdiv_eq_ediv_of_nonneg (by omega), wrap64_id (by omega) (by omega)]
    omega
  unfold spec_l9Bits.f
  rw [hN]
  refine Ev.pos (by omega) (Ev.pos (by omega) ?_)
  rw [Int.toNat_natCast]
  refine loop_inv (fun k out i => spec_l9Bits.l0 k l (w : Int) out i) (fun i out => brow l w i out) l.length _ (fun _ out => BOk ((l.length * w + 7) / 8) out) _ ⟨by simp, fun x hx => by obtain rfl := List.eq_of_mem_replicate hx; omega⟩ (fun i out hi ho => brow_ok w ho) (fun i out hi ho hr => ?_) (fun out ho he => ?_)
  · refine Ev.step (fun k => by rw [spec_l9Bits.l0]) ?_
    refine Ev.pos (by omega) ?_
    refine loop_inv (fun n o k => spec_l9Bits.l1 n l (w : Int) o (i : Int) k) (fun k o => bput l w i k o) w _ (fun _ o => BOk ((l.length * w + 7) / 8) o) out ho (fun k o _ h => bput_ok h) (fun k o hk hok hr2 => ?_) (fun o hok he => ?_)
    · obtain ⟨p1, p2, p3⟩ := pos_facts l hl w hw i k hi hk
      refine Ev.step (fun k => by rw [spec_l9Bits.l1]) ?_
      refine Ev.pos (by omega) (Ev.pos (by omega) (Ev.pos (by omega) (Ev.pos (by omega) ?_)))
      rw [wrap64_id (x := (k : Int) + 1) (by omega) (by omega), p1, and_one]
      have hr3 : Ev (fun n => spec_l9Bits.l1 n l (w : Int) (bput l w i k o) (i : Int) ((k : Int) + 1)) (bitsR l w) := by simpa using hr2
      by_cases hb : (shr .i64 (rd l (i : Int)) (k : Int)) % 2 = 0
      · refine Ev.pos hb ?_
        rw [bput_skip hok hb (by omega)] at hr3
        exact hr3
      · have hb1 : (shr .i64 (rd l (i : Int)) (k : Int)) % 2 = 1 := by omega
        rw [wrap64_id (x := ((i * w + k : Nat) : Int)) (by omega) (by omega), Int.tdiv_eq_ediv_of_nonneg (by omega), Int.tmod_eq_emod_of_nonneg (by omega)]
        have e1 : wrap64 (((i * w + k : Nat) : Int) / 8) = (((i * w + k) / 8 : Nat) : Int) := by rw [wrap64_id (by omega) (by omega)]; omega
        have e2 : ((i * w + k : Nat) : Int) % 8 = (((i * w + k) % 8 : Nat) : Int) := by omega
        rw [e1, e2]
        have hlen := hok.1
        refine Ev.neg hb (Ev.pos (by omega) (Ev.pos (by omega) (Ev.pos (by omega) ?_)))
        unfold bput at hr3
        rw [hb1] at hr3
        rw [Int.toNat_natCast]
        exact hr3
    · refine Ev.step (fun k => by rw [spec_l9Bits.l1]) ?_
      refine Ev.neg (by omega) ?_
      rw [wrap64_id (x := (i : Int) + 1) (by omega) (by omega), he]
      have : (List.range w).foldl (fun o k => bput l w i k o) out = brow l w i out := rfl
      rw [this]
      simpa using hr
  · refine Ev.step (fun k => by rw [spec_l9Bits.l0]) ?_
    refine Ev.neg (by omega) (Ev.const ?_)
    rw [he]; rfl
theorem impl_packed_ev (l : List Int) (hl : l.length ≤ 4000) (w : Nat) (hw : w ≤ 64) : Ev (fun k => impl_packed.f k l (w : Int)) (bitsR l w) := by
  have h2 : l.length * w ≤ 4000 * 64 := Nat.mul_le_mul hl hw
  have hc : ((l.length : Int) * (w : Int)) = ((l.length * w : Nat) : Int) := by push_cast; rfl
  have hN : wrap64 (Int.tdiv (wrap64 (wrap64 ((l.length : Int) * (w : Int)) + 7)) 8) = (((l.length * w + 7) / 8 : Nat) : Int) := by
    rw [hc, wrap64_id (x := ((l.length * w : Nat) : Int)) (by omega) (by omega), wrap64_id (x := ((l.length * w : Nat) : Int) + 7) (by omega) (by omega), Int.tdiv_eq_ediv_of_nonneg (by omega), wrap64_id (by omega) (by omega)]
    omega
  unfold impl_packed.f
  rw [hN]
  refine Ev.pos (by omega) (Ev.pos (by omega) ?_)
  rw [Int.toNat_natCast]
  refine loop_inv (fun k out i => impl_packed.l0 k (w : Int) out l (l.length : Int) i) (fun i out => brow l w i out) l.length _ (fun _ out => BOk ((l.length * w + 7) / 8) out) _ ⟨by simp, fun x hx => by obtain rfl := List.eq_of_mem_replicate hx; omega⟩ (fun i out hi ho => brow_ok w ho) (fun i out hi ho hr => ?_) (fun out ho he => ?_)
  · refine Ev.step (fun k => by rw [impl_packed.l0]) ?_
    refine Ev.pos (by omega) (Ev.pos (by omega) (Ev.pos (by omega) ?_))
    refine loop_inv (fun n o k => impl_packed.l1 n (w : Int) o (i : Int) (rd l (i : Int)) l (l.length : Int) (i : Int) (w : Int) k) (fun k o => bput l w i k o) w _ (fun _ o => BOk ((l.length * w + 7) / 8) o) out ho (fun k o _ h => bput_ok h) (fun k o hk hok hr2 => ?_) (fun o hok he => ?_)
    · obtain ⟨p1, p2, p3⟩ := pos_facts l hl w hw i k hi hk
      refine Ev.step (fun k => by rw [impl_packed.l1]) ?_
      rw [wrap64_id (x := (k : Int) + 1) (by omega) (by omega), p1, and_one]
      have hr3 : Ev (fun n => impl_packed.l1 n (w : Int) (bput l w i k o) (i : Int) (rd l (i : Int)) l (l.length : Int) (i : Int) (w : Int) ((k : Int) + 1)) (bitsR l w) := by simpa using hr2
      rw [wrap64_id (x := ((i * w + k : Nat) : Int)) (by omega) (by omega), Int.tdiv_eq_ediv_of_nonneg (by omega), Int.tmod_eq_emod_of_nonneg (by omega)]
      have e1 : wrap64 (((i * w + k : Nat) : Int) / 8) = (((i * w + k) / 8 : Nat) : Int) := by rw [wrap64_id (by omega) (by omega)]; omega
      have e2 : ((i * w + k : Nat) : Int) % 8 = (((i * w + k) % 8 : Nat) : Int) := by omega
      have e3 : (shr .i64 (rd l (i : Int)) (k : Int)) % 2 % 256 = (shr .i64 (rd l (i : Int)) (k : Int)) % 2 := by omega
      rw [e1, e2, e3]
      have hlen := hok.1
      refine Ev.pos (by omega) (Ev.pos (by omega) (Ev.pos (by omega) (Ev.pos (by omega) (Ev.pos (by omega) ?_))))
      unfold bput at hr3
      rw [Int.toNat_natCast]
      exact hr3
    · refine Ev.step (fun k => by rw [impl_packed.l1]) ?_
      refine Ev.neg (by omega) ?_
      rw [wrap64_id (x := (i : Int) + 1) (by omega) (by omega), he]
      have : (List.range w).foldl (fun o k => bput l w i k o) out = brow l w i out := rfl
      rw [this]
      simpa using hr
  · refine Ev.step (fun k => by rw [impl_packed.l0]) ?_
    refine Ev.neg (by omega) (Ev.const ?_)
    rw [he]; rfl
def AllI (d : List Int) : Prop := ∀ x ∈ d, -9223372036854775808 ≤ x ∧ x ≤ 9223372036854775807
theorem rd_I {d : List Int} (h : AllI d) (j : Int) : -9223372036854775808 ≤ rd d j ∧ rd d j ≤ 9223372036854775807 := by
  by_cases hj : j.toNat < d.length
  · rw [rd_eq hj]; exact h _ (List.getElem_mem hj)
  · unfold rd; rw [List.getD_eq_getElem?_getD, List.getElem?_eq_none (by omega)]; simp
def mstepD (d : List Int) (i : Nat) (s : Int) : Int := if rd d ((i : Int) + 1) < s then rd d ((i : Int) + 1) else s
def leastB (d : List Int) : Int := (List.range (d.length - 1)).foldl (fun s (i : Nat) => mstepD d i s) (rd d 0)
theorem leastB_I {d : List Int} (h : AllI d) : -9223372036854775808 ≤ leastB d ∧ leastB d ≤ 9223372036854775807 := by
  unfold leastB
  have : ∀ m : Nat, -9223372036854775808 ≤ (List.range m).foldl (fun s (i : Nat) => mstepD d i s) (rd d 0) ∧ (List.range m).foldl (fun s (i : Nat) => mstepD d i s) (rd d 0) ≤ 9223372036854775807 := by
    intro m
    induction m with
    | zero => exact rd_I h 0
    | succ m ih =>
      rw [List.range_succ, List.foldl_append]
      simp only [List.foldl_cons, List.foldl_nil]
      have := rd_I h ((m : Int) + 1)
      unfold mstepD at ih ⊢
      split
      · exact this
      · exact ih
  exact this _
theorem impl_least_ev (d : List Int) (h0 : 0 < d.length) (hl : d.length ≤ 1048576) : Ev (fun k => slices_Min_int_int.f k d) (leastB d) := by
  unfold slices_Min_int_int.f
  refine Ev.neg (by omega) (Ev.pos (by omega) ?_)
  have := loop_cps (fun k s i => slices_Min_int_int.l0 k d s (i + 1)) (mstepD d) (d.length - 1) (leastB d) (fun i s hi hr => by
    refine Ev.step (fun k => by rw [slices_Min_int_int.l0]) ?_
    refine Ev.pos (by omega) (Ev.pos (by omega) ?_)
    rw [wrap64_id (x := (i : Int) + 1 + 1) (by omega) (by omega)]
    have e : mn s (rd d ((i : Int) + 1)) = mstepD d i s := rfl
    rw [e]
    simpa using hr) (rd d 0) (by
    refine Ev.step (fun k => by rw [slices_Min_int_int.l0]) ?_
    exact Ev.neg (by omega) (Ev.now _))
  simpa using this
/-- The numbers of miniblock m, less the least one; the width of the widest. -/
def nstep (d : List Int) (least : Int) (m j : Nat) (s : List Int × Int) : List Int × Int :=
  (s.1 ++ [wrap64 (rd d ((32 * m + j : Nat) : Int) - least)], if s.2 < widB (wrap64 (rd d ((32 * m + j : Nat) : Int) - least)) then widB (wrap64 (rd d ((32 * m + j : Nat) : Int) - least)) else s.2)
def cntD (d : List Int) (m : Nat) : Nat := min 32 (d.length - 32 * m)
def mini (d : List Int) (least : Int) (m : Nat) : List Int × Int := (List.range (cntD d m)).foldl (fun s j => nstep d least m j s) ([], 0)
def MOk (j : Nat) (s : List Int × Int) : Prop := s.1.length = j ∧ 0 ≤ s.2 ∧ s.2 ≤ 64
theorem nstep_ok {d : List Int} {least : Int} {m j : Nat} {s : List Int × Int} (h : MOk j s) : MOk (j + 1) (nstep d least m j s) := by
  obtain ⟨h1, h2, h3⟩ := h
  have := widB_range (wrap64 (rd d ((32 * m + j : Nat) : Int) - least))
  refine ⟨by simp [nstep, h1], ?_, ?_⟩
  · unfold nstep; dsimp only; split <;> omega
  · unfold nstep; dsimp only; split <;> omega
theorem mini_ok (d : List Int) (least : Int) (m : Nat) : MOk (cntD d m) (mini d least m) := by
  unfold mini
  have : ∀ c, MOk c ((List.range c).foldl (fun s j => nstep d least m j s) ([], 0)) := by
    intro c
    induction c with
    | zero => exact ⟨rfl, by simp, by simp⟩
    | succ c ih => rw [List.range_succ, List.foldl_append]; exact nstep_ok ih
  exact this _
def padL (l : List Int) : List Int := l ++ List.replicate (32 - l.length) 0
def dstep (d : List Int) (least : Int) (m : Nat) (s : List Int × List Int) : List Int × List Int :=
  (s.1 ++ [(mini d least m).2 % 256], if cntD d m = 0 then s.2 else s.2 ++ bitsR (padL (mini d least m).1) (mini d least m).2.toNat)
theorem bits32_length (l : List Int) (w : Nat) (hl : l.length ≤ 32) (hw : w ≤ 64) : (bitsR (padL l) w).length ≤ 256 := by
  have h := (bitsR_ok (padL l) w).1
  have e : (padL l).length = 32 := by unfold padL; simp; omega
  rw [h, e]
  have : 32 * w ≤ 32 * 64 := Nat.mul_le_mul_left _ hw
  omega
def DOk (m : Nat) (s : List Int × List Int) : Prop := s.1.length = m ∧ s.2.length ≤ 256 * m
theorem dstep_ok {d : List Int} {least : Int} {m : Nat} {s : List Int × List Int} (h : DOk m s) : DOk (m + 1) (dstep d least m s) := by
  obtain ⟨h1, h2⟩ := h
  obtain ⟨m1, m2, m3⟩ := mini_ok d least m
  refine ⟨by simp [dstep, h1], ?_⟩
  unfold dstep
  dsimp only
  have hc : cntD d m ≤ 32 := by unfold cntD; omega
  have := bits32_length (mini d least m).1 (mini d least m).2.toNat (by omega) (by omega)
  split
  · omega
  · rw [List.length_append]; omega
theorem pad_loop (d : List Int) (least : Int) (wd da : List Int) (m : Int) (w : Int) (r : List Int) : ∀ (f : Nat) (l : List Int), l.length + f = 32 →
    Ev (fun k => (spec_l9Bits.f k (l ++ List.replicate f 0) w).bind fun t172 => (if da.length + t172.length < 140737488355328 then (spec_l9Block.l1 k d least 32 wd (da ++ t172) (wrap64 (m + 1))) else (none))) r → Ev (fun k => spec_l9Block.l3 k d least 32 wd da m l w) r := by
  intro f
  induction f with
  | zero =>
    intro l hl h
    refine Ev.step (fun k => by rw [spec_l9Block.l3]) ?_
    refine Ev.neg (by omega) ?_
    simpa using h
  | succ f ih =>
    intro l hl h
    refine Ev.step (fun k => by rw [spec_l9Block.l3]) ?_
    refine Ev.pos (by omega) (Ev.pos (by omega) ?_)
    refine ih (l ++ [0]) (by simp; omega) ?_
    rw [List.append_assoc, List.singleton_append, ← List.replicate_succ]
    exact h
theorem spec_block_ev (d : List Int) (hd : AllI d) (h0 : 0 < d.length) (hl : d.length ≤ 128) (z : List Int) (hz : Ev (fun k => spec_ZigPut.f k (leastB d)) z) (hzl : z.length ≤ 10) :
    Ev (fun k => spec_l9Block.f k d) (z ++ ((List.range 4).foldl (fun s m => dstep d (leastB d) m s) ([], [])).1 ++ ((List.range 4).foldl (fun s m => dstep d (leastB d) m s) ([], [])).2) := by
  unfold spec_l9Block.f
  refine Ev.pos (by omega) ?_
  generalize hR : z ++ ((List.range 4).foldl (fun s m => dstep d (leastB d) m s) ([], [])).1 ++ ((List.range 4).foldl (fun s m => dstep d (leastB d) m s) ([], [])).2 = R
  have hleast := leastB_I hd
  have := loop_cps (fun k s i => spec_l9Block.l0 k d s (i + 1)) (mstepD d) (d.length - 1) R (fun i s hi hr => by
    refine Ev.step (fun k => by rw [spec_l9Block.l0]) ?_
    refine Ev.pos (by omega) (Ev.pos (by omega) (Ev.here (a := mstepD d i s) (by unfold spec_l1Min.f mstepD; (repeat' split) <;> first | rfl | (congr 1; omega)) ?_))
    rw [wrap64_id (x := (i : Int) + 1 + 1) (by omega) (by omega)]
    simpa using hr) (rd d 0) (by
    have e : (List.range (d.length - 1)).foldl (fun s i => mstepD d i s) (rd d 0) = leastB d := rfl
    rw [e]
    refine Ev.step (fun k => by rw [spec_l9Block.l0]) ?_
    refine Ev.neg (by omega) ?_
    refine loop_inv (fun k (s : List Int × List Int) m => spec_l9Block.l1 k d (leastB d) 32 s.1 s.2 m) (fun m s => dstep d (leastB d) m s) 4 R DOk ([], []) ⟨rfl, by simp⟩ (fun m s _ h => dstep_ok h) (fun m s hm hs hr => ?_) (fun s hs he => ?_)
    · obtain ⟨wd, da⟩ := s
      obtain ⟨hs1, hs2⟩ := hs
      dsimp only at hs1 hs2
      have hc : cntD d m ≤ 32 := by unfold cntD; omega
      have hc2 : cntD d m = 32 ∨ 32 * m + cntD d m ≥ d.length := by unfold cntD; omega
      have hc3 : ∀ j, j < cntD d m → 32 * m + j < d.length := by unfold cntD; omega
      refine Ev.step (fun k => by rw [spec_l9Block.l1]) ?_
      refine Ev.pos (by omega) ?_
      rw [wrap64_id (x := (m : Int) * 32) (by omega) (by omega)]
      have inner := loop_inv (fun k (s : List Int × Int) j => spec_l9Block.l2 k d (leastB d) 32 wd da (m : Int) s.1 s.2 ((m : Int) * 32 + j)) (fun j s => nstep d (leastB d) m j s) (cntD d m) R MOk ([], 0) ⟨rfl, by simp, by simp⟩ (fun j s _ h => nstep_ok h) (fun j s hj hs hr2 => by
        obtain ⟨nums, w⟩ := s
        obtain ⟨q1, q2, q3⟩ := hs
        dsimp only at q1 q2 q3
        have hlt := hc3 j hj
        refine Ev.step (fun k => by rw [spec_l9Block.l2]) ?_
        rw [wrap64_id (x := (m : Int) + 1) (by omega) (by omega), wrap64_id (x := ((m : Int) + 1) * 32) (by omega) (by omega)]
        refine Ev.pos (by omega) ?_
        refine Ev.step (fun k => by rw [spec_l9Block.j3]) ?_
        rw [wrap64_id (x := (m : Int) * 32 + j + 1) (by omega) (by omega)]
        have ei : (m : Int) * 32 + (j : Int) = ((32 * m + j : Nat) : Int) := by push_cast; omega
        have hw := spec_l9Width_ev (wrap64 (rd d ((32 * m + j : Nat) : Int) - leastB d)) (wrap64_lo _) (wrap64_hi _)
        rw [ei]
        refine Ev.pos (by simp; omega) (Ev.pos (by omega) (Ev.pos (by omega) (Ev.pos (by dsimp only; omega) (Ev.bind hw (Ev.here (a := (nstep d (leastB d) m j (nums, w)).2) (by unfold spec_l1Max.f nstep; dsimp only; (repeat' split) <;> first | rfl | (congr 1; omega)) ?_)))))
        have e2 : ((32 * m + j : Nat) : Int) + 1 = (m : Int) * 32 + ((j + 1 : Nat) : Int) := by push_cast; omega
        rw [e2]
        exact hr2) (fun s hs he => by
        have hs' : s = mini d (leastB d) m := he
        obtain ⟨q1, q2, q3⟩ := hs
        refine Ev.step (fun k => by rw [spec_l9Block.l2]) ?_
        rw [wrap64_id (x := (m : Int) + 1) (by omega) (by omega), wrap64_id (x := ((m : Int) + 1) * 32) (by omega) (by omega)]
        have tail : Ev (fun k => spec_l9Block.j3 k d (leastB d) 32 wd da (m : Int) s.1 s.2 ((m : Int) * 32 + (cntD d m : Int)) false) R := by
          refine Ev.step (fun k => by rw [spec_l9Block.j3]) ?_
          refine Ev.neg (by decide) (Ev.pos (by omega) (Ev.here rfl ?_))
          have e2 : ((m + 1 : Nat) : Int) = (m : Int) + 1 := by push_cast; rfl
          rw [e2] at hr
          unfold dstep at hr
          rw [← hs'] at hr
          dsimp only at hr
          by_cases hz : cntD d m = 0
          · rw [if_pos hz] at hr
            refine Ev.pos (by omega) ?_
            rw [wrap64_id (x := (m : Int) + 1) (by omega) (by omega)]
            exact hr
          · rw [if_neg hz] at hr
            refine Ev.neg (by omega) ?_
            have hb := spec_l9Bits_ev (padL s.1) (by unfold padL; simp; omega) s.2.toNat (by omega)
            have hbl := bits32_length s.1 s.2.toNat (by omega) (by omega)
            rw [Int.toNat_of_nonneg q2] at hb
            refine pad_loop d (leastB d) (wd ++ [s.2 % 256]) da (m : Int) s.2 R (32 - s.1.length) s.1 (by omega) (Ev.bind hb (Ev.pos (by omega) ?_))
            rw [wrap64_id (x := (m : Int) + 1) (by omega) (by omega)]
            exact hr
        by_cases hx : (m : Int) * 32 + (cntD d m : Int) < ((m : Int) + 1) * 32
        · refine Ev.pos hx ?_
          have : decide ((m : Int) * 32 + (cntD d m : Int) < (d.length : Int)) = false := decide_eq_false (by omega)
          rw [this]; exact tail
        · exact Ev.neg hx tail)
      simpa using inner
    · obtain ⟨q1, q2⟩ := hs
      refine Ev.step (fun k => by rw [spec_l9Block.l1]) ?_
      refine Ev.neg (by omega) (Ev.bind hz (Ev.pos (by omega) (Ev.here rfl (Ev.pos (by simp; omega) (Ev.const ?_)))))
      rw [← hR, he])
  simpa using this
theorem impl_block_ev (d : List Int) (hd : AllI d) (h0 : 0 < d.length) (hl : d.length ≤ 128) (z : List Int) (hz : Ev (fun k => impl_ZigPut.f k (leastB d)) z) (hzl : z.length ≤ 10) :
    Ev (fun k => impl_blockOf.f k d) (z ++ ((List.range 4).foldl (fun s m => dstep d (leastB d) m s) ([], [])).1 ++ ((List.range 4).foldl (fun s m => dstep d (leastB d) m s) ([], [])).2) := by
  unfold impl_blockOf.f
  generalize hR : z ++ ((List.range 4).foldl (fun s m => dstep d (leastB d) m s) ([], [])).1 ++ ((List.range 4).foldl (fun s m => dstep d (leastB d) m s) ([], [])).2 = R
  refine Ev.bind (impl_least_ev d h0 (by omega)) (Ev.bind hz ?_)
  have := loop_inv (fun k (s : List Int × List Int) m => impl_blockOf.l0 k d (leastB d) (z ++ s.1) s.2 m) (fun m s => dstep d (leastB d) m s) 4 R DOk ([], []) ⟨rfl, by simp⟩ (fun m s _ h => dstep_ok h) (fun m s hm hs hr => by
    obtain ⟨wd, da⟩ := s
    obtain ⟨hs1, hs2⟩ := hs
    dsimp only at hs1 hs2
    have hc : cntD d m ≤ 32 := by unfold cntD; omega
    have hc2 : cntD d m = 32 ∨ 32 * m + cntD d m ≥ d.length := by unfold cntD; omega
    have hc3 : ∀ j, j < cntD d m → 32 * m + j < d.length := by unfold cntD; omega
    refine Ev.step (fun k => by rw [impl_blockOf.l0]) ?_
    refine Ev.pos (by omega) (Ev.pos (by omega) ?_)
    rw [wrap64_id (x := (m : Int) * 32) (by omega) (by omega)]
    have inner := loop_inv (fun k (s : List Int × Int) j => impl_blockOf.l1 k d (leastB d) (z ++ wd) da (m : Int) (padL s.1) j s.2 ((m : Int) * 32 + j) (m : Int)) (fun j s => nstep d (leastB d) m j s) (cntD d m) R MOk ([], 0) ⟨rfl, by simp, by simp⟩ (fun j s _ h => nstep_ok h) (fun j s hj hs hr2 => by
      obtain ⟨nums, w⟩ := s
      obtain ⟨q1, q2, q3⟩ := hs
      dsimp only at q1 q2 q3
      have hlt := hc3 j hj
      have hpl : (padL nums).length = 32 := by unfold padL; simp; omega
      refine Ev.step (fun k => by rw [impl_blockOf.l1]) ?_
      rw [wrap64_id (x := (m : Int) + 1) (by omega) (by omega), wrap64_id (x := ((m : Int) + 1) * 32) (by omega) (by omega), wrap64_id (x := (m : Int) * 32 + j + 1) (by omega) (by omega), wrap64_id (x := (j : Int) + 1) (by omega) (by omega)]
      have ei : (m : Int) * 32 + (j : Int) = ((32 * m + j : Nat) : Int) := by push_cast; omega
      rw [ei]
      have hset : ∀ v : Int, (padL nums).set j v = padL (nums ++ [v]) := by
        intro v
        unfold padL
        rw [List.set_append_right _ _ (by omega), q1, Nat.sub_self, show 32 - j = (31 - j) + 1 by omega, List.replicate_succ, List.set_cons_zero, List.length_append, List.length_singleton, q1, show 32 - (j + 1) = 31 - j by omega, List.append_assoc, List.singleton_append]
      refine Ev.pos (by omega) (Ev.pos (by omega) (Ev.pos (by omega) (Ev.pos (by omega) (Ev.pos (by dsimp only; omega) (Ev.here rfl ?_)))))
      rw [Int.toNat_natCast, hset]
      have hrd : rd (padL (nums ++ [wrap64 (rd d ((32 * m + j : Nat) : Int) - leastB d)])) (j : Int) = wrap64 (rd d ((32 * m + j : Nat) : Int) - leastB d) := by
        have hpl2 : (padL (nums ++ [wrap64 (rd d ((32 * m + j : Nat) : Int) - leastB d)])).length = 32 := by unfold padL; simp; omega
        rw [rd_eq (by omega)]
        simp only [Int.toNat_natCast]
        unfold padL
        rw [List.getElem_append_left (by simp; omega)]
        simp [← q1]
      rw [hrd]
      refine Ev.bind (impl_widthOf_ev _) ?_
      have e2 : ((32 * m + j : Nat) : Int) + 1 = (m : Int) * 32 + ((j + 1 : Nat) : Int) := by push_cast; omega
      rw [e2]
      exact hr2) (fun s hs he => by
      have hs' : s = mini d (leastB d) m := he
      obtain ⟨q1, q2, q3⟩ := hs
      have e2 : ((m + 1 : Nat) : Int) = (m : Int) + 1 := by push_cast; rfl
      rw [e2] at hr
      unfold dstep at hr
      rw [← hs'] at hr
      dsimp only at hr
      rw [← List.append_assoc] at hr
      refine Ev.step (fun k => by rw [impl_blockOf.l1]) ?_
      rw [wrap64_id (x := (m : Int) + 1) (by omega) (by omega), wrap64_id (x := ((m : Int) + 1) * 32) (by omega) (by omega)]
      have hb := impl_packed_ev (padL s.1) (by unfold padL; simp; omega) s.2.toNat (by omega)
      have hbl := bits32_length s.1 s.2.toNat (by omega) (by omega)
      rw [Int.toNat_of_nonneg q2] at hb
      have fin : Ev (fun k => if (z ++ wd).length < 140737488355328 then ((some (z ++ wd ++ [s.2 % 256] : List Int)).bind fun y278 => (if (cntD d m : Int) > 0 then ((impl_packed.f k (padL s.1) s.2).bind fun t281 => (if da.length + t281.length < 140737488355328 then (impl_blockOf.l0 k d (leastB d) y278 (da ++ t281) ((m : Int) + 1)) else (none))) else (impl_blockOf.l0 k d (leastB d) y278 da ((m : Int) + 1)))) else (none)) R := by
        refine Ev.pos (by simp; omega) (Ev.here rfl ?_)
        by_cases hz0 : cntD d m = 0
        · rw [if_pos hz0] at hr
          exact Ev.neg (by omega) hr
        · rw [if_neg hz0] at hr
          exact Ev.pos (by omega) (Ev.bind hb (Ev.pos (by omega) hr))
      by_cases hx : (m : Int) * 32 + (cntD d m : Int) < ((m : Int) + 1) * 32
      · exact Ev.pos hx (Ev.neg (by omega) fin)
      · exact Ev.neg hx fin)
    have e0 : (m : Int) * 32 + 0 = (m : Int) * 32 := by omega
    rw [← e0]
    exact inner) (fun s hs he => by
    obtain ⟨q1, q2⟩ := hs
    refine Ev.step (fun k => by rw [impl_blockOf.l0]) ?_
    refine Ev.neg (by omega) (Ev.pos (by simp; omega) (Ev.const ?_))
    rw [← hR, he])
  simpa using this
theorem block_both (d : List Int) (hd : AllI d) (h0 : 0 < d.length) (hl : d.length ≤ 128) : ∃ r : List Int, Ev (fun k => spec_l9Block.f k d) r ∧ Ev (fun k => impl_blockOf.f k d) r ∧ r.length ≤ 2000 := by
  have hb := leastB_I hd
  obtain ⟨z, z1, z2, z3, _⟩ := ZigPut_ev (leastB d) hb.1 hb.2
  refine ⟨_, spec_block_ev d hd h0 hl z z1 z3, impl_block_ev d hd h0 hl z z2 z3, ?_⟩
  have : ∀ m, DOk m ((List.range m).foldl (fun s m => dstep d (leastB d) m s) ([], [])) := by
    intro m
    induction m with
    | zero => exact ⟨rfl, by simp⟩
    | succ m ih => rw [List.range_succ, List.foldl_append]; exact dstep_ok ih
  obtain ⟨q1, q2⟩ := this 4
  rw [List.length_append, List.length_append]; omega
theorem delta_loop (D : List Int) (hD : AllI D) (hl : D.length ≤ 1048576) : ∀ (f : Nat) (at_ : Nat) (out : List Int), D.length ≤ at_ + 128 * f → out.length ≤ 2000 * at_ + 100000 → at_ ≤ 2000000 →
    ∃ r : List Int × Bool, Ev (fun k => spec_DeltaPack.l0 k out D (at_ : Int)) r ∧ Ev (fun k => impl_DeltaPack.l0 k out (D.drop at_)) r ∧ r.1.length ≤ out.length + 2000 * f := by
  intro f
  induction f with
  | zero =>
    intro at_ out h ho ha
    refine ⟨(out, true), Ev.step (fun k => by rw [spec_DeltaPack.l0]) (by exact Ev.neg (by omega) (Ev.now _)), Ev.step (fun k => by rw [impl_DeltaPack.l0]) (by exact Ev.neg (by simp; omega) (Ev.now _)), by simp⟩
  | succ f ih =>
    intro at_ out h ho ha
    by_cases hx : D.length ≤ at_
    · exact ⟨(out, true), Ev.step (fun k => by rw [spec_DeltaPack.l0]) (by exact Ev.neg (by omega) (Ev.now _)), Ev.step (fun k => by rw [impl_DeltaPack.l0]) (by exact Ev.neg (by simp; omega) (Ev.now _)), by simp⟩
    · have hdl : (D.drop at_).length = D.length - at_ := by simp
      generalize hn : min 128 (D.length - at_) = n
      have hn1 : 0 < n := by omega
      have hn2 : n ≤ 128 := by omega
      have hn3 : at_ + n ≤ D.length := by omega
      have hch : ((D.drop at_).take n).length = n := by rw [List.length_take]; omega
      obtain ⟨b, b1, b2, b3⟩ := block_both ((D.drop at_).take n) (fun x hx => hD x (List.mem_of_mem_drop (List.mem_of_mem_take hx))) (by omega) (by omega)
      obtain ⟨r, r1, r2, r3⟩ := ih (at_ + 128) (out ++ b) (by omega) (by simp; omega) (by omega)
      refine ⟨r, ?_, ?_, by simp at r3; omega⟩
      · refine Ev.step (fun k => by rw [spec_DeltaPack.l0]) ?_
        have hm : spec_l1Min.f (wrap64 ((at_ : Int) + 128)) (D.length : Int) = some ((at_ + n : Nat) : Int) := by
          rw [wrap64_id (by omega) (by omega)]
          unfold spec_l1Min.f
          split <;> (congr 1; omega)
        refine Ev.pos (by omega) (Ev.here hm (Ev.pos (by omega) (Ev.pos (by omega) (Ev.pos (by omega) ?_))))
        rw [wrap64_id (x := (at_ : Int) + 128) (by omega) (by omega), Int.toNat_natCast, Int.toNat_natCast]
        have e : (D.take (at_ + n)).drop at_ = (D.drop at_).take n := by rw [List.drop_take, Nat.add_sub_cancel_left]
        rw [e]
        refine Ev.bind b1 (Ev.pos (by omega) ?_)
        have e2 : ((at_ + 128 : Nat) : Int) = (at_ : Int) + 128 := by omega
        rw [e2] at r1
        exact r1
      · refine Ev.step (fun k => by rw [impl_DeltaPack.l0]) ?_
        have hm : mn 128 ((D.drop at_).length : Int) = (n : Int) := by
          unfold mn; split <;> omega
        rw [hm, Int.toNat_natCast]
        refine Ev.pos (by omega) (Ev.pos (by omega) (Ev.pos (by omega) (Ev.bind b2 (Ev.pos (by omega) ?_))))
        rw [List.drop_drop]
        by_cases h128 : n = 128
        · subst h128; exact r2
        · have e3 : D.drop (at_ + n) = D.drop (at_ + 128) := by
            rw [List.drop_eq_nil_of_le (by omega), List.drop_eq_nil_of_le (by omega)]
          rw [e3]; exact r2
theorem DeltaPack_both (l : List Int) (hI : AllI l) (hl : l.length ≤ 1048576) : ∃ r : List Int × Bool, Ev (fun k => spec_DeltaPack.f k l) r ∧ Ev (fun k => impl_DeltaPack.f k l) r ∧ r.1.length ≤ 1000000 := by
  unfold spec_DeltaPack.f impl_DeltaPack.f
  by_cases hb : (l.length : Int) > 2000
  · exact ⟨([], false), Ev.pos hb (Ev.now _), Ev.pos hb (Ev.now _), by simp⟩
  have hdl := diffs_length l
  have hdI : AllI (diffs l) := by
    intro x hx
    unfold diffs at hx
    obtain ⟨i, _, rfl⟩ := List.mem_map.1 hx
    exact ⟨wrap64_lo _, wrap64_hi _⟩
  have rest : ∀ x : Int, -9223372036854775808 ≤ x → x ≤ 9223372036854775807 → ∃ r : List Int × Bool, Ev (fun k => spec_DeltaPack.j0 k l x) r ∧ Ev (fun k => impl_DeltaPack.j0 k l x) r ∧ r.1.length ≤ 1000000 := by
    intro x x0 x1
    obtain ⟨a, a1, a2, a3, _⟩ := UvarPut_ev 128
    obtain ⟨b, b1, b2, b3, _⟩ := UvarPut_ev 4
    obtain ⟨c, c1, c2, c3, _⟩ := UvarPut_ev (l.length : Int)
    obtain ⟨z, z1, z2, z3, _⟩ := ZigPut_ev x x0 x1
    obtain ⟨r, r1, r2, r3⟩ := delta_loop (diffs l) hdI (by omega) 16 0 (a ++ b ++ c ++ z) (by omega) (by simp; omega) (by omega)
    refine ⟨r, ?_, ?_, by simp at r3; omega⟩
    · refine Ev.step (fun k => by rw [spec_DeltaPack.j0]) ?_
      exact Ev.bind a1 (Ev.bind b1 (Ev.pos (by omega) (Ev.here rfl (Ev.bind c1 (Ev.pos (by simp; omega) (Ev.here rfl (Ev.bind z1 (Ev.pos (by simp; omega) (Ev.bind (spec_Differences_ev l hl) r1)))))))))
    · refine Ev.step (fun k => by rw [impl_DeltaPack.j0]) ?_
      exact Ev.bind a2 (Ev.bind b2 (Ev.pos (by omega) (Ev.here rfl (Ev.bind c2 (Ev.pos (by simp; omega) (Ev.here rfl (Ev.bind z2 (Ev.pos (by simp; omega) (Ev.bind (impl_Differences_ev l hl) (by simpa using r2))))))))))
  by_cases h0 : (l.length : Int) > 0
  · obtain ⟨r, r1, r2, r3⟩ := rest (rd l 0) (rd_I hI 0).1 (rd_I hI 0).2
    exact ⟨r, Ev.neg hb (Ev.pos h0 (Ev.pos h0 r1)), Ev.neg hb (Ev.pos h0 (Ev.pos h0 r2)), r3⟩
  · obtain ⟨r, r1, r2, r3⟩ := rest 0 (by omega) (by omega)
    exact ⟨r, Ev.neg hb (Ev.neg h0 r1), Ev.neg hb (Ev.neg h0 r2), r3⟩
/-- The sizes of texts, and their bytes one behind the other. -/
def lens (T : List ByteArray) : List Int := T.map fun s => (s.size : Int)
def flatB (T : List ByteArray) : List Int := T.flatMap bytesOf
theorem lens_length (T : List ByteArray) : (lens T).length = T.length := by simp [lens]
theorem take_snoc_ {α : Type} (T : List α) (i : Nat) (h : i < T.length) : T.take (i + 1) = T.take i ++ [T[i]] := List.take_succ_eq_append_getElem h
theorem flatB_snoc (T : List ByteArray) (i : Nat) (h : i < T.length) : flatB (T.take (i + 1)) = flatB (T.take i) ++ bytesOf T[i] := by
  unfold flatB; rw [take_snoc_ T i h, List.flatMap_append]; congr 1; simp
theorem lens_snoc (T : List ByteArray) (i : Nat) (h : i < T.length) : lens (T.take (i + 1)) = lens (T.take i) ++ [(T[i].size : Int)] := by
  unfold lens; rw [take_snoc_ T i h, List.map_append]; rfl
theorem flatB_le (T : List ByteArray) (hs : ∀ s ∈ T, s.size ≤ 40) : (flatB T).length ≤ 40 * T.length := by
  induction T with
  | nil => simp [flatB]
  | cons s T ih =>
    have h1 := ih (fun x hx => hs x (List.mem_cons_of_mem _ hx))
    have h2 := hs s (List.mem_cons_self)
    have e : flatB (s :: T) = bytesOf s ++ flatB T := by simp [flatB]
    rw [e, List.length_append, bytesOf_length, List.length_cons]
    omega
theorem flatB_take_le (T : List ByteArray) (hs : ∀ s ∈ T, s.size ≤ 40) (i : Nat) (hi : i ≤ T.length) : (flatB (T.take i)).length ≤ 40 * i := by
  have := flatB_le (T.take i) (fun s h => hs s (List.mem_of_mem_take h))
  rw [List.length_take] at this
  have e : min i T.length = i := by omega
  rwa [e] at this
theorem texts_loop {γ : Type} (L : Nat → List Int → Int → Option γ) (T : List ByteArray) (hs : ∀ s ∈ T, s.size ≤ 40) (r : γ) (s0 : List Int)
    (hL : ∀ (i : Nat) (s : List Int) (h : i < T.length), s.length ≤ s0.length + 40 * i → T[i].size ≤ 40 → Ev (fun k => L k (s ++ bytesOf T[i]) (i + 1 : Nat)) r → Ev (fun k => L k s (i : Int)) r)
    (h : Ev (fun k => L k (s0 ++ flatB T) (T.length : Int)) r) : Ev (fun k => L k s0 0) r := by
  have key : ∀ (d i : Nat), i + d = T.length → Ev (fun k => L k (s0 ++ flatB (T.take i)) (i : Int)) r := by
    intro d
    induction d with
    | zero =>
      intro i hi
      obtain rfl : i = T.length := by omega
      rw [List.take_length]; exact h
    | succ d ih =>
      intro i hi
      have h1 := ih (i + 1) (by omega)
      rw [flatB_snoc T i (by omega), ← List.append_assoc] at h1
      exact hL i _ (by omega) (by rw [List.length_append]; have := flatB_take_le T hs i (by omega); omega) (hs _ (List.getElem_mem _)) h1
  have := key T.length 0 (by omega)
  simpa [flatB] using this
def lpR (d : List Int × Bool) (T : List ByteArray) : List Int × Bool := if d.2 = true then (d.1 ++ flatB T, true) else ([], false)
theorem l10Pack_ev (T : List ByteArray) (hn : T.length ≤ 2000) (hs : ∀ s ∈ T, s.size ≤ 40) (d : List Int × Bool) (hd : Ev (fun k => spec_DeltaPack.f k (lens T)) d) (hdl : d.1.length ≤ 1000000) : Ev (fun k => spec_l10Pack.f k T) (lpR d T) := by
  unfold spec_l10Pack.f
  refine append_loop (fun k s i => spec_l10Pack.l0 k T s i) (fun i => ((T.getD i ByteArray.empty).size : Int)) T.length _ (fun i s hi hl hr => ?_) ?_
  · refine Ev.step (fun k => by rw [spec_l10Pack.l0]) ?_
    refine Ev.pos (by omega) (Ev.pos (by omega) (Ev.pos (by omega) ?_))
    rw [wrap64_id (x := (i : Int) + 1) (by omega) (by omega)]
    simpa [rdOf] using hr
  · refine Ev.step (fun k => by rw [spec_l10Pack.l0]) ?_
    refine Ev.neg (by omega) ?_
    have e : (List.range T.length).map (fun i => ((T.getD i ByteArray.empty).size : Int)) = lens T := by
      apply List.ext_getElem?
      intro j
      by_cases hj : j < T.length
      · simp [lens, hj, List.getD]
      · simp [lens, hj]
    rw [e]
    refine Ev.bind hd ?_
    by_cases h2 : d.2 = true
    · rw [show lpR d T = (d.1 ++ flatB T, true) from if_pos h2]
      refine Ev.pos h2 ?_
      refine texts_loop (fun k s i => spec_l10Pack.l1 k T s i) T hs _ d.1 (fun i s hi hl hsz hr => ?_) ?_
      · refine Ev.step (fun k => by rw [spec_l10Pack.l1]) ?_
        have e2 : rdOf ByteArray.empty T (i : Int) = T[i] := rdOf_eq (by simpa using hi)
        refine Ev.pos (by omega) (Ev.pos (by omega) ?_)
        rw [e2]
        refine Ev.pos (by omega) ?_
        rw [wrap64_id (x := (i : Int) + 1) (by omega) (by omega)]
        simpa using hr
      · exact Ev.step (fun k => by rw [spec_l10Pack.l1]) (by exact Ev.neg (by omega) (Ev.now _))
    · rw [show lpR d T = ([], false) from if_neg h2]
      exact Ev.neg h2 (Ev.now _)
def textsOf (l : List S55) : List ByteArray := l.map fun v => v.f1
theorem textsOf_length (l : List S55) : (textsOf l).length = l.length := by simp [textsOf]
theorem textsOf_at (l : List S55) (i : Nat) (h : i < l.length) : (textsOf l)[i]'(by rw [textsOf_length]; exact h) = (rd_T55 l (i : Int)).f1 := by
  have e : rd_T55 l (i : Int) = l[i] := getD_eq (by simpa using h)
  rw [e]; simp [textsOf]
theorem vsOk_texts {l : List S55} (h : vsOk 6 l = true) : l.length ≤ 2000 ∧ ∀ s ∈ textsOf l, s.size ≤ 40 := by
  simp only [vsOk, Bool.and_eq_true, decide_eq_true_eq] at h
  refine ⟨by omega, fun s hs => ?_⟩
  obtain ⟨v, hv, rfl⟩ := List.mem_map.1 hs
  have h1 := List.all_eq_true.1 h.2 v hv
  simp [vOk] at h1
  omega
def lengthR (l : List S55) (d : List Int × Bool) : List Int × Bool := if vsOk 6 l = true then lpR d (textsOf l) else ([], false)
theorem impl_LengthPack_ev (l : List S55) (hl : l.length ≤ 1048576) (d : List Int × Bool) (hd : Ev (fun k => impl_DeltaPack.f k (lens (textsOf l))) d) (hdl : d.1.length ≤ 1000000) : Ev (fun k => impl_LengthPack.f k l) (lengthR l d) := by
  unfold impl_LengthPack.f lengthR
  refine Ev.bind (impl_valsOk_ev 6 l hl) ?_
  by_cases h : vsOk 6 l = true
  · rw [if_pos h]
    obtain ⟨h1, h2⟩ := vsOk_texts h
    refine Ev.pos h ?_
    have hT := textsOf_length l
    have key : ∀ (n i : Nat), i + n = l.length → Ev (fun k => impl_LengthPack.l0 k (lens ((textsOf l).take i)) (flatB ((textsOf l).take i)) l (l.length : Int) (i : Int)) (lpR d (textsOf l)) := by
      intro n
      induction n with
      | zero =>
        intro i hi
        obtain rfl : i = l.length := by omega
        refine Ev.step (fun k => by rw [impl_LengthPack.l0]) ?_
        have ht : (textsOf l).take l.length = textsOf l := by rw [← hT]; exact List.take_length
        rw [ht]
        refine Ev.neg (by omega) (Ev.bind hd ?_)
        have hf := flatB_le (textsOf l) h2
        by_cases h3 : d.2 = true
        · rw [show lpR d (textsOf l) = (d.1 ++ flatB (textsOf l), true) from if_pos h3]
          exact Ev.pos h3 (Ev.pos (by omega) (Ev.now _))
        · rw [show lpR d (textsOf l) = ([], false) from if_neg h3]
          exact Ev.neg h3 (Ev.now _)
      | succ n ih =>
        intro i hi
        have hlt : i < l.length := by omega
        have h3 := ih (i + 1) (by omega)
        have hat := textsOf_at l i hlt
        rw [flatB_snoc _ i (by omega), lens_snoc _ i (by omega), hat] at h3
        have hf := flatB_take_le (textsOf l) h2 i (by omega)
        have hz : (rd_T55 l (i : Int)).f1.size ≤ 40 := by rw [← hat]; exact h2 _ (List.getElem_mem _)
        have hn : (lens ((textsOf l).take i)).length = i := by rw [lens_length, List.length_take]; omega
        refine Ev.step (fun k => by rw [impl_LengthPack.l0]) ?_
        refine Ev.pos (by omega) (Ev.pos (by omega) (Ev.pos (by omega) (Ev.pos (by omega) (Ev.pos (by omega) ?_))))
        rw [wrap64_id (x := (i : Int) + 1) (by omega) (by omega)]
        simpa using h3
    have := key l.length 0 (by omega)
    simpa [lens, flatB] using this
  · rw [if_neg h]
    exact Ev.neg h (Ev.now _)
/-- How many bytes two texts have in common at their begin. -/
def comF (a b : ByteArray) : Nat → Nat → Nat
  | 0, n => n
  | f + 1, n => if n < a.size ∧ n < b.size ∧ bt a (n : Int) = bt b (n : Int) then comF a b f (n + 1) else n
theorem comF_le (a b : ByteArray) : ∀ f n, n ≤ b.size → comF a b f n ≤ b.size
  | 0, n, h => h
  | f + 1, n, h => by
    unfold comF
    split
    · exact comF_le a b f (n + 1) (by omega)
    · exact h
def com (a b : ByteArray) : Nat := comF a b b.size 0
theorem com_le (a b : ByteArray) : com a b ≤ b.size := comF_le a b _ _ (Nat.zero_le _)
theorem impl_Common_ev (a b : ByteArray) (hb : b.size ≤ 1048576) : Ev (fun k => impl_Common.f k a b) (com a b : Int) := by
  unfold impl_Common.f com
  have key : ∀ f n : Nat, n ≤ b.size → b.size - n ≤ f → Ev (fun k => impl_Common.l0 k a b (n : Int)) (comF a b f n : Int) := by
    intro f
    induction f with
    | zero =>
      intro n h1 h2
      refine Ev.step (fun k => by rw [impl_Common.l0]) ?_
      by_cases ha : (n : Int) < (a.size : Int)
      · exact Ev.pos ha (Ev.neg (by omega) (Ev.now _))
      · exact Ev.neg ha (Ev.now _)
    | succ f ih =>
      intro n h1 h2
      refine Ev.step (fun k => by rw [impl_Common.l0]) ?_
      unfold comF
      by_cases ha : n < a.size
      · refine Ev.pos (by omega) ?_
        by_cases hb' : n < b.size
        · refine Ev.pos (by omega) (Ev.pos (by omega) ?_)
          by_cases he : bt a (n : Int) = bt b (n : Int)
          · rw [if_pos ⟨ha, hb', he⟩]
            refine Ev.pos he ?_
            rw [wrap64_id (x := (n : Int) + 1) (by omega) (by omega)]
            simpa using ih (n + 1) (by omega) (by omega)
          · rw [if_neg (fun h => he h.2.2)]
            exact Ev.neg he (Ev.now _)
        · rw [if_neg (fun h => hb' h.2.1)]
          exact Ev.neg (by omega) (Ev.now _)
      · rw [if_neg (fun h => ha h.1)]
        exact Ev.neg (by omega) (Ev.now _)
  simpa using key b.size 0 (by omega) (by omega)
theorem common_same : ∀ (k : Nat) (a b : ByteArray) (i : Int), spec_Common.l0 k a b i = impl_Common.l0 k a b i
  | 0, _, _, _ => by rw [spec_Common.l0, impl_Common.l0]
  | k + 1, a, b, i => by rw [spec_Common.l0, impl_Common.l0]; simp only [common_same k]
theorem spec_Common_ev (a b : ByteArray) (hb : b.size ≤ 1048576) : Ev (fun k => spec_Common.f k a b) (com a b : Int) :=
  Ev.congr (fun k => by unfold spec_Common.f impl_Common.f; exact common_same k _ _ _) (impl_Common_ev a b hb)
def FSt : Type := List Int × List ByteArray × ByteArray
def fstep (l : List S55) (i : Nat) (s : FSt) : FSt :=
  (s.1 ++ [(com s.2.2 (rd_T55 l (i : Int)).f1 : Int)], s.2.1 ++ [((rd_T55 l (i : Int)).f1).extract (com s.2.2 (rd_T55 l (i : Int)).f1) ((rd_T55 l (i : Int)).f1).size], (rd_T55 l (i : Int)).f1)
def fz : FSt := (([] : List Int), ([] : List ByteArray), (⟨#[]⟩ : ByteArray))
def fAll (l : List S55) : FSt := (List.range l.length).foldl (fun s i => fstep l i s) fz
def FOk (i : Nat) (s : FSt) : Prop := s.1.length = i ∧ s.2.1.length = i ∧ (∀ x ∈ s.1, (0 : Int) ≤ x ∧ x ≤ 40) ∧ ∀ t ∈ s.2.1, t.size ≤ 40
def mkV (t : ByteArray) : S55 := ⟨0, t⟩
theorem rd_size (l : List S55) (h : ∀ s ∈ textsOf l, s.size ≤ 40) (i : Nat) (hi : i < l.length) : (rd_T55 l (i : Int)).f1.size ≤ 40 := by
  rw [← textsOf_at l i hi]; exact h _ (List.getElem_mem _)
theorem fstep_ok (l : List S55) (h : ∀ s ∈ textsOf l, s.size ≤ 40) (i : Nat) (s : FSt) (hi : i < l.length) (hs : FOk i s) : FOk (i + 1) (fstep l i s) := by
  have hz := rd_size l h i hi
  have hc := com_le s.2.2 (rd_T55 l (i : Int)).f1
  refine ⟨by simp [fstep, hs.1], by simp [fstep, hs.2.1], fun x hx => ?_, fun t ht => ?_⟩
  · simp only [fstep, List.mem_append, List.mem_singleton] at hx
    rcases hx with hx | rfl
    · exact hs.2.2.1 x hx
    · omega
  · simp only [fstep, List.mem_append, List.mem_singleton] at ht
    rcases ht with ht | rfl
    · exact hs.2.2.2 t ht
    · rw [ByteArray.size_extract]; omega
theorem fz_ok : FOk 0 fz := ⟨rfl, rfl, fun x hx => absurd hx (by simp [fz]), fun x hx => absurd hx (by simp [fz])⟩
theorem fAll_ok (l : List S55) (h : ∀ s ∈ textsOf l, s.size ≤ 40) : FOk l.length (fAll l) := by
  unfold fAll
  have : ∀ m, m ≤ l.length → FOk m ((List.range m).foldl (fun s i => fstep l i s) fz) := by
    intro m
    induction m with
    | zero => intro _; exact fz_ok
    | succ m ih => intro hm; rw [List.range_succ, List.foldl_append]; exact fstep_ok l h m _ (by omega) (ih (by omega))
  exact this _ (Nat.le_refl _)
theorem mkV_texts (T : List ByteArray) : textsOf (T.map mkV) = T := by
  unfold textsOf
  rw [List.map_map]
  have : ((fun v => v.f1) ∘ mkV : ByteArray → ByteArray) = id := rfl
  rw [this, List.map_id]
theorem mkV_ok (T : List ByteArray) (hn : T.length ≤ 2000) (h : ∀ t ∈ T, t.size ≤ 40) : vsOk 6 (T.map mkV) = true := by
  have h1 : (T.map mkV).all (vOk 6) = true := by
    rw [List.all_eq_true]
    intro v hv
    obtain ⟨t, ht, rfl⟩ := List.mem_map.1 hv
    have := h t ht
    simp [vOk, mkV]; exact decide_eq_true (by omega)
  simp only [vsOk, h1, List.length_map]
  rw [decide_eq_true (by omega)]
  rfl
def frontR (d e : List Int × Bool) : List Int × Bool := if d.2 = true then (if e.2 = true then (d.1 ++ e.1, true) else ([], false)) else ([], false)
theorem FrontPack_both (l : List S55) (hl : l.length ≤ 1048576) : ∃ r : List Int × Bool, Ev (fun k => spec_FrontPack.f k l) r ∧ Ev (fun k => impl_FrontPack.f k l) r ∧ r.1.length ≤ 4000000 := by
  unfold spec_FrontPack.f impl_FrontPack.f
  cases hv : vsOk 6 l with
  | false =>
    refine ⟨([], false), ?_, ?_, by simp⟩
    · exact Ev.bind (spec_l6Vals_ev 6 l hl) (Ev.neg (by rw [hv]; decide) (Ev.now _))
    · exact Ev.bind (impl_valsOk_ev 6 l hl) (Ev.neg (by rw [hv]; decide) (Ev.now _))
  | true =>
    obtain ⟨hn, hz⟩ := vsOk_texts hv
    have hF := fAll_ok l hz
    have hI1 : AllI (fAll l).1 := fun x hx => by have := hF.2.2.1 x hx; omega
    have hI2 : AllI (lens (fAll l).2.1) := fun x hx => by
      obtain ⟨t, ht, rfl⟩ := List.mem_map.1 hx
      have := hF.2.2.2 t ht
      omega
    have h21 := hF.2.1
    obtain ⟨d, d1, d2, d3⟩ := DeltaPack_both (fAll l).1 hI1 (by rw [hF.1]; exact hl)
    obtain ⟨e0, e1, e2, e3⟩ := DeltaPack_both (lens (fAll l).2.1) hI2 (by rw [lens_length, h21]; exact hl)
    have f1 := l10Pack_ev (fAll l).2.1 (by omega) hF.2.2.2 e0 e1 e3
    have f2 := impl_LengthPack_ev ((fAll l).2.1.map mkV) (by rw [List.length_map]; omega) e0 (by rw [mkV_texts]; exact e2) e3
    have fe : lengthR ((fAll l).2.1.map mkV) e0 = lpR e0 (fAll l).2.1 := by
      unfold lengthR
      rw [if_pos (mkV_ok _ (by omega) hF.2.2.2), mkV_texts]
    rw [fe] at f2
    have hfl : (lpR e0 (fAll l).2.1).1.length ≤ 1080000 := by
      have := flatB_le (fAll l).2.1 hF.2.2.2
      unfold lpR
      split
      · simp only [List.length_append]; omega
      · simp
    generalize hfe : lpR e0 (fAll l).2.1 = e at f1 f2 hfl
    have hrl : (frontR d e).1.length ≤ 4000000 := by
      unfold frontR
      split
      · split
        · simp only [List.length_append]; omega
        · simp
      · simp
    have ite2 : ∀ (x : List Int × Bool), x = frontR d e → Ev (fun _ => if d.2 = true then (if e.2 = true then (if d.1.length + e.1.length < 140737488355328 then (some ((d.1 ++ e.1), true)) else (none)) else (some (([] : List Int), false))) else (some (([] : List Int), false))) x := by
      intro x hx
      refine Ev.const ?_
      rw [hx]
      unfold frontR
      by_cases h1 : d.2 = true
      · by_cases h2 : e.2 = true
        · simp only [if_pos h1, if_pos h2]; rw [if_pos (by omega)]
        · simp only [if_pos h1, if_neg h2]
      · simp only [if_neg h1]
    refine ⟨frontR d e, ?_, ?_, hrl⟩
    · refine Ev.bind (spec_l6Vals_ev 6 l hl) (Ev.pos hv ?_)
      refine loop_inv (fun k (s : FSt) i => spec_FrontPack.l0 k l s.1 s.2.1 s.2.2 i) (fun i s => fstep l i s) l.length _ FOk fz ⟨rfl, rfl, fun x hx => absurd hx (by simp [fz]), fun x hx => absurd hx (by simp [fz])⟩ (fun i s hi hs => fstep_ok l hz i s hi hs) (fun i s hi hs hr => ?_) (fun s hs he => ?_)
      · have hsz := rd_size l hz i hi
        have hc := com_le s.2.2 (rd_T55 l (i : Int)).f1
        have hs1 := hs.1
        have hs2 := hs.2.1
        refine Ev.step (fun k => by rw [spec_FrontPack.l0]) ?_
        refine Ev.pos (by omega) (Ev.pos (by omega) (Ev.bind (spec_Common_ev _ _ (by omega)) (Ev.pos (by omega) (Ev.pos (by omega) (Ev.pos (by omega) (Ev.pos (by omega) ?_))))))
        rw [wrap64_id (x := (i : Int) + 1) (by omega) (by omega)]
        simpa [fstep] using hr
      · have he2 : s = fAll l := he
        subst he2
        refine Ev.step (fun k => by rw [spec_FrontPack.l0]) ?_
        exact Ev.neg (by omega) (Ev.bind d1 (Ev.bind f1 (ite2 _ rfl)))
    · refine Ev.bind (impl_valsOk_ev 6 l hl) (Ev.pos hv ?_)
      refine loop_inv (fun k (s : FSt) i => impl_FrontPack.l0 k s.1 (s.2.1.map mkV) s.2.2 l (l.length : Int) i) (fun i s => fstep l i s) l.length _ FOk fz ⟨rfl, rfl, fun x hx => absurd hx (by simp [fz]), fun x hx => absurd hx (by simp [fz])⟩ (fun i s hi hs => fstep_ok l hz i s hi hs) (fun i s hi hs hr => ?_) (fun s hs he => ?_)
      · have hsz := rd_size l hz i hi
        have hc := com_le s.2.2 (rd_T55 l (i : Int)).f1
        have hs1 := hs.1
        have hs2 := hs.2.1
        refine Ev.step (fun k => by rw [impl_FrontPack.l0]) ?_
        refine Ev.pos (by omega) (Ev.pos (by omega) (Ev.pos (by omega) (Ev.bind (impl_Common_ev _ _ (by omega)) (Ev.pos (by omega) (Ev.pos (by omega) (Ev.pos (by omega) (Ev.pos (by rw [List.length_map]; omega) ?_)))))))
        rw [wrap64_id (x := (i : Int) + 1) (by omega) (by omega)]
        simpa [fstep, mkV] using hr
      · have he2 : s = fAll l := he
        subst he2
        refine Ev.step (fun k => by rw [impl_FrontPack.l0]) ?_
        exact Ev.neg (by omega) (Ev.bind d2 (Ev.bind f2 (ite2 _ rfl)))
theorem FnExactFrontPack : ∀ (x0 : List (S50)), (x0.length ≤ maxLen ∧ ∀ y ∈ x0, w50 y) → ∃ k, laws_FnExactFrontPack.f k x0 = some true := by
  intro p hp
  refine Ev.rounds ?_
  unfold laws_FnExactFrontPack.f
  obtain ⟨r1, s1, c1, l1⟩ := szValS_ev p hp.1 hp.2 1048576 (by omega) (by omega)
  refine Ev.bind s1 ?_
  by_cases n1 : r1 < 0
  · exact Ev.pos n1 (Ev.now _)
  refine Ev.neg n1 ?_
  have t1 := toValS_ev p (by omega)
  have lp : (p.map cvVal).length = p.length := by simp
  generalize p.map cvVal = P at *
  obtain ⟨r, es, ei, hr⟩ := FrontPack_both P (by omega)
  have q1 := eqValS_ev P (by omega)
  have q3 := eqByteS_ev r.1 (by omega)
  obtain ⟨m1, y1, p1, k1, _⟩ := markValS_evm P 1 (by omega) (by omega)
  obtain ⟨m3, y3, p3, k3, k4⟩ := markByteS_ev r.1 1 (by omega) (by omega)
  repeat' (first
    | with_reducible exact Ev.now _
    | with_reducible refine Ev.bind t1 ?_ | with_reducible refine Ev.bind es ?_ | with_reducible refine Ev.bind ei ?_
    | with_reducible refine Ev.bind q1 ?_ | with_reducible refine Ev.bind q3 ?_
    | with_reducible refine Ev.bind k1 ?_ | with_reducible refine Ev.bind k3 ?_ | with_reducible refine Ev.bind k4 ?_
    | refine Ev.pos (by first | rfl | omega) ?_
    | refine Ev.neg (by first | omega | decide | simp) ?_
    | refine Ev.step (fun k => by rw [laws_FnExactFrontPack.j0]) ?_
    | refine Ev.step (fun k => by rw [laws_FnExactFrontPack.j1]) ?_
    | refine Ev.step (fun k => by rw [laws_FnExactFrontPack.j2]) ?_)
end Go.Proofs.Ytnbbhfpfjbfnnaa.Pure
