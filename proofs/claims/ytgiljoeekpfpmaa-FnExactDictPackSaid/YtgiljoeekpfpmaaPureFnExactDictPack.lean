/- The pure statement of FnExactDictPack: the printed functions answer as the law says, for all arguments. No condition. -/
import Derived.Test.YtgiljoeekpfpmaaVFnExactDictPack
import Derived.Test.YtgiljoeekpfpmaaPFnExactDictPackx
import Derived.Test.YtgiljoeekpfpmaaArgFnExactDictPack
namespace Go.Proofs.Ytgiljoeekpfpmaa.Pure
open Go.RowKit Go.Proofs.Ytgiljoeekpfpmaa.PFnExactDictPack Go.Proofs.Ytgiljoeekpfpmaa.Core Go.Proofs.YtgiljoeekpfpmaaW.PrintWords Go.Proofs.YtgiljoeekpfpmaaW.PrintLast Go.Proofs.YtgiljoeekpfpmaaW.PrintMore Go.Proofs.YtgiljoeekpfpmaaW.PrintMore2 Go.Proofs.Ytgiljoeekpfpmaa.AFnExactDictPack
set_option linter.unusedVariables false
set_option linter.unusedSimpArgs false
def cvVal (x : S66) : S27 := ⟨x.f0, x.f1⟩
theorem toValS_ev (l : List S66) (hl : l.length ≤ 1048576) : Ev (fun k => laws_toValS.f k l) (l.map cvVal) := by
  unfold laws_toValS.f
  refine Ev.pos (by omega) (Ev.pos (by omega) ?_)
  refine copy_loop (fun k out i => laws_toValS.l0 k l out i) l cvVal (fun out i r h ho hr => ?_) (fun out ho => ?_) (List.replicate ((l.length : Int)).toNat z27) (by simp)
  · refine Ev.step (fun k => by rw [laws_toValS.l0]) ?_
    refine Ev.pos (by omega) (Ev.pos (by omega) (Ev.here rfl (Ev.pos (by omega) ?_)))
    rw [wrap64_id (by omega) (by omega)]
    have e : rd_T66 l (i : Int) = l[i] := getD_eq (by simpa using h)
    simp only [e]
    simpa [cvVal] using hr
  · exact Ev.step (fun k => by rw [laws_toValS.l0]) (by exact Ev.neg (by omega) (Ev.now _))
theorem szVal_some (x : S66) (hw : w66 x) (c : Int) (h0 : 0 ≤ c) (h1 : c ≤ 1048576) : ∃ r, laws_szVal.f x.f0 x.f1 c = some r ∧ r ≤ c := by
  have b0 : (x.f1.size : Int) ≤ 9223372036854775807 := by have := hw.2; unfold maxLen at this; omega
  unfold laws_szVal.f
  rw [wrap64_id (x := c - (x.f1.size : Int)) (by omega) (by omega)]
  by_cases n0 : c - (x.f1.size : Int) < 0
  · exact ⟨-1, by simp [n0], by omega⟩
  simp only [if_neg n0, Option.bind_some]
  exact ⟨_, rfl, by omega⟩
theorem szValS_ev (l : List S66) (hw : l.length ≤ maxLen) (ht : ∀ x ∈ l, w66 x) (c : Int) (h0 : 0 ≤ c) (h1 : c ≤ 1048576) : ∃ r, Ev (fun k => laws_szValS.f k l c) r ∧ r ≤ c ∧ (0 ≤ r → r + l.length ≤ c) := by
  have hm : l.length ≤ 9223372036854775807 := by unfold maxLen at hw; omega
  unfold laws_szValS.f
  rw [wrap64_id (by omega) (by omega)]
  by_cases hn : c - (l.length : Int) < 0
  · exact ⟨-1, Ev.pos hn (Ev.now _), by omega, by omega⟩
  · obtain ⟨r, hr, hrc⟩ := budget_loop (fun k c i => laws_szValS.l0 k l c i) l.length (fun c i hc0 hc1 hi => by
      have e : rd_T66 l (i : Int) = l[i] := getD_eq (by simpa using hi)
      obtain ⟨c', hc', hle⟩ := szVal_some l[i] (ht l[i] (List.getElem_mem hi)) c hc0 hc1
      refine ⟨c', hle, fun hneg => ?_, fun hpos r hr => ?_⟩
      · exact Ev.step (fun k => by rw [laws_szValS.l0]) (by exact Ev.pos (by omega) (Ev.pos (by omega) (Ev.here (by rw [e]; exact hc') (Ev.pos hneg (Ev.now _)))))
      · refine Ev.step (fun k => by rw [laws_szValS.l0]) ?_
        refine Ev.pos (by omega) (Ev.pos (by omega) (Ev.here (by rw [e]; exact hc') (Ev.neg (by omega) ?_)))
        rw [wrap64_id (by omega) (by omega)]
        simpa using hr)
      (fun c => Ev.step (fun k => by rw [laws_szValS.l0]) (by exact Ev.neg (by omega) (Ev.now _))) (c - l.length) (by omega) (by omega)
    exact ⟨r, Ev.neg hn hr, by omega, by omega⟩
theorem eqVal_ev (a : S27) : laws_eqVal.f a.f0 a.f1 a.f0 a.f1 = some true := by
  unfold laws_eqVal.f
  simp
theorem eqValS_ev (l : List S27) (hl : l.length ≤ 9223372036854775806) : Ev (fun k => laws_eqValS.f k l l) true := by
  unfold laws_eqValS.f
  refine Ev.pos rfl ?_
  refine same_loop (fun k i => laws_eqValS.l0 k l l i) l.length (fun i r h hr => ?_) ?_
  · refine Ev.step (fun k => by rw [laws_eqValS.l0]) ?_
    refine Ev.pos (by omega) (Ev.pos (by omega) (Ev.pos (by omega) (Ev.here (eqVal_ev _) (Ev.pos rfl ?_))))
    rw [wrap64_id (by omega) (by omega)]
    simpa using hr
  · exact Ev.step (fun k => by rw [laws_eqValS.l0]) (by exact Ev.neg (by omega) (Ev.now _))
theorem eqByteS_ev (l : List Int) (hl : l.length ≤ 9223372036854775806) : Ev (fun k => laws_eqByteS.f k l l) true := by
  unfold laws_eqByteS.f
  refine Ev.pos rfl ?_
  refine same_loop (fun k i => laws_eqByteS.l0 k l l i) l.length (fun i r h hr => ?_) ?_
  · refine Ev.step (fun k => by rw [laws_eqByteS.l0]) ?_
    refine Ev.pos (by omega) (Ev.pos (by omega) (Ev.pos (by omega) (Ev.pos rfl ?_)))
    rw [wrap64_id (by omega) (by omega)]
    simpa using hr
  · exact Ev.step (fun k => by rw [laws_eqByteS.l0]) (by exact Ev.neg (by omega) (Ev.now _))
theorem markByteS_ev (l : List Int) (c : Int) (hc : 0 ≤ c) (hl : c + l.length ≤ 9223372036854775806) : ∃ m ys, m = c + l.length ∧ Ev (fun k => laws_markByteS.f k l c) (m, ys) ∧ Ev (fun k => laws_heldByteS.f k ys c) m := by
  obtain ⟨m, ys, _, hm, h1, h2⟩ := marks_held 1 9223372036854775807 (by omega) (fun c (_ : Int) => c % 256) (fun k xs c i => laws_markByteS.l0 k xs c i) (fun k xs c i => laws_heldByteS.l0 k xs c i)
    (fun xs c i r h hb h0 hB hr => by
      refine Ev.step (fun k => by rw [laws_markByteS.l0]) ?_
      refine Ev.pos (by omega) (Ev.pos (by omega) ?_)
      rw [wrap64_id (x := c + 1) (by omega) (by omega), wrap64_id (x := (i : Int) + 1) (by omega) (by omega)]
      simpa using hr)
    (fun xs c => Ev.step (fun k => by rw [laws_markByteS.l0]) (by exact Ev.neg (by omega) (Ev.now _)))
    (fun xs c i r z h hb h0 hB hz hr => by
      refine Ev.step (fun k => by rw [laws_heldByteS.l0]) ?_
      refine Ev.pos (by omega) (Ev.pos (by omega) (Ev.pos (by rw [rd_eq (by simpa using h)]; simpa using hz) ?_))
      rw [wrap64_id (x := c + 1) (by omega) (by omega), wrap64_id (x := (i : Int) + 1) (by omega) (by omega)]
      simpa using hr)
    (fun xs c => Ev.step (fun k => by rw [laws_heldByteS.l0]) (by exact Ev.neg (by omega) (Ev.now _)))
    l c hc (by omega)
  exact ⟨m, ys, by omega, h1, h2⟩
theorem markText_l0_ev : ∀ (n : Nat) (c : Int) (out : ByteArray), 0 ≤ c → c < 10 ^ n → c ≤ 9223372036854775807 → out.size + n + 1 ≤ 1000 → ∃ t, Ev (fun k => laws_markText.l0 k c out) t := by
  intro n
  induction n with
  | zero =>
    intro c out h0 h1 hb hs
    obtain rfl : c = 0 := by simp at h1; omega
    exact ⟨_, Ev.step (fun k => by rw [laws_markText.l0]) (by exact Ev.neg (by omega) (Ev.pos (by omega) (Ev.now _)))⟩
  | succ n ih =>
    intro c out h0 h1 hb hs
    by_cases hc : c > 0
    · have h2 : c / 10 < 10 ^ n := by
        rw [Int.pow_succ] at h1
        exact Int.ediv_lt_of_lt_mul (by omega) h1
      obtain ⟨t, ht⟩ := ih (c / 10) (strOfNums [(wrap64 (48 + (Int.tmod c 10))) % 256] ++ out) (by omega) h2 (by omega) (by
        rw [ByteArray.size_append, strOfNums_size]; simp; omega)
      refine ⟨t, Ev.step (fun k => by rw [laws_markText.l0]) ?_⟩
      refine Ev.pos hc (Ev.here rfl (Ev.pos (by rw [strOfNums_size]; simp; omega) ?_))
      rw [Int.tdiv_eq_ediv_of_nonneg h0, wrap64_id (x := c / 10) (by omega) (by omega)]
      exact ht
    · obtain rfl : c = 0 := by omega
      exact ⟨_, Ev.step (fun k => by rw [laws_markText.l0]) (by exact Ev.neg (by omega) (Ev.pos (by omega) (Ev.now _)))⟩
theorem markText_ev (c : Int) (h : c ≤ 9223372036854775807) : ∃ t, Ev (fun k => laws_markText.f k c) t := by
  unfold laws_markText.f
  by_cases hc : c ≤ 0
  · exact ⟨_, Ev.pos hc (Ev.now _)⟩
  · obtain ⟨t, ht⟩ := markText_l0_ev 19 c (⟨#[]⟩ : ByteArray) (by omega) (by omega) h (by decide)
    exact ⟨t, Ev.neg hc ht⟩
noncomputable def mtxt (c : Int) : ByteArray := if h : c ≤ 9223372036854775807 then (markText_ev c h).choose else ByteArray.empty
theorem mtxt_ev {c : Int} (h : c ≤ 9223372036854775807) : Ev (fun k => laws_markText.f k c) (mtxt c) := by
  unfold mtxt
  rw [dif_pos h]
  exact (markText_ev c h).choose_spec
theorem markValS_evm (l : List S27) (c : Int) (hc : 0 ≤ c) (hl : c + 2 * l.length ≤ 9223372036854775806) : ∃ m ys, m = c + 2 * l.length ∧ Ev (fun k => laws_markValS.f k l c) (m, ys) ∧ True := by
  obtain ⟨m, ys, hm, h1⟩ := marks_set 2 9223372036854775807 (by omega) (fun c (_ : S27) => (⟨c, mtxt (c + 1)⟩ : S27)) (fun k xs c i => laws_markValS.l0 k xs c i)
    (fun xs c i r h hb h0 hB hr => by
      refine Ev.step (fun k => by rw [laws_markValS.l0]) ?_
      refine Ev.pos (by omega) (Ev.pos (by omega) ?_)
      rw [wrap64_id (x := c + 1) (by omega) (by omega), wrap64_id (x := c + 1 + 1) (by omega) (by omega), wrap64_id (x := (i : Int) + 1) (by omega) (by omega)]
      refine Ev.here rfl ?_
      refine Ev.bind (mtxt_ev (by omega)) ?_
      have e : c + 1 + 1 = c + 2 := by omega
      simpa [rd_T27, h, e] using hr)
    (fun xs c => Ev.step (fun k => by rw [laws_markValS.l0]) (by exact Ev.neg (by omega) (Ev.now _)))
    l c hc (by omega)
  exact ⟨m, ys, by omega, h1, trivial⟩
def tOk (t : Int) : Bool := decide (t = 0 ∨ t = 1 ∨ t = 2 ∨ t = 5 ∨ t = 6)
theorem l5Type_some (t : Int) : spec_l5Type.f t = some (tOk t) := by
  unfold spec_l5Type.f
  (repeat' split) <;> simp_all [tOk]
theorem l1In_same (x lo hi : Int) : (if x ≥ lo then some (decide (x ≤ hi)) else some false) = some (decide (lo ≤ x ∧ x ≤ hi)) := by
  by_cases h : x ≥ lo
  · rw [if_pos h]; congr 1; simp; omega
  · rw [if_neg h]; congr 1; symm; simp; omega
theorem within_some (x lo hi : Int) : impl_within.f x lo hi = some (decide (lo ≤ x ∧ x ≤ hi)) := by unfold impl_within.f; exact l1In_same x lo hi
theorem typeOk_some (t : Int) : impl_TypeOk.f t = some (tOk t) := by
  unfold impl_TypeOk.f
  rw [within_some]
  simp only [Option.bind_some]
  by_cases h : 0 ≤ t ∧ t ≤ 2
  · rw [if_pos (by simpa using h)]
    have : t = 0 ∨ t = 1 ∨ t = 2 := by omega
    rcases this with rfl | rfl | rfl <;> rfl
  · rw [if_neg (by simpa using h)]
    by_cases h5 : t = 5
    · subst h5; rfl
    · rw [if_neg h5]
      by_cases h6 : t = 6
      · subst h6; rfl
      · have h0 : t ≠ 0 := by omega
        have h1 : t ≠ 1 := by omega
        have h2 : t ≠ 2 := by omega
        simp [tOk, h0, h1, h2, h5, h6]
def wideB (t : Int) : Int := if t = 1 then 4 else if t = 2 then 8 else if t = 5 then 8 else 0
theorem wideOf_some (t : Int) : impl_wideOf.f t = some (wideB t) := by unfold impl_wideOf.f wideB; (repeat' split) <;> rfl
def noText (s : ByteArray) : Bool := s.toList == ([] : List UInt8)
def vOk (t : Int) (v : S27) : Bool :=
  if t = 0 then decide (0 ≤ v.f0 ∧ v.f0 ≤ 1) && noText v.f1
  else if t = 1 then decide (-2147483648 ≤ v.f0 ∧ v.f0 ≤ 2147483647) && noText v.f1
  else if t = 2 ∨ t = 5 then noText v.f1
  else if t = 6 then decide (v.f0 = 0) && decide ((v.f1.size : Int) ≤ 40) else false
theorem l1In_some (x lo hi : Int) : spec_l1In.f x lo hi = some (decide (lo ≤ x ∧ x ≤ hi)) := by unfold spec_l1In.f; exact l1In_same x lo hi
theorem impl_ValOk_some (t : Int) (v : S27) : impl_ValOk.f t v.f0 v.f1 = some (vOk t v) := by
  unfold impl_ValOk.f impl_isInt32.f vOk noText
  simp only [within_some, Option.bind_some]
  by_cases h0 : t = 0
  · rw [if_pos h0, if_pos h0]; by_cases h : 0 ≤ v.f0 ∧ v.f0 ≤ 1 <;> simp [h]
  rw [if_neg h0, if_neg h0]
  by_cases h1 : t = 1
  · rw [if_pos h1, if_pos h1]; by_cases h : -2147483648 ≤ v.f0 ∧ v.f0 ≤ 2147483647 <;> simp [h]
  rw [if_neg h1, if_neg h1]
  by_cases h2 : t = 2
  · rw [if_pos h2, if_pos (show t = 2 ∨ t = 5 from .inl h2)]
  rw [if_neg h2]
  by_cases h5 : t = 5
  · rw [if_pos h5, if_pos (show t = 2 ∨ t = 5 from .inr h5)]
  rw [if_neg h5, if_neg (show ¬ (t = 2 ∨ t = 5) by omega)]
  by_cases h6 : t = 6
  · rw [if_pos h6, if_pos h6]; by_cases h : v.f0 = 0 <;> simp [h]
  · rw [if_neg h6, if_neg h6]
theorem spec_ValOk_ev (t : Int) (v : S27) : Ev (fun k => spec_ValOk.f k t v.f0 v.f1) (vOk t v) := by
  refine ⟨2, fun k hk => ?_⟩
  obtain ⟨m, rfl⟩ : ∃ m, k = m + 2 := ⟨k - 2, by omega⟩
  unfold spec_ValOk.f spec_l4Int.f vOk noText
  simp only [l1In_some, Option.bind_some, spec_ValOk.j0]
  by_cases h0 : t = 0
  · rw [if_pos h0, if_pos h0]; by_cases h : 0 ≤ v.f0 ∧ v.f0 ≤ 1 <;> simp [h]
  rw [if_neg h0, if_neg h0]
  by_cases h1 : t = 1
  · rw [if_pos h1, if_pos h1]; by_cases h : -2147483648 ≤ v.f0 ∧ v.f0 ≤ 2147483647 <;> simp [h]
  rw [if_neg h1, if_neg h1]
  by_cases h2 : t = 2
  · rw [if_pos (show t = 2 ∨ t = 5 from .inl h2)]; simp [h2]
  rw [if_neg h2]
  by_cases h5 : t = 5
  · rw [if_pos (show t = 2 ∨ t = 5 from .inr h5)]; simp [h5]
  rw [if_neg (show ¬ (t = 2 ∨ t = 5) by omega)]
  by_cases h6 : t = 6
  · rw [if_pos h6]; by_cases h : v.f0 = 0 <;> simp [h, h6]
  · rw [if_neg h6]; simp [h5, h6]
def vsOk (t : Int) (l : List S27) : Bool := decide ((l.length : Int) ≤ 2000) && tOk t && l.all (vOk t)
theorem impl_valsOk_ev (t : Int) (l : List S27) (hl : l.length ≤ 1048576) : Ev (fun k => impl_valsOk.f k t l) (vsOk t l) := by
  unfold impl_valsOk.f
  have key := all_loop (fun k i => impl_valsOk.l0 k t l l (l.length : Int) i) (fun i => vOk t (l.getD i z27)) l.length false (decide ((l.length : Int) ≤ 2000) && tOk t)
    (fun i r hi hp hr => by
      have e : rd_T27 l (i : Int) = l.getD i z27 := rfl
      refine Ev.step (fun k => by rw [impl_valsOk.l0]) ?_
      refine Ev.pos (by omega) (Ev.pos (by omega) (Ev.pos (by omega) (Ev.here (impl_ValOk_some t _) ?_)))
      rw [e, hp]
      refine Ev.pos rfl ?_
      rw [wrap64_id (by omega) (by omega)]
      simpa using hr)
    (fun i hi hp => by
      have e : rd_T27 l (i : Int) = l.getD i z27 := rfl
      refine Ev.step (fun k => by rw [impl_valsOk.l0]) ?_
      refine Ev.pos (by omega) (Ev.pos (by omega) (Ev.pos (by omega) (Ev.here (impl_ValOk_some t _) ?_)))
      rw [e, hp]
      exact Ev.neg (by decide) (Ev.now _))
    (by
      refine Ev.step (fun k => by rw [impl_valsOk.l0]) ?_
      refine Ev.neg (by omega) ?_
      by_cases h : (l.length : Int) ≤ 2000
      · refine Ev.pos h (Ev.here (typeOk_some t) (Ev.const ?_))
        simp [h]
      · refine Ev.neg h (Ev.const ?_)
        simp [h])
  refine Ev.cast key ?_
  rw [all_range]
  unfold vsOk
  cases l.all (vOk t) <;> simp
theorem spec_l6Vals_ev (t : Int) (l : List S27) (hl : l.length ≤ 1048576) : Ev (fun k => spec_l6Vals.f k t l) (vsOk t l) := by
  have bad : vsOk t l = false → Ev (fun k => spec_l6Vals.j0 k t l true) (vsOk t l) := fun h => by
    rw [h]
    exact Ev.step (fun k => by rw [spec_l6Vals.j0]) (by exact Ev.pos rfl (Ev.now _))
  unfold spec_l6Vals.f
  by_cases h : (l.length : Int) > 2000
  · exact Ev.pos h (bad (by simp [vsOk]; omega))
  refine Ev.neg h (Ev.here (l5Type_some t) ?_)
  cases ht : tOk t with
  | false => exact bad (by simp [vsOk, ht])
  | true =>
    refine Ev.step (fun k => by rw [spec_l6Vals.j0]) ?_
    refine Ev.neg (by decide) ?_
    have key := all_loop (fun k i => spec_l6Vals.l0 k t l i) (fun i => vOk t (l.getD i z27)) l.length false true
      (fun i r hi hp hr => by
        have e : rd_T27 l (i : Int) = l.getD i z27 := rfl
        refine Ev.step (fun k => by rw [spec_l6Vals.l0]) ?_
        refine Ev.pos (by omega) (Ev.pos (by omega) (Ev.bind (spec_ValOk_ev t _) ?_))
        rw [e, hp]
        refine Ev.pos rfl ?_
        rw [wrap64_id (by omega) (by omega)]
        simpa using hr)
      (fun i hi hp => by
        have e : rd_T27 l (i : Int) = l.getD i z27 := rfl
        refine Ev.step (fun k => by rw [spec_l6Vals.l0]) ?_
        refine Ev.pos (by omega) (Ev.pos (by omega) (Ev.bind (spec_ValOk_ev t _) ?_))
        rw [e, hp]
        exact Ev.neg (by decide) (Ev.now _))
      (by exact Ev.step (fun k => by rw [spec_l6Vals.l0]) (by exact Ev.neg (by omega) (Ev.now _)))
    refine Ev.cast key ?_
    rw [all_range]
    have h2 : (l.length : Int) ≤ 2000 := by omega
    cases ha : l.all (vOk t) <;> simp [vsOk, ht, ha, h2]
theorem bv_ofInt_wrap (x : Int) : BitVec.ofInt 64 (wrap64 x) = BitVec.ofInt 64 x := by
  apply BitVec.eq_of_toNat_eq
  rw [BitVec.toNat_ofInt, BitVec.toNat_ofInt]
  congr 1
  unfold wrap64; omega
theorem or_wrap (a c : Nat) (ha : a < 2 ^ 64) (hc : c < 2 ^ 64) : Go.bits .or .i64 (wrap64 (a : Int)) (wrap64 (c : Int)) = wrap64 ((a ||| c : Nat) : Int) := by
  have e : Go.bits .or .i64 (wrap64 (a : Int)) (wrap64 (c : Int)) = IntKind.i64.wrap (((BitVec.ofInt 64 (wrap64 (a : Int)) ||| BitVec.ofInt 64 (wrap64 (c : Int))).toNat : Nat) : Int) := rfl
  rw [e, bv_ofInt_wrap, bv_ofInt_wrap, BitVec.ofInt_natCast, BitVec.ofInt_natCast, BitVec.toNat_or, BitVec.toNat_ofNat, BitVec.toNat_ofNat, Nat.mod_eq_of_lt ha, Nat.mod_eq_of_lt hc, IntKind.wrap_i64]
  unfold wrap64; omega
theorem or_digit (m a d : Nat) (ha : a < 2 ^ m) : a ||| d * 2 ^ m = a + d * 2 ^ m := by
  have := Nat.shiftLeft_add_eq_or_of_lt ha d
  rw [Nat.shiftLeft_eq] at this
  rw [Nat.or_comm, ← this, Nat.add_comm]
theorem emod_digit (x p : Int) (hp : 0 < p) : x % (p * 256) = x % p + (x / p) % 256 * p := by
  have h1 := Int.mul_ediv_add_emod x p
  have h2 := Int.mul_ediv_add_emod (x / p) 256
  have a0 := Int.emod_nonneg x (show p ≠ 0 by omega)
  have a1 := Int.emod_lt_of_pos x hp
  have b0 := Int.emod_nonneg (x / p) (show (256 : Int) ≠ 0 by omega)
  have b1 := Int.emod_lt_of_pos (x / p) (show (0 : Int) < 256 by omega)
  have e : x = (x % p + (x / p) % 256 * p) + (p * 256) * (x / p / 256) := by
    have e3 : p * (x / p) = p * (256 * (x / p / 256) + x / p % 256) := by rw [h2]
    rw [Int.mul_add] at e3
    have e4 : p * (256 * (x / p / 256)) = (p * 256) * (x / p / 256) := by rw [Int.mul_assoc]
    have e5 : p * (x / p % 256) = x / p % 256 * p := Int.mul_comm _ _
    omega
  have m0 : 0 ≤ (x / p) % 256 * p := Int.mul_nonneg b0 (by omega)
  have m1 : (x / p) % 256 * p ≤ 255 * p := Int.mul_le_mul_of_nonneg_right (by omega) (by omega)
  generalize hr : x % p + (x / p) % 256 * p = r at *
  conv => lhs; rw [e]
  rw [Int.add_mul_emod_self_left, Int.emod_eq_of_lt (by omega) (by omega)]
theorem bits_and_mask (x m : Int) (k : Nat) (hk : k ≤ 63) (hm : m = 2 ^ k - 1) : Go.bits .and .i64 x m = x % 2 ^ k := by
  have p0 : (0 : Int) < 2 ^ k := Int.pow_pos (by omega)
  have eP : (2 : Int) ^ k = ((2 ^ k : Nat) : Int) := by push_cast; rfl
  have h63 : 2 ^ k ≤ 2 ^ 63 := Nat.pow_le_pow_right (by omega) hk
  have n0 : 0 < 2 ^ k := Nat.pow_pos (by omega)
  have e : Go.bits .and .i64 x m = IntKind.i64.wrap ((((BitVec.ofInt 64 x) &&& (BitVec.ofInt 64 m)).toNat : Nat) : Int) := rfl
  rw [e, BitVec.toNat_and, BitVec.toNat_ofInt, BitVec.toNat_ofInt]
  have em : (m % ((2 ^ 64 : Nat) : Int)).toNat = 2 ^ k - 1 := by
    rw [hm, eP, Int.emod_eq_of_lt (by omega) (by omega)]; omega
  rw [em, Nat.and_two_pow_sub_one_eq_mod]
  have hlt : (x % ((2 ^ 64 : Nat) : Int)).toNat % 2 ^ k < 2 ^ k := Nat.mod_lt _ n0
  rw [wraps_i64 _ (by omega) (by omega), eP, Int.natCast_emod]
  rw [Int.toNat_of_nonneg (Int.emod_nonneg _ (by omega))]
  apply Int.emod_emod_of_dvd
  refine Int.natCast_dvd_natCast.2 (Nat.pow_dvd_pow 2 (by omega))
theorem u64_id {x : Int} (h0 : 0 ≤ x) (h1 : x < 18446744073709551616) : IntKind.u64.wrap x = x := by rw [IntKind.wrap_u64]; omega
theorem bits_and_mask_u (x m : Int) (k : Nat) (hk : k ≤ 63) (hm : m = 2 ^ k - 1) : Go.bits .and .u64 x m = x % 2 ^ k := by
  have p0 : (0 : Int) < 2 ^ k := Int.pow_pos (by omega)
  have eP : (2 : Int) ^ k = ((2 ^ k : Nat) : Int) := by push_cast; rfl
  have h63 : 2 ^ k ≤ 2 ^ 63 := Nat.pow_le_pow_right (by omega) hk
  have n0 : 0 < 2 ^ k := Nat.pow_pos (by omega)
  have e : Go.bits .and .u64 x m = IntKind.u64.wrap ((((BitVec.ofInt 64 x) &&& (BitVec.ofInt 64 m)).toNat : Nat) : Int) := rfl
  rw [e, BitVec.toNat_and, BitVec.toNat_ofInt, BitVec.toNat_ofInt]
  have em : (m % ((2 ^ 64 : Nat) : Int)).toNat = 2 ^ k - 1 := by
    rw [hm, eP, Int.emod_eq_of_lt (by omega) (by omega)]; omega
  rw [em, Nat.and_two_pow_sub_one_eq_mod]
  have hlt : (x % ((2 ^ 64 : Nat) : Int)).toNat % 2 ^ k < 2 ^ k := Nat.mod_lt _ n0
  rw [u64_id (by omega) (by omega), eP, Int.natCast_emod]
  rw [Int.toNat_of_nonneg (Int.emod_nonneg _ (by omega))]
  apply Int.emod_emod_of_dvd
  refine Int.natCast_dvd_natCast.2 (Nat.pow_dvd_pow 2 (by omega))
theorem l2Down7 (x : Int) : spec_l2Down.f x 7 = some (x / 128 % 144115188075855872) := by
  unfold spec_l2Down.f
  rw [if_neg (by decide), if_pos (by decide), wrap64_id (x := 64 - 7) (by omega) (by omega), if_pos (by decide)]
  have e1 : shr .i64 x 7 = x / 128 := rfl
  have e2 : shl .i64 1 (64 - 7) = 144115188075855872 := by
    unfold shl; rw [IntKind.wrap_i64]; rfl
  rw [e1, e2, wrap64_id (by omega) (by omega), bits_and_mask (x / 128) (144115188075855872 - 1) 57 (by omega) rfl]; rfl
theorem l2Down1 (x : Int) : spec_l2Down.f x 1 = some (x / 2 % 9223372036854775808) := by
  unfold spec_l2Down.f
  rw [if_neg (by decide), if_pos (by decide), wrap64_id (x := 64 - 1) (by omega) (by omega), if_pos (by decide)]
  have e1 : shr .i64 x 1 = x / 2 := rfl
  have e2 : shl .i64 1 (64 - 1) = -9223372036854775808 := by
    unfold shl; rw [IntKind.wrap_i64]; rfl
  have e3 : wrap64 (-9223372036854775808 - 1) = 9223372036854775807 := by unfold wrap64; omega
  rw [e1, e2, e3, bits_and_mask (x / 2) 9223372036854775807 63 (by omega) rfl]; rfl
theorem or_u64_128 (x : Int) (h0 : 0 ≤ x) (h1 : x < 128) : Go.bits .or .u64 x 128 = x + 128 := by
  obtain ⟨n, rfl⟩ := Int.eq_ofNat_of_zero_le h0
  have hn : n < 2 ^ 7 := by omega
  have e := (bits_nat .u64 64 (by decide) (fun m h0 h1 => u64_id h0 (by simpa using h1)) n 128 (by omega) (by decide)).2
  have e2 : n ||| 128 = n + 128 := by
    have := or_digit 7 n 1 hn
    simpa using this
  have e3 : Go.bits .or .u64 (n : Int) 128 = ((n ||| 128 : Nat) : Int) := e
  rw [e3, e2]; rfl
/-- The varint of X: both sides print the same bytes. -/
theorem uvarPut_both : ∀ (d : Nat) (x X : Int) (out : List Int), 0 ≤ X → X < 18446744073709551616 → X = x % 18446744073709551616 → X < 128 ^ (d + 1) → out.length + d ≤ 10000 →
    ∃ r : List Int, Ev (fun k => spec_UvarPut.l0 k x (out)) r ∧ Ev (fun k => impl_UvarPut.l0 k X out) r ∧ r.length ≤ out.length + d + 1 ∧ (∀ y ∈ r, y ∈ out ∨ (0 ≤ y ∧ y ≤ 255)) := by
  intro d
  induction d with
  | zero =>
    intro x X out h0 h1 hx hd ho
    have hX : X < 128 := by simpa using hd
    refine ⟨out ++ [X], ?_, ?_, by simp, ?_⟩
    · refine Ev.step (fun k => by rw [spec_UvarPut.l0]) ?_
      refine Ev.here (l2Down7 x) (Ev.pos (by omega) (Ev.pos (by omega) (Ev.const ?_)))
      have : x % 256 = X := by omega
      rw [this]
    · refine Ev.step (fun k => by rw [impl_UvarPut.l0]) ?_
      refine Ev.neg (by omega) (Ev.pos (by omega) (Ev.const ?_))
      have : X % 256 = X := by omega
      rw [this]
    · intro y hy
      rcases List.mem_append.1 hy with h | h
      · exact .inl h
      · obtain rfl := List.mem_singleton.1 h; right; omega
  | succ d ih =>
    intro x X out h0 h1 hx hd ho
    by_cases hX : X < 128
    · refine ⟨out ++ [X], ?_, ?_, by simp, ?_⟩
      · refine Ev.step (fun k => by rw [spec_UvarPut.l0]) ?_
        refine Ev.here (l2Down7 x) (Ev.pos (by omega) (Ev.pos (by omega) (Ev.const ?_)))
        have : x % 256 = X := by omega
        rw [this]
      · refine Ev.step (fun k => by rw [impl_UvarPut.l0]) ?_
        refine Ev.neg (by omega) (Ev.pos (by omega) (Ev.const ?_))
        have : X % 256 = X := by omega
        rw [this]
      · intro y hy
        rcases List.mem_append.1 hy with h | h
        · exact .inl h
        · obtain rfl := List.mem_singleton.1 h; right; omega
    · have hpow : X / 128 < 128 ^ (d + 1) := by
        rw [Int.pow_succ] at hd
        omega
      have hq : x / 128 % 144115188075855872 = X / 128 := by omega
      obtain ⟨r, r1, r2, r3, r4⟩ := ih (x / 128 % 144115188075855872) (X / 128) (out ++ [X % 128 + 128]) (by omega) (by omega) (by rw [hq]; omega) hpow (by simp; omega)
      refine ⟨r, ?_, ?_, by simp at r3; omega, ?_⟩
      · refine Ev.step (fun k => by rw [spec_UvarPut.l0]) ?_
        refine Ev.here (l2Down7 x) (Ev.neg (by omega) (Ev.pos (by omega) (Ev.here (l2Down7 x) ?_)))
        rw [bits_and_mask x 127 7 (by omega) rfl]
        have e : (2 : Int) ^ 7 = 128 := rfl
        rw [e, wrap64_id (by omega) (by omega)]
        have e2 : (x % 128 + 128) % 256 = X % 128 + 128 := by omega
        rw [e2]; exact r1
      · refine Ev.step (fun k => by rw [impl_UvarPut.l0]) ?_
        refine Ev.pos (by omega) (Ev.pos (by omega) ?_)
        rw [bits_and_mask_u X 127 7 (by omega) rfl]
        have e : (2 : Int) ^ 7 = 128 := rfl
        rw [e, or_u64_128 _ (by omega) (by omega)]
        have e2 : (X % 128 + 128) % 256 = X % 128 + 128 := by omega
        rw [e2]; exact r2
      · intro y hy
        rcases r4 y hy with h | h
        · rcases List.mem_append.1 h with h | h
          · exact .inl h
          · obtain rfl := List.mem_singleton.1 h; right; omega
        · exact .inr h
theorem UvarPut_ev (x : Int) : ∃ r : List Int, Ev (fun k => spec_UvarPut.f k x) r ∧ Ev (fun k => impl_UvarPut.f k x) r ∧ r.length ≤ 10 ∧ (∀ y ∈ r, 0 ≤ y ∧ y ≤ 255) := by
  unfold spec_UvarPut.f impl_UvarPut.f
  have e : IntKind.u64.wrap x = x % 18446744073709551616 := by rw [IntKind.wrap_u64]
  rw [e]
  obtain ⟨r, r1, r2, r3, r4⟩ := uvarPut_both 9 x (x % 18446744073709551616) [] (by omega) (by omega) rfl (by
    have : (128 : Int) ^ (9 + 1) = 1180591620717411303424 := by decide
    omega) (by simp)
  exact ⟨r, r1, r2, by simpa using r3, fun y hy => by
    rcases r4 y hy with h | h
    · cases h
    · exact h⟩
theorem Zig_both (x : Int) (h0 : -9223372036854775808 ≤ x) (h1 : x ≤ 9223372036854775807) : ∃ z, spec_Zig.f x = some z ∧ impl_Zig.f x = some z := by
  unfold spec_Zig.f impl_Zig.f
  by_cases h : x < 0
  · rw [if_pos h]
    refine ⟨_, rfl, ?_⟩
    have e : x / 9223372036854775808 = -1 := by omega
    rw [e]
    simp only [Go.bits, BitVec.xor_comm]
  · rw [if_neg h]
    refine ⟨_, rfl, ?_⟩
    have e : x / 9223372036854775808 = 0 := by omega
    rw [e]
    have e2 : Go.bits .xor .i64 (wrap64 (x * 2)) 0 = IntKind.i64.wrap ((((BitVec.ofInt 64 (wrap64 (x * 2))) ^^^ (BitVec.ofInt 64 0)).toNat : Nat) : Int) := rfl
    have e3 : (BitVec.ofInt 64 0) = 0#64 := rfl
    have e4 : Go.bits .xor .i64 (wrap64 (x * 2)) 0 = wrap64 (x * 2) := by
      rw [e2, e3, BitVec.xor_zero, BitVec.toNat_ofInt, IntKind.wrap_i64]
      unfold wrap64; omega
    rw [e4]
theorem ZigPut_ev (x : Int) (h0 : -9223372036854775808 ≤ x) (h1 : x ≤ 9223372036854775807) : ∃ r : List Int, Ev (fun k => spec_ZigPut.f k x) r ∧ Ev (fun k => impl_ZigPut.f k x) r ∧ r.length ≤ 10 ∧ (∀ y ∈ r, 0 ≤ y ∧ y ≤ 255) := by
  obtain ⟨z, z1, z2⟩ := Zig_both x h0 h1
  obtain ⟨r, r1, r2, r3, r4⟩ := UvarPut_ev z
  unfold spec_ZigPut.f impl_ZigPut.f
  exact ⟨r, Ev.here z1 (Ev.bind r1 (Ev.now _)), Ev.here z2 (Ev.bind r2 (Ev.now _)), r3, r4⟩
theorem or_u8_range (a b : Int) : 0 ≤ Go.bits .or .u8 a b ∧ Go.bits .or .u8 a b ≤ 255 := by
  have e : Go.bits .or .u8 a b = IntKind.u8.wrap (((BitVec.ofInt 8 a ||| BitVec.ofInt 8 b).toNat : Nat) : Int) := rfl
  rw [e, IntKind.wrap_u8]; omega
theorem or_u8_zero (a : Int) (h0 : 0 ≤ a) (h1 : a ≤ 255) : Go.bits .or .u8 a 0 = a := by
  have e : Go.bits .or .u8 a 0 = IntKind.u8.wrap (((BitVec.ofInt 8 a ||| BitVec.ofInt 8 0).toNat : Nat) : Int) := rfl
  have z : BitVec.ofInt 8 0 = 0#8 := rfl
  rw [e, z, BitVec.or_zero, BitVec.toNat_ofInt, IntKind.wrap_u8]; omega
theorem and_one (x : Int) : Go.bits .and .i64 x 1 = x % 2 := bits_and_mask x 1 1 (by omega) rfl
/-- Bit k of number i is put into its place. -/
def bput (l : List Int) (w i k : Nat) (out : List Int) : List Int :=
  out.set ((i * w + k) / 8) (Go.bits .or .u8 (rd out (((i * w + k) / 8 : Nat) : Int)) (shl .u8 ((shr .i64 (rd l (i : Int)) (k : Int)) % 2) (((i * w + k) % 8 : Nat) : Int)))
def brow (l : List Int) (w i : Nat) (out : List Int) : List Int := (List.range w).foldl (fun o k => bput l w i k o) out
def bitsR (l : List Int) (w : Nat) : List Int := (List.range l.length).foldl (fun o i => brow l w i o) (List.replicate ((l.length * w + 7) / 8) 0)
def BOk (n : Nat) (out : List Int) : Prop := out.length = n ∧ ∀ x ∈ out, 0 ≤ x ∧ x ≤ 255
theorem bput_ok {n : Nat} {l : List Int} {w i k : Nat} {out : List Int} (h : BOk n out) : BOk n (bput l w i k out) := by
  refine ⟨by simpa [bput] using h.1, fun x hx => ?_⟩
  unfold bput at hx
  rcases List.mem_or_eq_of_mem_set hx with h' | rfl
  · exact h.2 x h'
  · exact or_u8_range _ _
theorem brow_ok {n : Nat} {l : List Int} {w i : Nat} : ∀ (m : Nat) {out : List Int}, BOk n out → BOk n ((List.range m).foldl (fun o k => bput l w i k o) out) := by
  intro m
  induction m with
  | zero => intro out h; exact h
  | succ m ih => intro out h; rw [List.range_succ, List.foldl_append]; exact bput_ok (ih h)
theorem bput_skip {n : Nat} {l : List Int} {w i k : Nat} {out : List Int} (h : BOk n out) (hb : (shr .i64 (rd l (i : Int)) (k : Int)) % 2 = 0) (hi : (i * w + k) / 8 < n) : bput l w i k out = out := by
  unfold bput
  rw [hb]
  have e : shl .u8 0 (((i * w + k) % 8 : Nat) : Int) = 0 := by unfold shl; rw [Int.zero_mul, IntKind.wrap_u8]; rfl
  have hl : (i * w + k) / 8 < out.length := by rw [h.1]; exact hi
  have er : rd out (((i * w + k) / 8 : Nat) : Int) = out[(i * w + k) / 8] := rd_eq (by omega)
  have hm := h.2 _ (List.getElem_mem hl)
  rw [e, er, or_u8_zero _ hm.1 hm.2, List.set_getElem_self]
theorem bitsR_ok (l : List Int) (w : Nat) : BOk ((l.length * w + 7) / 8) (bitsR l w) := by
  unfold bitsR
  have : ∀ m, BOk ((l.length * w + 7) / 8) ((List.range m).foldl (fun o i => brow l w i o) (List.replicate ((l.length * w + 7) / 8) 0)) := by
    intro m
    induction m with
    | zero => exact ⟨by simp, fun x hx => by obtain rfl := List.eq_of_mem_replicate hx; omega⟩
    | succ m ih => rw [List.range_succ, List.foldl_append]; exact brow_ok w ih
  exact this _
theorem pos_facts (l : List Int) (hl : l.length ≤ 4000) (w : Nat) (hw : w ≤ 64) (i k : Nat) (hi : i < l.length) (hk : k < w) :
    (wrap64 ((i : Int) * (w : Int)) + (k : Int)) = ((i * w + k : Nat) : Int) ∧ i * w + k < l.length * w ∧ l.length * w ≤ 256000 := by
  have h1 : (i + 1) * w ≤ l.length * w := Nat.mul_le_mul_right _ hi
  rw [Nat.add_mul, Nat.one_mul] at h1
  have h2 : l.length * w ≤ 4000 * 64 := Nat.mul_le_mul hl hw
  have hc : ((i : Int) * (w : Int)) = ((i * w : Nat) : Int) := by push_cast; rfl
  rw [hc, wrap64_id (by omega) (by omega)]
  exact ⟨by push_cast; rfl, by omega, by omega⟩
theorem impl_packed_ev (l : List Int) (hl : l.length ≤ 4000) (w : Nat) (hw : w ≤ 64) : Ev (fun k => impl_packed.f k l (w : Int)) (bitsR l w) := by
  have h2 : l.length * w ≤ 4000 * 64 := Nat.mul_le_mul hl hw
  have hc : ((l.length : Int) * (w : Int)) = ((l.length * w : Nat) : Int) := by push_cast; rfl
  have hN : wrap64 (Int.tdiv (wrap64 (wrap64 ((l.length : Int) * (w : Int)) + 7)) 8) = (((l.length * w + 7) / 8 : Nat) : Int) := by
    rw [hc, wrap64_id (x := ((l.length * w : Nat) : Int)) (by omega) (by omega), wrap64_id (x := ((l.length * w : Nat) : Int) + 7) (by omega) (by omega), Int.tdiv_eq_ediv_of_nonneg (by omega), wrap64_id (by omega) (by omega)]
    omega
  unfold impl_packed.f
  rw [hN]
  refine Ev.pos (by omega) (Ev.pos (by omega) ?_)
  rw [Int.toNat_natCast]
  refine loop_inv (fun k out i => impl_packed.l0 k (w : Int) out l (l.length : Int) i) (fun i out => brow l w i out) l.length _ (fun _ out => BOk ((l.length * w + 7) / 8) out) _ ⟨by simp, fun x hx => by obtain rfl := List.eq_of_mem_replicate hx; omega⟩ (fun i out hi ho => brow_ok w ho) (fun i out hi ho hr => ?_) (fun out ho he => ?_)
  · refine Ev.step (fun k => by rw [impl_packed.l0]) ?_
    refine Ev.pos (by omega) (Ev.pos (by omega) (Ev.pos (by omega) ?_))
    refine loop_inv (fun n o k => impl_packed.l1 n (w : Int) o (i : Int) (rd l (i : Int)) l (l.length : Int) (i : Int) (w : Int) k) (fun k o => bput l w i k o) w _ (fun _ o => BOk ((l.length * w + 7) / 8) o) out ho (fun k o _ h => bput_ok h) (fun k o hk hok hr2 => ?_) (fun o hok he => ?_)
    · obtain ⟨p1, p2, p3⟩ := pos_facts l hl w hw i k hi hk
      refine Ev.step (fun k => by rw [impl_packed.l1]) ?_
      rw [wrap64_id (x := (k : Int) + 1) (by omega) (by omega), p1, and_one]
      have hr3 : Ev (fun n => impl_packed.l1 n (w : Int) (bput l w i k o) (i : Int) (rd l (i : Int)) l (l.length : Int) (i : Int) (w : Int) ((k : Int) + 1)) (bitsR l w) := by simpa using hr2
      rw [wrap64_id (x := ((i * w + k : Nat) : Int)) (by omega) (by omega), Int.tdiv_eq_ediv_of_nonneg (by omega), Int.tmod_eq_emod_of_nonneg (by omega)]
      have e1 : wrap64 (((i * w + k : Nat) : Int) / 8) = (((i * w + k) / 8 : Nat) : Int) := by rw [wrap64_id (by omega) (by omega)]; omega
      have e2 : ((i * w + k : Nat) : Int) % 8 = (((i * w + k) % 8 : Nat) : Int) := by omega
      have e3 : (shr .i64 (rd l (i : Int)) (k : Int)) % 2 % 256 = (shr .i64 (rd l (i : Int)) (k : Int)) % 2 := by omega
      rw [e1, e2, e3]
      have hlen := hok.1
      refine Ev.pos (by omega) (Ev.pos (by omega) (Ev.pos (by omega) (Ev.pos (by omega) (Ev.pos (by omega) ?_))))
      unfold bput at hr3
      rw [Int.toNat_natCast]
      exact hr3
    · refine Ev.step (fun k => by rw [impl_packed.l1]) ?_
      refine Ev.neg (by omega) ?_
      rw [wrap64_id (x := (i : Int) + 1) (by omega) (by omega), he]
      have : (List.range w).foldl (fun o k => bput l w i k o) out = brow l w i out := rfl
      rw [this]
      simpa using hr
  · refine Ev.step (fun k => by rw [impl_packed.l0]) ?_
    refine Ev.neg (by omega) (Ev.const ?_)
    rw [he]; rfl
theorem spec_BitsPack_ok (l : List Int) (hl : l.length ≤ 2000) (w : Nat) (hw : w ≤ 62) (hb : ∀ x ∈ l, 0 ≤ x ∧ shr .i64 x (w : Int) = 0) : Ev (fun k => spec_BitsPack.f k l (w : Int)) (bitsR l w, true) := by
  have h2 : l.length * w ≤ 2000 * 64 := Nat.mul_le_mul hl (by omega)
  have hc : ((l.length : Int) * (w : Int)) = ((l.length * w : Nat) : Int) := by push_cast; rfl
  have hN : spec_BitsSize.f (l.length : Int) (w : Int) = some (((l.length * w + 7) / 8 : Nat) : Int) := by
    unfold spec_BitsSize.f
    simp only [l1In_some, Option.bind_some]
    rw [decide_eq_true (show (0 : Int) ≤ (l.length : Int) ∧ (l.length : Int) ≤ 2000 by omega), decide_eq_true (show (0 : Int) ≤ (w : Int) ∧ (w : Int) ≤ 62 by omega), if_pos rfl, if_pos rfl]
    rw [hc, wrap64_id (x := ((l.length * w : Nat) : Int)) (by omega) (by omega), wrap64_id (x := ((l.length * w : Nat) : Int) + 7) (by omega) (by omega), Int.tdiv_eq_ediv_of_nonneg (by omega), wrap64_id (by omega) (by omega)]
    congr 1
  unfold spec_BitsPack.f
  refine Ev.here hN (Ev.neg (by omega) (Ev.pos (by omega) (Ev.pos (by omega) ?_)))
  rw [Int.toNat_natCast]
  refine loop_inv (fun k out i => spec_BitsPack.l0 k l (w : Int) out i) (fun i out => brow l w i out) l.length _ (fun _ out => BOk ((l.length * w + 7) / 8) out) _ ⟨by simp, fun x hx => by obtain rfl := List.eq_of_mem_replicate hx; omega⟩ (fun i out hi ho => brow_ok w ho) (fun i out hi ho hr => ?_) (fun out ho he => ?_)
  · refine Ev.step (fun k => by rw [spec_BitsPack.l0]) ?_
    have hbi : 0 ≤ rd l (i : Int) ∧ shr .i64 (rd l (i : Int)) (w : Int) = 0 := by rw [rd_eq (by simpa using hi)]; exact hb _ (List.getElem_mem _)
    refine Ev.pos (by omega) (Ev.pos (by omega) (Ev.neg (by omega) (Ev.pos (by omega) ?_)))
    refine Ev.step (fun k => by rw [spec_BitsPack.j1]) ?_
    refine Ev.neg (by rw [hbi.2]; decide) ?_
    refine loop_inv (fun n o k => spec_BitsPack.l1 n l (w : Int) o (i : Int) k) (fun k o => bput l w i k o) w _ (fun _ o => BOk ((l.length * w + 7) / 8) o) out ho (fun k o _ h => bput_ok h) (fun k o hk hok hr2 => ?_) (fun o hok he => ?_)
    · obtain ⟨p1, p2, p3⟩ := pos_facts l (by omega) w (by omega) i k hi hk
      refine Ev.step (fun k => by rw [spec_BitsPack.l1]) ?_
      refine Ev.pos (by omega) (Ev.pos (by omega) (Ev.pos (by omega) (Ev.pos (by omega) ?_)))
      rw [wrap64_id (x := (k : Int) + 1) (by omega) (by omega), p1, and_one]
      have hr3 : Ev (fun n => spec_BitsPack.l1 n l (w : Int) (bput l w i k o) (i : Int) ((k : Int) + 1)) (bitsR l w, true) := by simpa using hr2
      by_cases hb : (shr .i64 (rd l (i : Int)) (k : Int)) % 2 = 0
      · refine Ev.neg (by omega) ?_
        rw [bput_skip hok hb (by omega)] at hr3
        exact hr3
      · have hb1 : (shr .i64 (rd l (i : Int)) (k : Int)) % 2 = 1 := by omega
        rw [wrap64_id (x := ((i * w + k : Nat) : Int)) (by omega) (by omega), Int.tdiv_eq_ediv_of_nonneg (by omega), Int.tmod_eq_emod_of_nonneg (by omega)]
        have e1 : wrap64 (((i * w + k : Nat) : Int) / 8) = (((i * w + k) / 8 : Nat) : Int) := by rw [wrap64_id (by omega) (by omega)]; omega
        have e2 : ((i * w + k : Nat) : Int) % 8 = (((i * w + k) % 8 : Nat) : Int) := by omega
        rw [e1, e2]
        have hlen := hok.1
        refine Ev.pos hb1 (Ev.pos (by omega) (Ev.pos (by omega) (Ev.pos (by omega) ?_)))
        unfold bput at hr3
        rw [hb1] at hr3
        rw [Int.toNat_natCast]
        exact hr3
    · refine Ev.step (fun k => by rw [spec_BitsPack.l1]) ?_
      refine Ev.neg (by omega) ?_
      rw [wrap64_id (x := (i : Int) + 1) (by omega) (by omega), he]
      have : (List.range w).foldl (fun o k => bput l w i k o) out = brow l w i out := rfl
      rw [this]
      simpa using hr
  · refine Ev.step (fun k => by rw [spec_BitsPack.l0]) ?_
    refine Ev.neg (by omega) (Ev.const ?_)
    rw [he]; rfl
/-- The bytes of a number, the low ones first. -/
def wbytes (x : Int) (n : Nat) : List Int := (List.range n).map fun (k : Nat) => (shr .i64 x (8 * (k : Int))) % 256
theorem wbytes_length (x : Int) (n : Nat) : (wbytes x n).length = n := by simp [wbytes]
theorem spec_WordPut_ev (x : Int) (n : Nat) (hn : n ≤ 8) : Ev (fun k => spec_WordPut.f k x (n : Int)) (wbytes x n) := by
  unfold spec_WordPut.f
  refine append_loop (fun k s i => spec_WordPut.l0 k x (n : Int) s i) (fun (i : Nat) => (shr .i64 x (8 * (i : Int))) % 256) n _ (fun i s hi hl hr => ?_) ?_
  · refine Ev.step (fun k => by rw [spec_WordPut.l0]) ?_
    refine Ev.pos (by omega) (Ev.here (l1In_some _ _ _) (Ev.pos (by simp; omega) ?_))
    rw [wrap64_id (x := 8 * (i : Int)) (by omega) (by omega), wrap64_id (x := (i : Int) + 1) (by omega) (by omega)]
    refine Ev.pos (by omega) (Ev.pos (by omega) ?_)
    simpa using hr
  · exact Ev.step (fun k => by rw [spec_WordPut.l0]) (by exact Ev.neg (by omega) (Ev.now _))
theorem impl_WordPut_ev (x : Int) (n : Nat) (hn : n ≤ 8) : Ev (fun k => impl_WordPut.f k x (n : Int)) (wbytes x n) := by
  unfold impl_WordPut.f
  refine Ev.here (within_some _ _ _) ?_
  by_cases h0 : n = 0
  · subst h0
    exact Ev.neg (by simp) (Ev.now _)
  refine Ev.pos (by simp; omega) ?_
  refine append_loop (fun k s i => impl_WordPut.l0 k x s (n : Int) i) (fun (i : Nat) => (shr .i64 x (8 * (i : Int))) % 256) n _ (fun i s hi hl hr => ?_) ?_
  · refine Ev.step (fun k => by rw [impl_WordPut.l0]) ?_
    rw [wrap64_id (x := 8 * (i : Int)) (by omega) (by omega), wrap64_id (x := (i : Int) + 1) (by omega) (by omega)]
    refine Ev.pos (by omega) (Ev.pos (by omega) (Ev.pos (by omega) ?_))
    simpa using hr
  · exact Ev.step (fun k => by rw [impl_WordPut.l0]) (by exact Ev.neg (by omega) (Ev.now _))
theorem flat_snoc_ {α β : Type} (g : α → List β) (T : List α) (i : Nat) (h : i < T.length) : (T.take (i + 1)).flatMap g = (T.take i).flatMap g ++ g T[i] := by
  rw [List.take_succ_eq_append_getElem h, List.flatMap_append]; congr 1; simp
theorem flat_le_ {α β : Type} (g : α → List β) (c : Nat) (T : List α) (hc : ∀ x ∈ T, (g x).length ≤ c) : (T.flatMap g).length ≤ c * T.length := by
  induction T with
  | nil => simp
  | cons s T ih =>
    have h1 := ih (fun x hx => hc x (List.mem_cons_of_mem _ hx))
    have h2 := hc s (List.mem_cons_self)
    rw [List.flatMap_cons, List.length_append, List.length_cons, Nat.mul_add]
    omega
/-- A loop that appends some rows, one behind the other. -/
theorem flat_loop {α β γ : Type} (L : Nat → List β → Int → Option γ) (g : α → List β) (c : Nat) (T : List α) (hc : ∀ x ∈ T, (g x).length ≤ c) (r : γ) (s0 : List β)
    (hL : ∀ (i : Nat) (s : List β) (h : i < T.length), s.length ≤ s0.length + c * i → (g T[i]).length ≤ c → Ev (fun k => L k (s ++ g T[i]) (i + 1 : Nat)) r → Ev (fun k => L k s (i : Int)) r)
    (h : Ev (fun k => L k (s0 ++ T.flatMap g) (T.length : Int)) r) : Ev (fun k => L k s0 0) r := by
  have key : ∀ (d i : Nat), i + d = T.length → Ev (fun k => L k (s0 ++ (T.take i).flatMap g) (i : Int)) r := by
    intro d
    induction d with
    | zero =>
      intro i hi
      obtain rfl : i = T.length := by omega
      rw [List.take_length]; exact h
    | succ d ih =>
      intro i hi
      have h1 := ih (i + 1) (by omega)
      rw [flat_snoc_ g T i (by omega), ← List.append_assoc] at h1
      refine hL i _ (by omega) ?_ (hc _ (List.getElem_mem _)) h1
      have h2 := flat_le_ g c (T.take i) (fun s hs => hc s (List.mem_of_mem_take hs))
      rw [List.length_take] at h2
      have e : min i T.length = i := by omega
      rw [e] at h2
      rw [List.length_append]; omega
  have := key T.length 0 (by omega)
  simpa using this
def pbytes (t : Int) (v : S27) : List Int := if t = 6 then wbytes (v.f1.size : Int) 4 ++ bytesOf v.f1 else wbytes v.f0 (wideB t).toNat
def numsB (l : List S27) : List Int := l.map fun v => v.f0
def plainR (t : Int) (l : List S27) : List Int × Bool := if vsOk t l = true then (if t = 0 then (bitsR (numsB l) 1, true) else (l.flatMap (pbytes t), true)) else ([], false)
theorem pbytes_le (t : Int) (l : List S27) (h : vsOk t l = true) : ∀ v ∈ l, (pbytes t v).length ≤ 44 := by
  intro v hv
  simp only [vsOk, Bool.and_eq_true, decide_eq_true_eq] at h
  have h1 := List.all_eq_true.1 h.2 v hv
  unfold pbytes
  by_cases h6 : t = 6
  · rw [if_pos h6, List.length_append, wbytes_length, bytesOf_length]
    subst h6
    simp [vOk] at h1
    omega
  · rw [if_neg h6, wbytes_length]
    have : wideB t ≤ 8 := by unfold wideB; split <;> (try split) <;> (try split) <;> omega
    omega
theorem vsOk_type {t : Int} {l : List S27} (h : vsOk t l = true) : (t = 0 ∨ t = 1 ∨ t = 2 ∨ t = 5 ∨ t = 6) ∧ l.length ≤ 2000 := by
  simp only [vsOk, Bool.and_eq_true, decide_eq_true_eq, tOk] at h
  exact ⟨h.1.2, by omega⟩
theorem numsB_bits {l : List S27} (h : vsOk 0 l = true) : ∀ x ∈ numsB l, 0 ≤ x ∧ shr .i64 x ((1 : Nat) : Int) = 0 := by
  intro x hx
  obtain ⟨v, hv, rfl⟩ := List.mem_map.1 hx
  simp only [vsOk, Bool.and_eq_true, decide_eq_true_eq] at h
  have h1 := List.all_eq_true.1 h.2 v hv
  simp [vOk] at h1
  refine ⟨h1.1.1, ?_⟩
  have h2 : v.f0 = 0 ∨ v.f0 = 1 := by omega
  rcases h2 with h2 | h2 <;> rw [h2] <;> decide
theorem impl_numsOf_ev (l : List S27) (hl : l.length ≤ 1048576) : Ev (fun k => impl_numsOf.f k l) (numsB l) := by
  unfold impl_numsOf.f
  refine append_loop (fun k s i => impl_numsOf.l0 k s l (l.length : Int) i) (fun i => (rd_T27 l (i : Int)).f0) l.length _ (fun i s hi hls hr => ?_) ?_
  · refine Ev.step (fun k => by rw [impl_numsOf.l0]) ?_
    refine Ev.pos (by omega) (Ev.pos (by omega) (Ev.pos (by omega) (Ev.pos (by omega) ?_)))
    rw [wrap64_id (x := (i : Int) + 1) (by omega) (by omega)]
    simpa using hr
  · refine Ev.step (fun k => by rw [impl_numsOf.l0]) ?_
    refine Ev.neg (by omega) (Ev.const ?_)
    congr 1
    apply List.ext_getElem?
    intro j
    unfold numsB
    by_cases hj : j < l.length
    · have e : rd_T27 l (j : Int) = l[j] := getD_eq (by simpa using hj)
      simp [hj, e]
    · simp [hj]
theorem plainR_le (t : Int) (l : List S27) : (plainR t l).1.length ≤ 100000 := by
  unfold plainR
  by_cases h : vsOk t l = true
  · rw [if_pos h]
    obtain ⟨_, h2⟩ := vsOk_type h
    by_cases h0 : t = 0
    · rw [if_pos h0]
      have := (bitsR_ok (numsB l) 1).1
      have h3 : (numsB l).length = l.length := by simp [numsB]
      show (bitsR (numsB l) 1).length ≤ 100000
      rw [this, h3]; omega
    · rw [if_neg h0]
      have := flat_le_ (pbytes t) 44 l (pbytes_le t l h)
      show (l.flatMap (pbytes t)).length ≤ 100000
      omega
  · rw [if_neg h]; simp
theorem spec_PlainPack_ev (t : Int) (l : List S27) (hl : l.length ≤ 1048576) : Ev (fun k => spec_PlainPack.f k t l) (plainR t l) := by
  unfold spec_PlainPack.f
  refine Ev.here rfl (Ev.bind (spec_l6Vals_ev t l hl) ?_)
  rcases Bool.eq_false_or_eq_true (vsOk t l) with h | h
  case inr =>
    have h : ¬ vsOk t l = true := by rw [h]; decide
    rw [show plainR t l = ([], false) from if_neg h]
    exact Ev.neg h (Ev.now _)
  refine Ev.pos h ?_
  obtain ⟨ht, hl2⟩ := vsOk_type h
  have hle := pbytes_le t l h
  by_cases h0 : t = 0
  · subst h0
    rw [show plainR 0 l = (bitsR (numsB l) 1, true) from by unfold plainR; rw [if_pos h, if_pos rfl]]
    refine append_loop (fun k s i => spec_PlainPack.l0 k 0 l [] s i) (fun i => (rd_T27 l (i : Int)).f0) l.length _ (fun i s hi hls hr => ?_) ?_
    · refine Ev.step (fun k => by rw [spec_PlainPack.l0]) ?_
      refine Ev.pos (by omega) (Ev.pos (by omega) (Ev.pos rfl (Ev.pos (by omega) ?_)))
      rw [wrap64_id (x := (i : Int) + 1) (by omega) (by omega)]
      simpa using hr
    · have e : (List.range l.length).map (fun (i : Nat) => (rd_T27 l (i : Int)).f0) = numsB l := by
        apply List.ext_getElem?
        intro j
        unfold numsB
        by_cases hj : j < l.length
        · have e : rd_T27 l (j : Int) = l[j] := getD_eq (by simpa using hj)
          simp [hj, e]
        · simp [hj]
      rw [e]
      refine Ev.step (fun k => by rw [spec_PlainPack.l0]) ?_
      have hb := spec_BitsPack_ok (numsB l) (by simp [numsB]; exact hl2) 1 (by omega) (numsB_bits h)
      exact Ev.neg (by omega) (Ev.pos rfl (Ev.bind hb (Ev.now _)))
  · rw [show plainR t l = (l.flatMap (pbytes t), true) from by unfold plainR; rw [if_pos h, if_neg h0]]
    refine flat_loop (fun k s i => spec_PlainPack.l0 k t l s [] i) (pbytes t) 44 l hle _ [] (fun i s hi hs hsz hr => ?_) ?_
    · have e : rd_T27 l (i : Int) = l[i] := getD_eq (by simpa using hi)
      have hs2 : s.length ≤ 44 * 2000 := by simp at hs; omega
      refine Ev.step (fun k => by rw [spec_PlainPack.l0]) ?_
      rw [wrap64_id (x := (i : Int) + 1) (by omega) (by omega), e]
      refine Ev.pos (by omega) (Ev.pos (by omega) (Ev.neg h0 ?_))
      by_cases h1 : t = 1
      · have ep : pbytes t l[i] = wbytes (l[i]).f0 4 := by subst h1; rfl
        rw [ep] at hr hsz
        exact Ev.pos h1 (Ev.bind (spec_WordPut_ev _ 4 (by omega)) (Ev.pos (by omega) (by simpa using hr)))
      refine Ev.neg h1 ?_
      by_cases h6 : t = 6
      · have ep : pbytes t l[i] = wbytes ((l[i]).f1.size : Int) 4 ++ bytesOf (l[i]).f1 := by unfold pbytes; rw [if_pos h6]
        have hwl := wbytes_length ((l[i]).f1.size : Int) 4
        rw [ep] at hr hsz
        rw [List.length_append, bytesOf_length] at hsz
        rw [← List.append_assoc] at hr
        exact Ev.pos h6 (Ev.bind (spec_WordPut_ev _ 4 (by omega)) (Ev.pos (by omega) (Ev.here rfl (Ev.pos (by rw [List.length_append]; omega) (by simpa using hr)))))
      · have hw8 : wideB t = 8 := by unfold wideB; rw [if_neg h1]; split; rfl; rw [if_pos (by omega)]
        have ep : pbytes t l[i] = wbytes (l[i]).f0 8 := by unfold pbytes; rw [if_neg h6, hw8]; rfl
        rw [ep] at hr hsz
        exact Ev.neg h6 (Ev.bind (spec_WordPut_ev _ 8 (by omega)) (Ev.pos (by omega) (by simpa using hr)))
    · refine Ev.step (fun k => by rw [spec_PlainPack.l0]) ?_
      exact Ev.neg (by omega) (Ev.neg h0 (Ev.now _))
theorem impl_PlainPack_ev (t : Int) (l : List S27) (hl : l.length ≤ 1048576) : Ev (fun k => impl_PlainPack.f k t l) (plainR t l) := by
  unfold impl_PlainPack.f
  refine Ev.bind (impl_valsOk_ev t l hl) ?_
  rcases Bool.eq_false_or_eq_true (vsOk t l) with h | h
  case inr =>
    have h : ¬ vsOk t l = true := by rw [h]; decide
    rw [show plainR t l = ([], false) from if_neg h]
    exact Ev.neg h (Ev.now _)
  refine Ev.pos h ?_
  obtain ⟨ht, hl2⟩ := vsOk_type h
  have hle := pbytes_le t l h
  by_cases h0 : t = 0
  · subst h0
    rw [show plainR 0 l = (bitsR (numsB l) 1, true) from by unfold plainR; rw [if_pos h, if_pos rfl]]
    exact Ev.pos rfl (Ev.bind (impl_numsOf_ev l hl) (Ev.bind (impl_packed_ev (numsB l) (by simp [numsB]; omega) 1 (by omega)) (Ev.now _)))
  · rw [show plainR t l = (l.flatMap (pbytes t), true) from by unfold plainR; rw [if_pos h, if_neg h0]]
    refine Ev.neg h0 ?_
    refine flat_loop (fun k s i => impl_PlainPack.l0 k t s l (l.length : Int) i) (pbytes t) 44 l hle _ [] (fun i s hi hs hsz hr => ?_) ?_
    · have e : rd_T27 l (i : Int) = l[i] := getD_eq (by simpa using hi)
      have hs2 : s.length ≤ 44 * 2000 := by simp at hs; omega
      refine Ev.step (fun k => by rw [impl_PlainPack.l0]) ?_
      rw [wrap64_id (x := (i : Int) + 1) (by omega) (by omega), e]
      refine Ev.pos (by omega) (Ev.pos (by omega) (Ev.pos (by omega) ?_))
      by_cases h6 : t = 6
      · have ep : pbytes t l[i] = wbytes ((l[i]).f1.size : Int) 4 ++ bytesOf (l[i]).f1 := by unfold pbytes; rw [if_pos h6]
        have hwl := wbytes_length ((l[i]).f1.size : Int) 4
        rw [ep] at hr hsz
        rw [List.length_append, bytesOf_length] at hsz
        rw [← List.append_assoc] at hr
        exact Ev.pos h6 (Ev.bind (impl_WordPut_ev _ 4 (by omega)) (Ev.pos (by omega) (Ev.here rfl (Ev.pos (by rw [List.length_append]; omega) (by simpa using hr)))))
      · have ep : pbytes t l[i] = wbytes (l[i]).f0 (wideB t).toNat := by unfold pbytes; rw [if_neg h6]
        have hwr : 0 ≤ wideB t ∧ wideB t ≤ 8 := by unfold wideB; split <;> (try split) <;> (try split) <;> omega
        have hwn : wideB t = ((wideB t).toNat : Int) := by omega
        have hwl := wbytes_length (l[i]).f0 (wideB t).toNat
        rw [ep] at hr hsz
        refine Ev.neg h6 (Ev.here (wideOf_some t) ?_)
        rw [hwn]
        exact Ev.bind (impl_WordPut_ev _ _ (by omega)) (Ev.pos (by omega) (by simpa using hr))
    · refine Ev.step (fun k => by rw [impl_PlainPack.l0]) ?_
      exact Ev.neg (by omega) (Ev.now _)
theorem structNode_ev (id : Int) (c : Nat) (P : List (List S57)) (hn : P.length ≤ 1048576) (hc : ∀ x ∈ P, x.length ≤ c) (hcp : c * P.length ≤ 1000000000) :
    Ev (fun k => impl_structNode.f k id P) ([(⟨12, id, 0, (⟨#[]⟩ : ByteArray), (P.length : Int)⟩ : S57)] ++ P.flatMap _root_.id) := by
  unfold impl_structNode.f
  refine flat_loop (fun k s i => impl_structNode.l0 k s P (P.length : Int) i) _root_.id c P hc _ _ (fun i s hi hs hsz hr => ?_) ?_
  · have e : rd_L6 P (i : Int) = P[i] := getD_eq (by simpa using hi)
    have h1 : c * i ≤ c * P.length := Nat.mul_le_mul_left _ (by omega)
    refine Ev.step (fun k => by rw [impl_structNode.l0]) ?_
    rw [wrap64_id (x := (i : Int) + 1) (by omega) (by omega), e]
    simp only [_root_.id] at hr hsz
    have hs2 : s.length ≤ 1 + c * i := hs
    have hcc : P[i].length ≤ c * P.length := Nat.le_trans hsz (Nat.le_mul_of_pos_right _ (by omega))
    exact Ev.pos (by omega) (Ev.pos (by omega) (Ev.pos (by omega) (Ev.pos (by omega) (by simpa using hr))))
  · refine Ev.step (fun k => by rw [impl_structNode.l0]) ?_
    exact Ev.neg (by omega) (Ev.now _)
def itemB (t : Int) : Bool := decide (t = 5 ∨ t = 6 ∨ t = 8 ∨ t = 9 ∨ t = 12)
def noT (s : ByteArray) : Bool := decide (s.toList = ([] : List UInt8))
/-- Is what a node has as told, but for its parts? -/
def plainB (n : S57) : Bool :=
  if n.f0 = 1 ∨ n.f0 = 2 then decide (n.f2 = 0) && (noT n.f3 && n.f4 == 0)
  else if n.f0 = 5 then decide (-2147483648 ≤ n.f2 ∧ n.f2 ≤ 2147483647) && (noT n.f3 && n.f4 == 0)
  else if n.f0 = 6 then noT n.f3 && n.f4 == 0
  else if n.f0 = 8 then decide (n.f2 = 0) && (decide ((n.f3.size : Int) ≤ 300) && n.f4 == 0)
  else if n.f0 = 9 then noT n.f3 && (decide (n.f4 ≥ 0) && (if n.f4 = 0 then decide (n.f2 = 0) else itemB n.f2))
  else if n.f0 = 12 then decide (n.f2 = 0) && (noT n.f3 && decide (n.f4 ≥ 0)) else false
theorem isType_some (t : Int) (b : Bool) : Ev (fun k => impl_isType.f k t b) (if t = 1 ∨ t = 2 then !b else itemB t) := by
  refine ⟨1, fun k hk => ?_⟩
  obtain ⟨m, rfl⟩ : ∃ m, k = m + 1 := ⟨k - 1, by omega⟩
  unfold impl_isType.f itemB
  simp only [impl_isType.j0]
  by_cases h1 : t = 1
  · subst h1; simp
  by_cases h2 : t = 2
  · subst h2; simp
  simp only [if_neg h1, h1, h2, or_self, if_false]
  by_cases h5 : t = 5
  · subst h5; simp
  by_cases h6 : t = 6
  · subst h6; simp
  by_cases h8 : t = 8
  · subst h8; simp
  by_cases h9 : t = 9
  · subst h9; simp
  by_cases h12 : t = 12
  · subst h12; simp
  simp [h1, h2, h5, h6, h8, h9, h12]
theorem l4Item_some (t : Int) : spec_l4Item.f t = some (itemB t) := by
  unfold spec_l4Item.f spec_l4Kind.f itemB
  by_cases h1 : t = 1
  · subst h1; simp
  by_cases h2 : t = 2
  · subst h2; simp
  by_cases h5 : t = 5
  · subst h5; simp
  by_cases h6 : t = 6
  · subst h6; simp
  by_cases h8 : t = 8
  · subst h8; simp
  by_cases h9 : t = 9
  · subst h9; simp
  by_cases h12 : t = 12
  · subst h12; simp
  simp [h1, h2, h5, h6, h8, h9, h12]
theorem impl_nodeOk_ev (n : S57) : Ev (fun k => impl_nodeOk.f k n.f0 n.f1 n.f2 n.f3 n.f4) (plainB n) := by
  have nt : ∀ {g : Nat → Option Bool} {r : Bool}, (n.f3.toList = ([] : List UInt8) → Ev g r) → Ev (fun k => if n.f3.toList = ([] : List UInt8) then g k else some false) (noT n.f3 && r) := by
    intro g r h
    by_cases h3 : n.f3.toList = ([] : List UInt8)
    · rw [show noT n.f3 = true from decide_eq_true h3, Bool.true_and]; exact Ev.pos h3 (h h3)
    · rw [show noT n.f3 = false from decide_eq_false h3, Bool.false_and]; exact Ev.neg h3 (Ev.now _)
  have z : ∀ {c : Prop} [Decidable c] {g : Nat → Option Bool} {r : Bool}, (c → Ev g r) → Ev (fun k => if c then g k else some false) (decide c && r) := by
    intro c _ g r h
    by_cases hc : c
    · rw [decide_eq_true hc, Bool.true_and]; exact Ev.pos hc (h hc)
    · rw [decide_eq_false hc, Bool.false_and]; exact Ev.neg hc (Ev.now _)
  unfold impl_nodeOk.f
  by_cases h5 : n.f0 = 5
  · have e : plainB n = (decide (-2147483648 ≤ n.f2 ∧ n.f2 ≤ 2147483647) && (noT n.f3 && n.f4 == 0)) := by unfold plainB; rw [if_neg (by omega), if_pos h5]
    rw [e]
    refine Ev.pos h5 (Ev.here (a := decide (-2147483648 ≤ n.f2 ∧ n.f2 ≤ 2147483647)) (by unfold impl_isInt32.f; rw [within_some]; rfl) ?_)
    cases decide (-2147483648 ≤ n.f2 ∧ n.f2 ≤ 2147483647) with
    | true => exact Ev.pos rfl (Ev.cast (nt (fun _ => Ev.now _)) (by simp))
    | false => exact Ev.neg (by decide) (Ev.now _)
  refine Ev.neg h5 ?_
  by_cases h6 : n.f0 = 6
  · have e : plainB n = (noT n.f3 && n.f4 == 0) := by unfold plainB; rw [if_neg (by omega), if_neg h5, if_pos h6]
    rw [e]
    exact Ev.pos h6 (nt (fun _ => Ev.now _))
  refine Ev.neg h6 ?_
  by_cases h8 : n.f0 = 8
  · have e : plainB n = (decide (n.f2 = 0) && (decide ((n.f3.size : Int) ≤ 300) && n.f4 == 0)) := by unfold plainB; rw [if_neg (by omega), if_neg h5, if_neg h6, if_pos h8]
    rw [e]
    exact Ev.pos h8 (z (fun _ => z (fun _ => Ev.now _)))
  refine Ev.neg h8 ?_
  by_cases h9 : n.f0 = 9
  · have e : plainB n = (noT n.f3 && (decide (n.f4 ≥ 0) && (if n.f4 = 0 then decide (n.f2 = 0) else itemB n.f2))) := by unfold plainB; rw [if_neg (by omega), if_neg h5, if_neg h6, if_neg h8, if_pos h9]
    rw [e]
    refine Ev.pos h9 (nt (fun _ => z (fun hge => ?_)))
    have it : Ev (fun k => if n.f4 > 0 then ((impl_isType.f k n.f2 true).bind fun t => (some t)) else some false) (decide (n.f4 > 0) && itemB n.f2) := by
      refine z (fun _ => Ev.cast (Ev.bind (isType_some n.f2 true) (Ev.now _)) ?_)
      by_cases h12 : n.f2 = 1 ∨ n.f2 = 2
      · rw [if_pos h12]; unfold itemB; symm; rw [decide_eq_false (by omega)]; rfl
      · rw [if_neg h12]
    by_cases h0 : n.f4 = 0
    · have e2 : (if n.f4 = 0 then decide (n.f2 = 0) else itemB n.f2) = decide (n.f2 = 0) := if_pos h0
      rw [e2]
      refine Ev.pos h0 ?_
      by_cases h2 : n.f2 = 0
      · rw [decide_eq_true h2]; exact Ev.pos h2 (Ev.now _)
      · rw [decide_eq_false h2]; exact Ev.neg h2 (Ev.cast it (by rw [decide_eq_false (by omega)]; rfl))
    · have e2 : (if n.f4 = 0 then decide (n.f2 = 0) else itemB n.f2) = itemB n.f2 := if_neg h0
      rw [e2]
      exact Ev.neg h0 (Ev.cast it (by rw [decide_eq_true (by omega)]; rfl))
  refine Ev.neg h9 ?_
  by_cases h12 : n.f0 = 12
  · have e : plainB n = (decide (n.f2 = 0) && (noT n.f3 && decide (n.f4 ≥ 0))) := by unfold plainB; rw [if_neg (by omega), if_neg h5, if_neg h6, if_neg h8, if_neg h9, if_pos h12]
    rw [e]
    exact Ev.pos h12 (z (fun _ => nt (fun _ => Ev.now _)))
  refine Ev.neg h12 (Ev.bind (isType_some n.f0 false) ?_)
  by_cases h1 : n.f0 = 1 ∨ n.f0 = 2
  · have e : plainB n = (decide (n.f2 = 0) && (noT n.f3 && n.f4 == 0)) := by unfold plainB; rw [if_pos h1]
    rw [e, if_pos h1]
    exact Ev.pos rfl (z (fun _ => nt (fun _ => Ev.now _)))
  · have e : plainB n = false := by unfold plainB; rw [if_neg h1, if_neg h5, if_neg h6, if_neg h8, if_neg h9, if_neg h12]
    rw [e, if_neg h1]
    refine Ev.neg ?_ (Ev.now _)
    unfold itemB; rw [decide_eq_false (by omega)]; decide
theorem spec_l4Plain_ev (n : S57) : Ev (fun k => spec_l4Plain.f k n.f0 n.f1 n.f2 n.f3 n.f4) (plainB n) := by
  have nt : ∀ {g : Nat → Option Bool} {r : Bool}, (n.f3.toList = ([] : List UInt8) → Ev g r) → Ev (fun k => if n.f3.toList = ([] : List UInt8) then g k else some false) (noT n.f3 && r) := by
    intro g r h
    by_cases h3 : n.f3.toList = ([] : List UInt8)
    · rw [show noT n.f3 = true from decide_eq_true h3, Bool.true_and]; exact Ev.pos h3 (h h3)
    · rw [show noT n.f3 = false from decide_eq_false h3, Bool.false_and]; exact Ev.neg h3 (Ev.now _)
  have z : ∀ {c : Prop} [Decidable c] {g : Nat → Option Bool} {r : Bool}, (c → Ev g r) → Ev (fun k => if c then g k else some false) (decide c && r) := by
    intro c _ g r h
    by_cases hc : c
    · rw [decide_eq_true hc, Bool.true_and]; exact Ev.pos hc (h hc)
    · rw [decide_eq_false hc, Bool.false_and]; exact Ev.neg hc (Ev.now _)
  have rest : ∀ b : Bool, (b = decide (n.f0 = 1 ∨ n.f0 = 2)) → Ev (fun k => spec_l4Plain.j0 k n.f0 b n.f0 n.f1 n.f2 n.f3 n.f4) (plainB n) := by
    intro b hb
    subst hb
    refine Ev.step (fun k => by rw [spec_l4Plain.j0]) ?_
    by_cases h1 : n.f0 = 1 ∨ n.f0 = 2
    · have e : plainB n = (decide (n.f2 = 0) && (noT n.f3 && n.f4 == 0)) := by unfold plainB; rw [if_pos h1]
      rw [e]
      exact Ev.pos (decide_eq_true h1) (z (fun _ => nt (fun _ => Ev.now _)))
    refine Ev.neg (by rw [decide_eq_false h1]; decide) ?_
    by_cases h5 : n.f0 = 5
    · have e : plainB n = (decide (-2147483648 ≤ n.f2 ∧ n.f2 ≤ 2147483647) && (noT n.f3 && n.f4 == 0)) := by unfold plainB; rw [if_neg h1, if_pos h5]
      rw [e]
      refine Ev.pos h5 (Ev.here (a := decide (-2147483648 ≤ n.f2 ∧ n.f2 ≤ 2147483647)) (by unfold spec_l4Int.f; rw [l1In_some]; rfl) ?_)
      cases decide (-2147483648 ≤ n.f2 ∧ n.f2 ≤ 2147483647) with
      | true => exact Ev.pos rfl (Ev.cast (nt (fun _ => Ev.now _)) (by simp))
      | false => exact Ev.neg (by decide) (Ev.now _)
    refine Ev.neg h5 ?_
    by_cases h6 : n.f0 = 6
    · have e : plainB n = (noT n.f3 && n.f4 == 0) := by unfold plainB; rw [if_neg h1, if_neg h5, if_pos h6]
      rw [e]
      exact Ev.pos h6 (nt (fun _ => Ev.now _))
    refine Ev.neg h6 ?_
    by_cases h8 : n.f0 = 8
    · have e : plainB n = (decide (n.f2 = 0) && (decide ((n.f3.size : Int) ≤ 300) && n.f4 == 0)) := by unfold plainB; rw [if_neg h1, if_neg h5, if_neg h6, if_pos h8]
      rw [e]
      exact Ev.pos h8 (z (fun _ => z (fun _ => Ev.now _)))
    refine Ev.neg h8 ?_
    by_cases h9 : n.f0 = 9
    · have e : plainB n = (noT n.f3 && (decide (n.f4 ≥ 0) && (if n.f4 = 0 then decide (n.f2 = 0) else itemB n.f2))) := by unfold plainB; rw [if_neg h1, if_neg h5, if_neg h6, if_neg h8, if_pos h9]
      rw [e]
      refine Ev.pos h9 (nt (fun _ => z (fun hge => ?_)))
      have it : Ev (fun (_ : Nat) => if n.f4 > 0 then ((spec_l4Item.f n.f2).bind fun t => (some t)) else some false) (decide (n.f4 > 0) && itemB n.f2) :=
        z (fun _ => Ev.here (l4Item_some n.f2) (Ev.now _))
      by_cases h0 : n.f4 = 0
      · have e2 : (if n.f4 = 0 then decide (n.f2 = 0) else itemB n.f2) = decide (n.f2 = 0) := if_pos h0
        rw [e2]
        refine Ev.pos h0 ?_
        by_cases h2 : n.f2 = 0
        · rw [decide_eq_true h2]; exact Ev.pos h2 (Ev.now _)
        · rw [decide_eq_false h2]; exact Ev.neg h2 (Ev.cast it (by rw [decide_eq_false (by omega)]; rfl))
      · have e2 : (if n.f4 = 0 then decide (n.f2 = 0) else itemB n.f2) = itemB n.f2 := if_neg h0
        rw [e2]
        exact Ev.neg h0 (Ev.cast it (by rw [decide_eq_true (by omega)]; rfl))
    refine Ev.neg h9 ?_
    by_cases h12 : n.f0 = 12
    · have e : plainB n = (decide (n.f2 = 0) && (noT n.f3 && decide (n.f4 ≥ 0))) := by unfold plainB; rw [if_neg h1, if_neg h5, if_neg h6, if_neg h8, if_neg h9, if_pos h12]
      rw [e]
      exact Ev.pos h12 (z (fun _ => nt (fun _ => Ev.now _)))
    have e : plainB n = false := by unfold plainB; rw [if_neg h1, if_neg h5, if_neg h6, if_neg h8, if_neg h9, if_neg h12]
    rw [e]
    exact Ev.neg h12 (Ev.now _)
  unfold spec_l4Plain.f
  by_cases h1 : n.f0 = 1
  · exact Ev.pos h1 (rest _ (by rw [decide_eq_true (by omega)]; simp [h1]))
  · refine Ev.neg h1 (rest _ ?_)
    by_cases h2 : n.f0 = 2
    · rw [decide_eq_true (by omega)]; simp [h2]
    · rw [decide_eq_false (by omega)]; simp [h2]
theorem plainB_many {n : S57} (h : plainB n = true) : n.f0 = 9 ∨ n.f0 = 12 ∨ n.f4 = 0 := by
  unfold plainB at h
  by_cases h9 : n.f0 = 9
  · exact .inl h9
  by_cases h12 : n.f0 = 12
  · exact .inr (.inl h12)
  right; right
  (repeat' split at h) <;> simp_all
def nd (L : List S57) (p : Nat) : S57 := L.getD p z57
theorem rd_nd (L : List S57) (p : Nat) : rd_T57 L (p : Int) = nd L p := rfl
/-- Is this part as told, by the node that it is a part of, and the part ahead of it? -/
def partB (n : S57) (last : Int) (p : S57) : Bool :=
  if n.f0 = 9 then decide (p.f0 = n.f2) && decide (p.f1 = 0) else if n.f0 = 12 then decide (last < p.f1 ∧ p.f1 ≤ 1000) else true
def cLoop (L : List S57) (n : S57) (rec : Nat → Option Nat) : Nat → Nat → Int → Nat → Option Nat
  | 0, _, _, _ => none
  | f + 1, next, last, i => if (i : Int) < n.f4 then (if next < L.length then (if partB n last (nd L next) = true then (match rec next with | none => none | some x => cLoop L n rec f x (nd L next).f1 (i + 1)) else none) else none) else some next
/-- The place behind a node and its parts, at most so deep. -/
def cF (L : List S57) : Nat → Nat → Option Nat
  | 0, _ => none
  | d + 1, p => if p < L.length then (if plainB (nd L p) = true then cLoop L (nd L p) (cF L d) (L.length + 1 - p) (p + 1) 0 0 else none) else none
def oN : Option Nat → Int
  | none => -1
  | some v => v
theorem oN_some (v : Nat) : oN (some v) = (v : Int) := rfl
theorem cLoop_bound (L : List S57) (n : S57) (rec : Nat → Option Nat) (hr : ∀ q x, rec q = some x → q < x ∧ x ≤ L.length) : ∀ f next last i v, next ≤ L.length → cLoop L n rec f next last i = some v → next ≤ v ∧ v ≤ L.length
  | 0, _, _, _, _, _, h => by simp [cLoop] at h
  | f + 1, next, last, i, v, hn, h => by
    unfold cLoop at h
    split at h
    · split at h
      · split at h
        · cases hx : rec next with
          | none => rw [hx] at h; cases h
          | some x =>
            rw [hx] at h
            have h1 := hr next x hx
            have h2 := cLoop_bound L n rec hr f x _ _ v h1.2 h
            omega
        · cases h
      · cases h
    · injection h with h; omega
theorem cF_bound (L : List S57) : ∀ d p v, cF L d p = some v → p < v ∧ v ≤ L.length
  | 0, _, _, h => by simp [cF] at h
  | d + 1, p, v, h => by
    unfold cF at h
    split at h
    · split at h
      · have := cLoop_bound L _ _ (cF_bound L d) _ _ _ _ v (by omega) h; omega
      · cases h
    · cases h
theorem cLoop_mono (L : List S57) (n : S57) (rec rec' : Nat → Option Nat) (hr : ∀ q x, rec q = some x → rec' q = some x) : ∀ f next last i v, cLoop L n rec f next last i = some v → cLoop L n rec' f next last i = some v
  | 0, _, _, _, _, h => by simp [cLoop] at h
  | f + 1, next, last, i, v, h => by
    unfold cLoop at h ⊢
    split at h
    · rename_i h1
      rw [if_pos h1]
      split at h
      · rename_i h2
        rw [if_pos h2]
        split at h
        · rename_i h3
          rw [if_pos h3]
          cases hx : rec next with
          | none => rw [hx] at h; cases h
          | some x =>
            rw [hx] at h
            rw [hr next x hx]
            exact cLoop_mono L n rec rec' hr f x _ _ v h
        · cases h
      · cases h
    · rename_i h1
      rw [if_neg h1]; exact h
theorem cF_mono1 (L : List S57) : ∀ d p v, cF L d p = some v → cF L (d + 1) p = some v
  | 0, _, _, h => by simp [cF] at h
  | d + 1, p, v, h => by
    rw [cF] at h ⊢
    split at h
    · rename_i h1
      rw [if_pos h1]
      split at h
      · rename_i h2
        rw [if_pos h2]
        exact cLoop_mono L _ _ _ (cF_mono1 L d) _ _ _ _ v h
      · cases h
    · cases h
theorem cF_mono (L : List S57) (p v : Nat) (d : Nat) (h : cF L d p = some v) : ∀ e, cF L (d + e) p = some v
  | 0 => h
  | e + 1 => cF_mono1 L (d + e) p v (cF_mono L p v d h e)
theorem cF_det (L : List S57) {p v v' d d' : Nat} (h : cF L d p = some v) (h' : cF L d' p = some v') : v = v' := by
  have h1 := cF_mono L p v d h d'
  have h2 := cF_mono L p v' d' h' d
  rw [Nat.add_comm] at h2
  rw [h1] at h2
  injection h2
/-- The same, with the place behind each node noted. -/
def mLoop (L : List S57) (n : S57) (rec : Nat → List Int → Option Nat × List Int) : Nat → Nat → Int → Nat → List Int → Option Nat × List Int
  | 0, _, _, _, A => (none, A)
  | f + 1, next, last, i, A => if (i : Int) < n.f4 then (if next < L.length then (if partB n last (nd L next) = true then (match (rec next A).1 with | none => (none, (rec next A).2) | some x => mLoop L n rec f x (nd L next).f1 (i + 1) (rec next A).2) else (none, A)) else (none, A)) else (some next, A)
def mF (L : List S57) : Nat → Nat → List Int → Option Nat × List Int
  | 0, _, A => (none, A)
  | d + 1, p, A => if p < L.length then (if plainB (nd L p) = true then (match (mLoop L (nd L p) (mF L d) (L.length + 1 - p) (p + 1) 0 0 A).1 with | none => (none, (mLoop L (nd L p) (mF L d) (L.length + 1 - p) (p + 1) 0 0 A).2) | some x => (some x, (mLoop L (nd L p) (mF L d) (L.length + 1 - p) (p + 1) 0 0 A).2.set p (x : Int))) else (none, A)) else (none, A)
theorem mLoop_fst (L : List S57) (n : S57) (rec : Nat → List Int → Option Nat × List Int) (rec' : Nat → Option Nat) (hr : ∀ q A, (rec q A).1 = rec' q) : ∀ f next last i A, (mLoop L n rec f next last i A).1 = cLoop L n rec' f next last i
  | 0, _, _, _, _ => rfl
  | f + 1, next, last, i, A => by
    unfold mLoop cLoop
    by_cases h1 : (i : Int) < n.f4
    · rw [if_pos h1, if_pos h1]
      by_cases h2 : next < L.length
      · rw [if_pos h2, if_pos h2]
        by_cases h3 : partB n last (nd L next) = true
        · rw [if_pos h3, if_pos h3, hr next A]
          cases rec' next with
          | none => rfl
          | some x => exact mLoop_fst L n rec rec' hr f x _ _ _
        · rw [if_neg h3, if_neg h3]
      · rw [if_neg h2, if_neg h2]
    · rw [if_neg h1, if_neg h1]
theorem mF_fst (L : List S57) : ∀ d p A, (mF L d p A).1 = cF L d p
  | 0, _, _ => rfl
  | d + 1, p, A => by
    unfold mF cF
    by_cases h1 : p < L.length
    · rw [if_pos h1, if_pos h1]
      by_cases h2 : plainB (nd L p) = true
      · rw [if_pos h2, if_pos h2, mLoop_fst L _ _ (cF L d) (fun q A => mF_fst L d q A)]
        cases cLoop L (nd L p) (cF L d) (L.length + 1 - p) (p + 1) 0 0 <;> rfl
      · rw [if_neg h2, if_neg h2]
    · rw [if_neg h1, if_neg h1]
theorem mLoop_len (L : List S57) (n : S57) (rec : Nat → List Int → Option Nat × List Int) (hr : ∀ q A, (rec q A).2.length = A.length) : ∀ f next last i A, (mLoop L n rec f next last i A).2.length = A.length
  | 0, _, _, _, _ => rfl
  | f + 1, next, last, i, A => by
    unfold mLoop
    split
    · split
      · split
        · cases (rec next A).1 with
          | none => exact hr next A
          | some x => exact (mLoop_len L n rec hr f x _ _ _).trans (hr next A)
        · rfl
      · rfl
    · rfl
theorem mF_len (L : List S57) : ∀ d p A, (mF L d p A).2.length = A.length
  | 0, _, _ => rfl
  | d + 1, p, A => by
    unfold mF
    have h := mLoop_len L (nd L p) (mF L d) (mF_len L d) (L.length + 1 - p) (p + 1) 0 0 A
    split
    · split
      · cases (mLoop L (nd L p) (mF L d) (L.length + 1 - p) (p + 1) 0 0 A).1 with
        | none => exact h
        | some x => show ((mLoop L (nd L p) (mF L d) (L.length + 1 - p) (p + 1) 0 0 A).2.set p (x : Int)).length = _; rw [List.length_set]; exact h
      · rfl
    · rfl
/-- What is noted between two places. -/
def Noted (L : List S57) (a b : Nat) (A B : List Int) : Prop := (∀ q, q < a ∨ b ≤ q → B[q]? = A[q]?) ∧ ∀ q, a ≤ q → q < b → ∃ (x : Nat) (e : Nat), B[q]? = some (x : Int) ∧ cF L e q = some x
theorem mLoop_noted (L : List S57) (n : S57) (d : Nat) (hr : ∀ q A v, q < L.length → A.length = L.length → cF L d q = some v → Noted L q v A (mF L d q A).2) : ∀ f next last i A v, next ≤ L.length → A.length = L.length → cLoop L n (cF L d) f next last i = some v → Noted L next v A (mLoop L n (mF L d) f next last i A).2
  | 0, _, _, _, _, _, _, _, h => by simp [cLoop] at h
  | f + 1, next, last, i, A, v, hn, hA, h => by
    unfold cLoop at h
    unfold mLoop
    by_cases h1 : (i : Int) < n.f4
    · rw [if_pos h1] at h ⊢
      by_cases h2 : next < L.length
      · rw [if_pos h2] at h ⊢
        by_cases h3 : partB n last (nd L next) = true
        · rw [if_pos h3] at h ⊢
          rw [mF_fst]
          cases hx : cF L d next with
          | none => rw [hx] at h; cases h
          | some x =>
            rw [hx] at h
            have hb := cF_bound L d next x hx
            have n1 := hr next A x h2 hA hx
            have n2 := mLoop_noted L n d hr f x _ _ (mF L d next A).2 v hb.2 (by rw [mF_len]; exact hA) h
            have hv := cLoop_bound L n (cF L d) (cF_bound L d) f x _ _ v hb.2 h
            refine ⟨fun q hq => (n2.1 q (by omega)).trans (n1.1 q (by omega)), fun q h4 h5 => ?_⟩
            by_cases h6 : q < x
            · obtain ⟨y, e, e1, e2⟩ := n1.2 q h4 h6
              exact ⟨y, e, (n2.1 q (by omega)).trans e1, e2⟩
            · exact n2.2 q (by omega) h5
        · rw [if_neg h3] at h; cases h
      · rw [if_neg h2] at h; cases h
    · rw [if_neg h1] at h ⊢
      injection h with h
      subst h
      exact ⟨fun _ _ => rfl, fun q h4 h5 => by omega⟩
theorem mF_noted (L : List S57) : ∀ d p A v, p < L.length → A.length = L.length → cF L d p = some v → Noted L p v A (mF L d p A).2
  | 0, _, _, _, _, _, h => by simp [cF] at h
  | d + 1, p, A, v, hp, hA, h => by
    have h0 := h
    unfold cF at h
    unfold mF
    rw [if_pos hp] at h ⊢
    by_cases h2 : plainB (nd L p) = true
    · rw [if_pos h2] at h ⊢
      have n1 := mLoop_noted L (nd L p) d (mF_noted L d) (L.length + 1 - p) (p + 1) 0 0 A v (by omega) hA h
      have hl := mLoop_len L (nd L p) (mF L d) (mF_len L d) (L.length + 1 - p) (p + 1) 0 0 A
      have hv := cLoop_bound L (nd L p) (cF L d) (cF_bound L d) _ _ _ _ v (by omega) h
      rw [mLoop_fst L (nd L p) (mF L d) (cF L d) (mF_fst L d), h]
      refine ⟨fun q hq => ?_, fun q h4 h5 => ?_⟩
      · show ((mLoop L (nd L p) (mF L d) (L.length + 1 - p) (p + 1) 0 0 A).2.set p (v : Int))[q]? = _
        rw [List.getElem?_set_ne (by omega)]
        exact n1.1 q (by omega)
      · show ∃ (x : Nat) (e : Nat), ((mLoop L (nd L p) (mF L d) (L.length + 1 - p) (p + 1) 0 0 A).2.set p (v : Int))[q]? = some (x : Int) ∧ _
        by_cases h6 : q = p
        · subst h6
          exact ⟨v, d + 1, by rw [List.getElem?_set_self (by omega)], h0⟩
        · obtain ⟨y, e, e1, e2⟩ := n1.2 q (by omega) h5
          exact ⟨y, e, by rw [List.getElem?_set_ne (by omega)]; exact e1, e2⟩
    · rw [if_neg h2] at h; cases h
theorem spec_part (L : List S57) (deep next i last : Int) (n p : S57) (r : Int) (h : Ev (fun k => spec_l4Check.j2 k L deep next i (!partB n last p) n.f0 n.f1 n.f2 n.f3 n.f4 p.f0 p.f1 p.f2 p.f3 p.f4) r) :
    Ev (fun k => (if n.f0 = 9 then (if (p.f0) = n.f2 then (if (p.f1) = 0 then (if n.f0 = 12 then (if (p.f1) ≤ last then (spec_l4Check.j2 k L deep next i true n.f0 n.f1 n.f2 n.f3 n.f4 p.f0 p.f1 p.f2 p.f3 p.f4) else (spec_l4Check.j2 k L deep next i (decide ((p.f1) > 1000)) n.f0 n.f1 n.f2 n.f3 n.f4 p.f0 p.f1 p.f2 p.f3 p.f4)) else (spec_l4Check.j2 k L deep next i false n.f0 n.f1 n.f2 n.f3 n.f4 p.f0 p.f1 p.f2 p.f3 p.f4)) else (spec_l4Check.j2 k L deep next i true n.f0 n.f1 n.f2 n.f3 n.f4 p.f0 p.f1 p.f2 p.f3 p.f4)) else (spec_l4Check.j2 k L deep next i true n.f0 n.f1 n.f2 n.f3 n.f4 p.f0 p.f1 p.f2 p.f3 p.f4)) else (if n.f0 = 12 then (if (p.f1) ≤ last then (spec_l4Check.j2 k L deep next i true n.f0 n.f1 n.f2 n.f3 n.f4 p.f0 p.f1 p.f2 p.f3 p.f4) else (spec_l4Check.j2 k L deep next i (decide ((p.f1) > 1000)) n.f0 n.f1 n.f2 n.f3 n.f4 p.f0 p.f1 p.f2 p.f3 p.f4)) else (spec_l4Check.j2 k L deep next i false n.f0 n.f1 n.f2 n.f3 n.f4 p.f0 p.f1 p.f2 p.f3 p.f4)))) r := by
  unfold partB at h
  by_cases h9 : n.f0 = 9
  · rw [if_pos h9] at h
    refine Ev.pos h9 ?_
    by_cases h1 : p.f0 = n.f2
    · refine Ev.pos h1 ?_
      by_cases h2 : p.f1 = 0
      · refine Ev.pos h2 (Ev.neg (by omega) ?_)
        rw [decide_eq_true h1, decide_eq_true h2] at h; exact h
      · refine Ev.neg h2 ?_
        rw [decide_eq_true h1, decide_eq_false h2] at h; exact h
    · refine Ev.neg h1 ?_
      rw [decide_eq_false h1] at h; exact h
  · rw [if_neg h9] at h
    refine Ev.neg h9 ?_
    by_cases h12 : n.f0 = 12
    · rw [if_pos h12] at h
      refine Ev.pos h12 ?_
      by_cases h1 : p.f1 ≤ last
      · refine Ev.pos h1 ?_
        rw [decide_eq_false (show ¬ (last < p.f1 ∧ p.f1 ≤ 1000) by omega)] at h; exact h
      · refine Ev.neg h1 ?_
        have e : (decide (p.f1 > 1000)) = !decide (last < p.f1 ∧ p.f1 ≤ 1000) := by
          by_cases h3 : p.f1 > 1000
          · rw [decide_eq_true h3, decide_eq_false (show ¬ (last < p.f1 ∧ p.f1 ≤ 1000) by omega)]; rfl
          · rw [decide_eq_false h3, decide_eq_true (show last < p.f1 ∧ p.f1 ≤ 1000 by omega)]; rfl
        rw [e]; exact h
    · rw [if_neg h12] at h
      exact Ev.neg h12 h
theorem spec_check_ev (L : List S57) (hL : L.length ≤ 1500) : ∀ d p : Nat, d ≤ 12 → p ≤ L.length → Ev (fun k => spec_l4Check.f k L (p : Int) (13 - (d : Int))) (oN (cF L d p)) := by
  intro d
  induction d with
  | zero =>
    intro p _ hp
    have bad : Ev (fun k => spec_l4Check.j0 k L (p : Int) (13 - ((0 : Nat) : Int)) true) (-1) := Ev.step (fun k => by rw [spec_l4Check.j0]) (by exact Ev.pos rfl (Ev.now _))
    refine Ev.step (fun k => by rw [spec_l4Check.f]) ?_
    by_cases h1 : (p : Int) ≥ (L.length : Int)
    · exact Ev.pos h1 bad
    · exact Ev.neg h1 (Ev.pos (by omega) bad)
  | succ d ih =>
    intro p hd hp
    have bad : Ev (fun k => spec_l4Check.j0 k L (p : Int) (13 - ((d + 1 : Nat) : Int)) true) (-1) := Ev.step (fun k => by rw [spec_l4Check.j0]) (by exact Ev.pos rfl (Ev.now _))
    refine Ev.step (fun k => by rw [spec_l4Check.f]) ?_
    unfold cF
    by_cases h1 : p < L.length
    · rw [if_pos h1]
      refine Ev.neg (by omega) (Ev.neg (by omega) (Ev.pos (by omega) (Ev.pos (by omega) ?_)))
      rw [rd_nd]
      refine Ev.bind (spec_l4Plain_ev (nd L p)) ?_
      cases hb : plainB (nd L p) with
      | false => rw [if_neg (by decide)]; exact bad
      | true =>
        rw [if_pos rfl]
        have loop : ∀ f next i : Nat, ∀ last : Int, next ≤ L.length → L.length + 1 ≤ next + f → i + 1 ≤ next → Ev (fun k => spec_l4Check.l0 k L (13 - ((d + 1 : Nat) : Int)) (next : Int) last (i : Int) (nd L p).f0 (nd L p).f1 (nd L p).f2 (nd L p).f3 (nd L p).f4) (oN (cLoop L (nd L p) (cF L d) f next last i)) := by
          intro f
          induction f with
          | zero => intro next i last h2 h3 _; omega
          | succ f ihf =>
            intro next i last h2 h3 h4
            refine Ev.step (fun k => by rw [spec_l4Check.l0]) ?_
            unfold cLoop
            by_cases h5 : (i : Int) < (nd L p).f4
            · rw [if_pos h5]
              refine Ev.pos h5 ?_
              by_cases h6 : next < L.length
              · rw [if_pos h6]
                refine Ev.neg (by omega) (Ev.pos (by omega) (Ev.pos (by omega) ?_))
                rw [rd_nd]
                refine spec_part L _ _ _ last (nd L p) (nd L next) _ ?_
                refine Ev.step (fun k => by rw [spec_l4Check.j2]) ?_
                cases hq : partB (nd L p) last (nd L next) with
                | false => rw [if_neg (by decide)]; exact Ev.pos rfl (Ev.now _)
                | true =>
                  rw [if_pos rfl]
                  refine Ev.neg (by decide) ?_
                  rw [wrap64_id (x := 13 - ((d + 1 : Nat) : Int) + 1) (by omega) (by omega), show 13 - ((d + 1 : Nat) : Int) + 1 = 13 - (d : Int) by omega]
                  refine Ev.bind (ih next (by omega) (by omega)) ?_
                  cases hx : cF L d next with
                  | none => exact Ev.pos (by decide) (Ev.now _)
                  | some x =>
                    have hxb := cF_bound L d next x hx
                    refine Ev.neg (by show ¬ ((x : Nat) : Int) < 0; omega) ?_
                    rw [wrap64_id (x := (i : Int) + 1) (by omega) (by omega)]
                    have := ihf x (i + 1) (nd L next).f1 hxb.2 (by omega) (by omega)
                    simpa [oN_some] using this
              · rw [if_neg h6]
                exact Ev.pos (by omega) (Ev.now _)
            · rw [if_neg h5]
              exact Ev.neg h5 (Ev.now _)
        refine Ev.step (fun k => by rw [spec_l4Check.j0]) ?_
        refine Ev.neg (by decide) (Ev.pos (by omega) (Ev.pos (by omega) ?_))
        rw [wrap64_id (x := (p : Int) + 1) (by omega) (by omega), rd_nd]
        have := loop (L.length + 1 - p) (p + 1) 0 0 (by omega) (by omega) (by omega)
        simpa using this
    · rw [if_neg h1]
      exact Ev.pos (by omega) bad
theorem impl_measure_ev (L : List S57) (hL : L.length ≤ 1500) : ∀ d p : Nat, ∀ A : List Int, d ≤ 12 → p ≤ L.length → A.length = L.length → Ev (fun k => impl_tree_measure.f k L A (p : Int) (13 - (d : Int))) (oN (mF L d p A).1, (mF L d p A).2) := by
  intro d
  induction d with
  | zero =>
    intro p A _ hp hA
    have bad : Ev (fun k => impl_tree_measure.j0 k (p : Int) (13 - ((0 : Nat) : Int)) true L A) (-1, A) := Ev.step (fun k => by rw [impl_tree_measure.j0]) (by exact Ev.pos rfl (Ev.now _))
    refine Ev.step (fun k => by rw [impl_tree_measure.f]) ?_
    by_cases h1 : (p : Int) ≥ (L.length : Int)
    · exact Ev.pos h1 bad
    · exact Ev.neg h1 (Ev.pos (by omega) bad)
  | succ d ih =>
    intro p A hd hp hA
    have bad : Ev (fun k => impl_tree_measure.j0 k (p : Int) (13 - ((d + 1 : Nat) : Int)) true L A) (-1, A) := Ev.step (fun k => by rw [impl_tree_measure.j0]) (by exact Ev.pos rfl (Ev.now _))
    refine Ev.step (fun k => by rw [impl_tree_measure.f]) ?_
    unfold mF
    by_cases h1 : p < L.length
    · rw [if_pos h1]
      refine Ev.neg (by omega) (Ev.neg (by omega) (Ev.pos (by omega) (Ev.pos (by omega) ?_)))
      rw [rd_nd]
      refine Ev.bind (impl_nodeOk_ev (nd L p)) ?_
      cases hb : plainB (nd L p) with
      | false => rw [if_neg (by decide)]; exact bad
      | true =>
        rw [if_pos rfl]
        have fin : Option Nat × List Int → Int × List Int := fun z => match z.1 with | none => (-1, z.2) | some x => ((x : Int), z.2.set p (x : Int))
        have loop : ∀ f next i : Nat, ∀ last : Int, ∀ B : List Int, next ≤ L.length → L.length + 1 ≤ next + f → i + 1 ≤ next → B.length = L.length → ((nd L p).f0 = 12 → 0 ≤ last ∧ last ≤ 1000) → Ev (fun k => impl_tree_measure.l0 k (p : Int) (13 - ((d + 1 : Nat) : Int)) (next : Int) last (nd L p).f4 (i : Int) L B (nd L p).f0 (nd L p).f1 (nd L p).f2 (nd L p).f3 (nd L p).f4)
            (oN (mLoop L (nd L p) (mF L d) f next last i B).1, (match (mLoop L (nd L p) (mF L d) f next last i B).1 with | none => (mLoop L (nd L p) (mF L d) f next last i B).2 | some x => (mLoop L (nd L p) (mF L d) f next last i B).2.set p (x : Int))) := by
          intro f
          induction f with
          | zero => intro next i last B h2 h3 _ _ _; omega
          | succ f ihf =>
            intro next i last B h2 h3 h4 hB hlast
            refine Ev.step (fun k => by rw [impl_tree_measure.l0]) ?_
            unfold mLoop
            by_cases h5 : (i : Int) < (nd L p).f4
            · rw [if_pos h5]
              refine Ev.pos h5 ?_
              by_cases h6 : next < L.length
              · rw [if_pos h6]
                refine Ev.neg (by omega) (Ev.pos (by omega) (Ev.pos (by omega) ?_))
                rw [rd_nd]
                have good : partB (nd L p) last (nd L next) = true → Ev (fun k => impl_tree_measure.j3 k (p : Int) (13 - ((d + 1 : Nat) : Int)) (next : Int) (nd L p).f4 (i : Int) false L B (nd L p).f0 (nd L p).f1 (nd L p).f2 (nd L p).f3 (nd L p).f4 (nd L next).f0 (nd L next).f1 (nd L next).f2 (nd L next).f3 (nd L next).f4)
                    (oN (match (mF L d next B).1 with | none => (none, (mF L d next B).2) | some x => mLoop L (nd L p) (mF L d) f x (nd L next).f1 (i + 1) (mF L d next B).2).1, (match (match (mF L d next B).1 with | none => (none, (mF L d next B).2) | some x => mLoop L (nd L p) (mF L d) f x (nd L next).f1 (i + 1) (mF L d next B).2).1 with | none => (match (mF L d next B).1 with | none => (none, (mF L d next B).2) | some x => mLoop L (nd L p) (mF L d) f x (nd L next).f1 (i + 1) (mF L d next B).2).2 | some x => (match (mF L d next B).1 with | none => (none, (mF L d next B).2) | some x => mLoop L (nd L p) (mF L d) f x (nd L next).f1 (i + 1) (mF L d next B).2).2.set p (x : Int))) := by
                  intro hq
                  have hl2 : (nd L p).f0 = 12 → 0 ≤ (nd L next).f1 ∧ (nd L next).f1 ≤ 1000 := fun h12 => by
                    have h14 := hlast h12
                    unfold partB at hq
                    rw [if_neg (show ¬ (nd L p).f0 = 9 by omega), if_pos h12] at hq
                    have h13 := of_decide_eq_true hq
                    omega
                  refine Ev.step (fun k => by rw [impl_tree_measure.j3]) ?_
                  refine Ev.neg (by decide) ?_
                  rw [wrap64_id (x := 13 - ((d + 1 : Nat) : Int) + 1) (by omega) (by omega), show 13 - ((d + 1 : Nat) : Int) + 1 = 13 - (d : Int) by omega]
                  refine Ev.bind (ih next B (by omega) (by omega) hB) ?_
                  have hfst := mF_fst L d next B
                  have hlen := mF_len L d next B
                  cases hx : (mF L d next B).1 with
                  | none => exact Ev.pos (show (-1 : Int) < 0 by decide) (Ev.now _)
                  | some x =>
                    rw [hx] at hfst
                    have hxb := cF_bound L d next x hfst.symm
                    refine Ev.neg (by show ¬ ((x : Nat) : Int) < 0; omega) ?_
                    rw [wrap64_id (x := (i : Int) + 1) (by omega) (by omega)]
                    have := ihf x (i + 1) (nd L next).f1 (mF L d next B).2 hxb.2 (by omega) (by omega) (by rw [hlen]; exact hB) hl2
                    simpa [oN_some] using this
                have badj3 : Ev (fun k => impl_tree_measure.j3 k (p : Int) (13 - ((d + 1 : Nat) : Int)) (next : Int) (nd L p).f4 (i : Int) true L B (nd L p).f0 (nd L p).f1 (nd L p).f2 (nd L p).f3 (nd L p).f4 (nd L next).f0 (nd L next).f1 (nd L next).f2 (nd L next).f3 (nd L next).f4) (-1, B) :=
                  Ev.step (fun k => by rw [impl_tree_measure.j3]) (by exact Ev.pos rfl (Ev.now _))
                have badj2 : Ev (fun k => impl_tree_measure.j2 k (p : Int) (13 - ((d + 1 : Nat) : Int)) (next : Int) last (nd L p).f4 (i : Int) true L B (nd L p).f0 (nd L p).f1 (nd L p).f2 (nd L p).f3 (nd L p).f4 (nd L next).f0 (nd L next).f1 (nd L next).f2 (nd L next).f3 (nd L next).f4) (-1, B) :=
                  Ev.step (fun k => by rw [impl_tree_measure.j2]) (by exact Ev.pos rfl (Ev.now _))
                cases hq : partB (nd L p) last (nd L next) with
                | false =>
                  rw [if_neg (by decide)]
                  show Ev _ (-1, B)
                  unfold partB at hq
                  by_cases h9 : (nd L p).f0 = 9
                  · rw [if_pos h9] at hq
                    refine Ev.pos h9 ?_
                    by_cases h10 : (nd L next).f0 = (nd L p).f2
                    · refine Ev.pos h10 ?_
                      rw [decide_eq_true h10, Bool.true_and] at hq
                      have h11 := of_decide_eq_false hq
                      rw [show ((nd L next).f1 != 0) = true from by simpa using h11]
                      exact badj2
                    · exact Ev.neg h10 badj2
                  · rw [if_neg h9] at hq
                    refine Ev.neg h9 ?_
                    by_cases h12 : (nd L p).f0 = 12
                    · rw [if_pos h12] at hq
                      have h13 := of_decide_eq_false hq
                      have h14 := hlast h12
                      refine Ev.step (fun k => by rw [impl_tree_measure.j2]) ?_
                      refine Ev.neg (by decide) (Ev.pos h12 (Ev.here (within_some _ _ _) ?_))
                      rw [wrap64_id (x := last + 1) (by omega) (by omega), decide_eq_false (by omega)]
                      exact badj3
                    · rw [if_neg h12] at hq; cases hq
                | true =>
                  rw [if_pos rfl]
                  have gd := good hq
                  unfold partB at hq
                  by_cases h9 : (nd L p).f0 = 9
                  · rw [if_pos h9] at hq
                    simp only [Bool.and_eq_true, decide_eq_true_eq] at hq
                    refine Ev.pos h9 (Ev.pos hq.1 ?_)
                    rw [show ((nd L next).f1 != 0) = false from by simpa using hq.2]
                    refine Ev.step (fun k => by rw [impl_tree_measure.j2]) ?_
                    exact Ev.neg (by decide) (Ev.neg (by omega) gd)
                  · rw [if_neg h9] at hq
                    refine Ev.neg h9 ?_
                    refine Ev.step (fun k => by rw [impl_tree_measure.j2]) ?_
                    refine Ev.neg (by decide) ?_
                    by_cases h12 : (nd L p).f0 = 12
                    · rw [if_pos h12] at hq
                      have h13 := of_decide_eq_true hq
                      have h14 := hlast h12
                      refine Ev.pos h12 (Ev.here (within_some _ _ _) ?_)
                      rw [wrap64_id (x := last + 1) (by omega) (by omega), decide_eq_true (show last + 1 ≤ (nd L next).f1 ∧ (nd L next).f1 ≤ 1000 by omega)]
                      exact gd
                    · exact Ev.neg h12 gd
              · rw [if_neg h6]
                exact Ev.pos (by omega) (Ev.now _)
            · rw [if_neg h5]
              exact Ev.neg h5 (Ev.pos (by omega) (Ev.pos (by omega) (Ev.const (by simp [oN]))))
        refine Ev.step (fun k => by rw [impl_tree_measure.j0]) ?_
        refine Ev.neg (by decide) (Ev.pos (by omega) (Ev.pos (by omega) ?_))
        rw [wrap64_id (x := (p : Int) + 1) (by omega) (by omega), rd_nd]
        have := loop (L.length + 1 - p) (p + 1) 0 0 A (by omega) (by omega) (by omega) hA (fun _ => by omega)
        cases hm : (mLoop L (nd L p) (mF L d) (L.length + 1 - p) (p + 1) 0 0 A).1 with
        | none => rw [hm] at this; simpa [hm] using this
        | some x => rw [hm] at this; simpa [hm] using this
    · rw [if_neg h1]
      exact Ev.pos (by omega) bad
/-- What is noted of every place. -/
def AllNoted (L : List S57) (A : List Int) : Prop := A.length = L.length ∧ ∀ q, q < L.length → ∃ (x : Nat) (e : Nat), A[q]? = some (x : Int) ∧ cF L e q = some x
def treeB (L : List S57) : Bool := decide (1 ≤ (L.length : Int) ∧ (L.length : Int) ≤ 1500) && (decide ((rd_T57 L 0).f0 = 12) && (decide ((rd_T57 L 0).f1 = 0) && decide (oN (cF L 12 0) = (L.length : Int))))
theorem treeB_len {L : List S57} (h : treeB L = true) : 1 ≤ L.length ∧ L.length ≤ 1500 := by
  unfold treeB at h
  simp only [Bool.and_eq_true, decide_eq_true_eq] at h
  omega
theorem treeB_cF {L : List S57} (h : treeB L = true) : cF L 12 0 = some L.length := by
  have hl := treeB_len h
  unfold treeB at h
  simp only [Bool.and_eq_true, decide_eq_true_eq] at h
  have h4 := h.2.2.2
  cases hx : cF L 12 0 with
  | none => rw [hx] at h4; have : (-1 : Int) = (L.length : Int) := h4; omega
  | some v => rw [hx] at h4; have : (v : Int) = (L.length : Int) := h4; rw [show v = L.length by omega]
theorem spec_TreeOk_ev (L : List S57) : Ev (fun k => spec_TreeOk.f k L) (treeB L) := by
  unfold spec_TreeOk.f treeB
  refine Ev.here (l1In_some _ _ _) ?_
  by_cases h1 : 1 ≤ (L.length : Int) ∧ (L.length : Int) ≤ 1500
  · rw [decide_eq_true h1]
    refine Ev.pos rfl (Ev.pos (by omega) ?_)
    by_cases h2 : (rd_T57 L 0).f0 = 12
    · rw [decide_eq_true h2]
      refine Ev.pos h2 ?_
      by_cases h3 : (rd_T57 L 0).f1 = 0
      · rw [decide_eq_true h3]
        have := spec_check_ev L (by omega) 12 0 (by omega) (by omega)
        refine Ev.pos h3 (Ev.bind (by simpa using this) (Ev.cast (Ev.now _) ?_))
        by_cases h4 : oN (cF L 12 0) = (L.length : Int) <;> simp [h4]
      · rw [decide_eq_false h3]; exact Ev.neg h3 (Ev.now _)
    · rw [decide_eq_false h2]; exact Ev.neg h2 (Ev.now _)
  · rw [decide_eq_false h1]; exact Ev.neg (by decide) (Ev.now _)
/-- The places behind the nodes of a right list. -/
def afterR (L : List S57) : List Int := (mF L 12 0 (List.replicate L.length 0)).2
theorem impl_treeOf_ev (L : List S57) : Ev (fun k => impl_treeOf.f k L) (if treeB L = true then (afterR L, true) else ([], false)) := by
  unfold impl_treeOf.f treeB
  refine Ev.here (within_some _ _ _) ?_
  by_cases h1 : 1 ≤ (L.length : Int) ∧ (L.length : Int) ≤ 1500
  · rw [decide_eq_true h1]
    refine Ev.pos rfl ?_
    by_cases h2 : (rd_T57 L 0).f0 = 12
    · rw [decide_eq_true h2]
      refine Ev.pos h2 ?_
      by_cases h3 : (rd_T57 L 0).f1 = 0
      · rw [decide_eq_true h3]
        have := impl_measure_ev L (by omega) 12 0 (List.replicate L.length 0) (by omega) (by omega) (by simp)
        refine Ev.pos h3 (Ev.bind (by simpa using this) ?_)
        rw [mF_fst]
        by_cases h4 : oN (cF L 12 0) = (L.length : Int)
        · rw [decide_eq_true h4]; exact Ev.pos h4 (Ev.now _)
        · rw [decide_eq_false h4]; exact Ev.neg h4 (Ev.now _)
      · rw [decide_eq_false h3]; exact Ev.neg h3 (Ev.now _)
    · rw [decide_eq_false h2]; exact Ev.neg h2 (Ev.now _)
  · rw [decide_eq_false h1]; exact Ev.neg (by decide) (Ev.now _)
theorem afterR_noted {L : List S57} (h : treeB L = true) : AllNoted L (afterR L) := by
  have hl := treeB_len h
  have hn := mF_noted L 12 0 (List.replicate L.length 0) L.length (by omega) (by simp) (treeB_cF h)
  exact ⟨by unfold afterR; rw [mF_len]; simp, fun q hq => hn.2 q (by omega) hq⟩
/-! ### The check sum -/
theorem bits_xor_nat (a c : Nat) (ha : a < 2 ^ 63) (hc : c < 2 ^ 63) : Go.bits .xor .i64 (a : Int) (c : Int) = ((a ^^^ c : Nat) : Int) := by
  have e : Go.bits .xor .i64 (a : Int) (c : Int) = IntKind.i64.wrap (((BitVec.ofInt 64 (a : Int) ^^^ BitVec.ofInt 64 (c : Int)).toNat : Nat) : Int) := rfl
  have hx : a ^^^ c < 2 ^ 63 := Nat.xor_lt_two_pow ha hc
  rw [e, BitVec.ofInt_natCast, BitVec.ofInt_natCast, BitVec.toNat_xor, BitVec.toNat_ofNat, BitVec.toNat_ofNat, Nat.mod_eq_of_lt (by omega), Nat.mod_eq_of_lt (by omega), IntKind.wrap_i64]
  omega
def ct1 (n : Nat) : Nat := if n % 2 = 1 then (n / 2) ^^^ 3988292384 else n / 2
theorem ct1_lt {n : Nat} (h : n < 4294967296) : ct1 n < 4294967296 := by
  unfold ct1
  by_cases h1 : n % 2 = 1
  · rw [if_pos h1]; exact Nat.xor_lt_two_pow (n := 32) (by omega) (by omega)
  · rw [if_neg h1]; omega
def ctN : Nat → Nat → Nat
  | 0, n => n
  | j + 1, n => ctN j (ct1 n)
theorem ctN_lt : ∀ (j : Nat) {n : Nat}, n < 4294967296 → ctN j n < 4294967296
  | 0, _, h => h
  | j + 1, _, h => ctN_lt j (ct1_lt h)
theorem tdiv2 (n : Nat) (h : n < 4294967296) : wrap64 (Int.tdiv (n : Int) 2) = ((n / 2 : Nat) : Int) := by
  rw [Int.tdiv_eq_ediv_of_nonneg (by omega), wrap64_id (by omega) (by omega)]; push_cast; rfl
theorem xor_turn (n : Nat) (h : n < 4294967296) : Go.bits .xor .i64 ((n / 2 : Nat) : Int) 3988292384 = (((n / 2) ^^^ 3988292384 : Nat) : Int) := bits_xor_nat (n / 2) 3988292384 (by omega) (by decide)
theorem spec_turn_loop : ∀ (j : Nat) (n : Nat), j ≤ 8 → n < 4294967296 → Ev (fun k => spec_l3Turn.l0 k (n : Int) ((8 - j : Nat) : Int)) ((ctN j n : Nat) : Int) := by
  intro j
  induction j with
  | zero =>
    intro n _ _
    refine Ev.step (fun k => by rw [spec_l3Turn.l0]) ?_
    exact Ev.neg (by omega) (Ev.now _)
  | succ j ih =>
    intro n hj hn
    have h := ih (ct1 n) (by omega) (ct1_lt hn)
    have hw : wrap64 (((8 - (j + 1) : Nat) : Int) + 1) = ((8 - j : Nat) : Int) := by rw [wrap64_id (by omega) (by omega)]; omega
    refine Ev.step (fun k => by rw [spec_l3Turn.l0]) ?_
    rw [tdiv2 n hn, xor_turn n hn, hw, bits_and_mask (n : Int) 1 1 (by omega) rfl]
    unfold ctN
    unfold ct1 at h ⊢
    refine Ev.pos (by omega) ?_
    by_cases h1 : n % 2 = 1
    · rw [if_pos h1] at h ⊢
      exact Ev.pos (by omega) h
    · rw [if_neg h1] at h ⊢
      exact Ev.neg (by omega) h
theorem impl_turn_loop : ∀ (j : Nat) (n : Nat), j ≤ 8 → n < 4294967296 → Ev (fun k => impl_crcNumber.l0 k (n : Int) ((8 - j : Nat) : Int)) ((ctN j n : Nat) : Int) := by
  intro j
  induction j with
  | zero =>
    intro n _ _
    refine Ev.step (fun k => by rw [impl_crcNumber.l0]) ?_
    exact Ev.neg (by omega) (Ev.now _)
  | succ j ih =>
    intro n hj hn
    have h := ih (ct1 n) (by omega) (ct1_lt hn)
    have hw : wrap64 (((8 - (j + 1) : Nat) : Int) + 1) = ((8 - j : Nat) : Int) := by rw [wrap64_id (by omega) (by omega)]; omega
    refine Ev.step (fun k => by rw [impl_crcNumber.l0]) ?_
    rw [tdiv2 n hn, xor_turn n hn, hw, Int.tmod_eq_emod_of_nonneg (by omega)]
    unfold ctN
    unfold ct1 at h ⊢
    refine Ev.pos (by omega) ?_
    by_cases h1 : n % 2 = 1
    · rw [if_pos h1] at h ⊢
      exact Ev.pos (by omega) h
    · rw [if_neg h1] at h ⊢
      exact Ev.neg (by omega) h
def crcStep (x : Nat) (b : Int) : Nat := (x / 256) ^^^ ctN 8 ((x % 256) ^^^ b.toNat)
theorem crcStep_lt {x : Nat} (b : Int) (h0 : 0 ≤ b) (h1 : b ≤ 255) (h : x < 4294967296) : crcStep x b < 4294967296 := by
  have : (x % 256) ^^^ b.toNat < 2 ^ 8 := Nat.xor_lt_two_pow (by omega) (by omega)
  exact Nat.xor_lt_two_pow (n := 32) (by omega) (ctN_lt 8 (by omega))
def crcN (x : Nat) (l : List Int) : Nat := l.foldl crcStep x
theorem xor_low (x : Nat) (hx : x < 4294967296) (b : Int) (h0 : 0 ≤ b) (h1 : b ≤ 255) : Go.bits .xor .i64 (Go.bits .and .i64 (x : Int) 255) (wrap64 b) = (((x % 256) ^^^ b.toNat : Nat) : Int) ∧ (x % 256) ^^^ b.toNat < 256 := by
  have hl : (x % 256) ^^^ b.toNat < 2 ^ 8 := Nat.xor_lt_two_pow (by omega) (by omega)
  have hm : Go.bits .and .i64 (x : Int) 255 = ((x % 256 : Nat) : Int) := by rw [bits_and_mask (x : Int) 255 8 (by omega) rfl]; omega
  have hb : wrap64 b = ((b.toNat : Nat) : Int) := by rw [wrap64_id (by omega) (by omega)]; omega
  exact ⟨by rw [hm, hb]; exact bits_xor_nat _ _ (by omega) (by omega), hl⟩
def crcR (l : List Int) : Int := ((crcN 4294967295 l ^^^ 4294967295 : Nat) : Int)
theorem crcN_lt : ∀ (l : List Int) (x : Nat), (∀ b ∈ l, 0 ≤ b ∧ b ≤ 255) → x < 4294967296 → crcN x l < 4294967296
  | [], _, _, h => h
  | b :: l, x, hb, h => crcN_lt l (crcStep x b) (fun y hy => hb y (List.mem_cons_of_mem _ hy)) (crcStep_lt b (hb b (List.mem_cons_self ..)).1 (hb b (List.mem_cons_self ..)).2 h)
theorem crcR_range (l : List Int) (hb : ∀ b ∈ l, 0 ≤ b ∧ b ≤ 255) : 0 ≤ crcR l ∧ crcR l ≤ 4294967295 := by
  have h := crcN_lt l 4294967295 hb (by omega)
  have : crcN 4294967295 l ^^^ 4294967295 < 2 ^ 32 := Nat.xor_lt_two_pow (by omega) (by omega)
  unfold crcR; omega
theorem spec_crc_loop (l : List Int) (hl : l.length ≤ 1048576) (hb : ∀ b ∈ l, 0 ≤ b ∧ b ≤ 255) : ∀ (m i x : Nat), i + m = l.length → x < 4294967296 → Ev (fun k => spec_CrcMore.l0 k l (x : Int) (i : Int)) ((crcN x (l.drop i) ^^^ 4294967295 : Nat) : Int) := by
  intro m
  induction m with
  | zero =>
    intro i x hi hx
    refine Ev.step (fun k => by rw [spec_CrcMore.l0]) ?_
    rw [List.drop_eq_nil_of_le (by omega), show Go.bits .xor .i64 (x : Int) 4294967295 = ((x ^^^ 4294967295 : Nat) : Int) from bits_xor_nat x 4294967295 (by omega) (by decide)]
    exact Ev.neg (by omega) (Ev.now _)
  | succ m ih =>
    intro i x hi hx
    have hil : i < l.length := by omega
    have er : rd l (i : Int) = l[i] := rd_eq (i := (i : Int)) hil
    have hbi := hb _ (List.getElem_mem hil)
    have hlow := xor_low x hx (l[i]) hbi.1 hbi.2
    have ht : Ev (fun k => spec_l3Turn.f k (((x % 256) ^^^ (l[i]).toNat : Nat) : Int)) ((ctN 8 ((x % 256) ^^^ (l[i]).toNat) : Nat) : Int) := by
      unfold spec_l3Turn.f; exact spec_turn_loop 8 _ (by omega) (by omega)
    have hc := ctN_lt 8 (n := (x % 256) ^^^ (l[i]).toNat) (by omega)
    have h := ih (i + 1) (crcStep x l[i]) (by omega) (crcStep_lt _ hbi.1 hbi.2 hx)
    have hw : wrap64 ((i : Int) + 1) = ((i + 1 : Nat) : Int) := by rw [wrap64_id (by omega) (by omega)]; push_cast; rfl
    have hx256 : (x : Int) / 256 = ((x / 256 : Nat) : Int) := by omega
    have e1 : Go.bits .xor .i64 ((x / 256 : Nat) : Int) ((ctN 8 ((x % 256) ^^^ (l[i]).toNat) : Nat) : Int) = ((crcStep x l[i] : Nat) : Int) := bits_xor_nat _ _ (by omega) (by omega)
    refine Ev.step (fun k => by rw [spec_CrcMore.l0]) ?_
    rw [er, hlow.1, hw, hx256, List.drop_eq_getElem_cons hil]
    refine Ev.pos (by omega) (Ev.pos (by omega) (Ev.bind ht ?_))
    rw [e1]
    exact h
theorem impl_table_ev : Ev (fun k => impl_CrcTable.f k) ((List.range 256).map fun n => ((ctN 8 n : Nat) : Int)) := by
  unfold impl_CrcTable.f
  refine append_loop (fun k s i => impl_CrcTable.l0 k s i) (fun (i : Nat) => ((ctN 8 i : Nat) : Int)) 256 _ (fun i s hi hl hr => ?_) ?_
  · refine Ev.step (fun k => by rw [impl_CrcTable.l0]) ?_
    rw [wrap64_id (x := (i : Int) + 1) (by omega) (by omega)]
    refine Ev.pos (by omega) (Ev.bind (a := ((ctN 8 i : Nat) : Int)) ?_ (Ev.pos (by omega) hr))
    unfold impl_crcNumber.f; exact impl_turn_loop 8 i (by omega) (by omega)
  · refine Ev.step (fun k => by rw [impl_CrcTable.l0]) ?_
    exact Ev.neg (by omega) (Ev.now _)
theorem impl_crc_loop (l : List Int) (hl : l.length ≤ 1048576) (hb : ∀ b ∈ l, 0 ≤ b ∧ b ≤ 255) : ∀ (m i x : Nat), i + m = l.length → x < 4294967296 → Ev (fun k => impl_CrcMore.l0 k (x : Int) ((List.range 256).map fun n => ((ctN 8 n : Nat) : Int)) l (l.length : Int) (i : Int)) ((crcN x (l.drop i) ^^^ 4294967295 : Nat) : Int) := by
  intro m
  induction m with
  | zero =>
    intro i x hi hx
    refine Ev.step (fun k => by rw [impl_CrcMore.l0]) ?_
    rw [List.drop_eq_nil_of_le (by omega), show Go.bits .xor .i64 (x : Int) 4294967295 = ((x ^^^ 4294967295 : Nat) : Int) from bits_xor_nat x 4294967295 (by omega) (by decide)]
    exact Ev.neg (by omega) (Ev.now _)
  | succ m ih =>
    intro i x hi hx
    have hil : i < l.length := by omega
    have er : rd l (i : Int) = l[i] := rd_eq (i := (i : Int)) hil
    have hbi := hb _ (List.getElem_mem hil)
    have hlow := xor_low x hx (l[i]) hbi.1 hbi.2
    have hc := ctN_lt 8 (n := (x % 256) ^^^ (l[i]).toNat) (by omega)
    have h := ih (i + 1) (crcStep x l[i]) (by omega) (crcStep_lt _ hbi.1 hbi.2 hx)
    have hw : wrap64 ((i : Int) + 1) = ((i + 1 : Nat) : Int) := by rw [wrap64_id (by omega) (by omega)]; push_cast; rfl
    have hx256 : (x : Int) / 256 = ((x / 256 : Nat) : Int) := by omega
    have htl : ((List.range 256).map fun n => ((ctN 8 n : Nat) : Int)).length = 256 := by rw [List.length_map, List.length_range]
    have hlt : (x % 256) ^^^ (l[i]).toNat < ((List.range 256).map fun n => ((ctN 8 n : Nat) : Int)).length := by rw [htl]; exact hlow.2
    have ert : rd ((List.range 256).map fun n => ((ctN 8 n : Nat) : Int)) (((x % 256) ^^^ (l[i]).toNat : Nat) : Int) = ((ctN 8 ((x % 256) ^^^ (l[i]).toNat) : Nat) : Int) := by
      refine (rd_eq (i := (((x % 256) ^^^ (l[i]).toNat : Nat) : Int)) hlt).trans ?_
      simp only [List.getElem_map, List.getElem_range, Int.toNat_natCast]
    have e1 : Go.bits .xor .i64 ((ctN 8 ((x % 256) ^^^ (l[i]).toNat) : Nat) : Int) ((x / 256 : Nat) : Int) = ((crcStep x l[i] : Nat) : Int) := by
      rw [bits_xor_nat _ _ (by omega) (by omega), Nat.xor_comm]; rfl
    refine Ev.step (fun k => by rw [impl_CrcMore.l0]) ?_
    rw [er, hlow.1, hw, hx256, List.drop_eq_getElem_cons hil, ert, htl, e1]
    exact Ev.pos (by omega) (Ev.pos (by omega) (Ev.pos (by omega) (Ev.pos (by omega) (Ev.pos (by omega) h))))
theorem spec_CrcOf_ev (l : List Int) (hl : l.length ≤ 1048576) (hb : ∀ b ∈ l, 0 ≤ b ∧ b ≤ 255) : Ev (fun k => spec_CrcOf.f k l) (crcR l) := by
  have h := spec_crc_loop l hl hb l.length 0 4294967295 (by omega) (by omega)
  unfold spec_CrcOf.f spec_CrcMore.f
  refine Ev.bind (a := crcR l) (Ev.here (l1In_some _ _ _) (Ev.pos (by decide) ?_)) (Ev.now _)
  rw [show Go.bits .xor .i64 0 4294967295 = ((4294967295 : Nat) : Int) from bits_xor_nat 0 4294967295 (by decide) (by decide)]
  exact h
theorem impl_CrcOf_ev (l : List Int) (hl : l.length ≤ 1048576) (hb : ∀ b ∈ l, 0 ≤ b ∧ b ≤ 255) : Ev (fun k => impl_CrcOf.f k l) (crcR l) := by
  have h := impl_crc_loop l hl hb l.length 0 4294967295 (by omega) (by omega)
  unfold impl_CrcOf.f impl_CrcMore.f
  refine Ev.bind (a := crcR l) (Ev.here (within_some _ _ _) (Ev.pos (by decide) (Ev.bind impl_table_ev ?_))) (Ev.now _)
  rw [show Go.bits .xor .i64 0 4294967295 = ((4294967295 : Nat) : Int) from bits_xor_nat 0 4294967295 (by decide) (by decide)]
  exact h
/-! ### A tree as bytes -/
theorem noted_rd {L : List S57} {A : List Int} (hA : AllNoted L A) {d q x : Nat} (hq : q < L.length) (h : cF L d q = some x) : rd A (q : Int) = (x : Int) := by
  obtain ⟨y, e, h1, h2⟩ := hA.2 q hq
  have := cF_det L h h2
  subst this
  unfold rd
  rw [List.getD_eq_getElem?_getD, Int.toNat_natCast, h1]; rfl
theorem len_a1b (out b : List Int) (y : Int) : (out ++ [y] ++ b).length = out.length + 1 + b.length := by rw [List.length_append, List.length_append]; rfl
theorem len_azb (out z b : List Int) (y : Int) : (out ++ ([y] ++ z) ++ b).length = out.length + 1 + z.length + b.length := by rw [List.length_append, List.length_append, List.length_append, List.length_singleton]; omega
theorem pk_short (L : List S57) (hL : L.length ≤ 1500) (A : List Int) (hAl : A.length = L.length) (n : S57) (hn : n.f0 = 12) (next i x : Nat) (last y : Int) (out b : List Int) (R2 : List Int × Int) (R3 : List Int)
    (h5 : (i : Int) < n.f4) (h6 : next < L.length) (hi : i ≤ 3000) (hrd : rd A (next : Int) = (x : Int)) (hs : wrap64 ((nd L next).f1 - last) ≤ 15) (hy : wrap64 ((wrap64 (16 * (wrap64 ((nd L next).f1 - last)))) + (nd L next).f0) % 256 = y)
    (e1 : Ev (fun k => spec_l4Pack.f k L (next : Int)) (b, (x : Int))) (e2 : Ev (fun k => impl_tree_bytesOf.f k L A (next : Int)) b) (ho : out.length + 1 + b.length ≤ 10000000)
    (g2 : Ev (fun k => spec_l4Pack.l1 k L (x : Int) (out ++ [y] ++ b) (nd L next).f1 ((i + 1 : Nat) : Int) n.f0 n.f1 n.f2 n.f3 n.f4) R2) (g3 : Ev (fun k => impl_tree_bytesOf.l0 k (out ++ [y] ++ b) (x : Int) (nd L next).f1 n.f4 ((i + 1 : Nat) : Int) L A n.f0 n.f1 n.f2 n.f3 n.f4) R3) :
    Ev (fun k => spec_l4Pack.l1 k L (next : Int) out last (i : Int) n.f0 n.f1 n.f2 n.f3 n.f4) R2 ∧ Ev (fun k => impl_tree_bytesOf.l0 k out (next : Int) last n.f4 (i : Int) L A n.f0 n.f1 n.f2 n.f3 n.f4) R3 := by
  have hw : wrap64 ((i : Int) + 1) = ((i + 1 : Nat) : Int) := by rw [wrap64_id (by omega) (by omega)]; push_cast; rfl
  have l1 : (out ++ [y]).length = out.length + 1 := by rw [List.length_append]; rfl
  have c1 : (0 : Int) ≤ (next : Int) := by omega
  have c2 : (next : Int) < (L.length : Int) := by omega
  have c3 : (next : Int) < (A.length : Int) := by omega
  have c4 : out.length < 140737488355328 := by omega
  have c5 : (out ++ [y]).length + b.length < 140737488355328 := by rw [l1]; omega
  have c6 : out.length + ([y] : List Int).length < 140737488355328 := by rw [List.length_singleton]; omega
  constructor
  · refine Ev.step (fun k => by rw [spec_l4Pack.l1]) ?_
    rw [rd_nd, hw, hy]
    exact Ev.pos h5 (Ev.pos c1 (Ev.pos c2 (Ev.pos hs (Ev.pos c4 (Ev.here rfl (Ev.bind e1 (Ev.pos c5 g2)))))))
  · refine Ev.step (fun k => by rw [impl_tree_bytesOf.l0]) ?_
    rw [rd_nd, hw, hrd]
    refine Ev.pos h5 (Ev.pos c1 (Ev.pos c2 (Ev.pos hn (Ev.bind (a := [y]) ?_ (Ev.pos c6 (Ev.here rfl (Ev.bind e2 (Ev.pos c5 (Ev.pos c3 g3)))))))))
    unfold impl_headOf.f
    rw [hy]
    exact Ev.pos hs (Ev.now _)
theorem pk_long (L : List S57) (hL : L.length ≤ 1500) (A : List Int) (hAl : A.length = L.length) (n : S57) (hn : n.f0 = 12) (next i x : Nat) (last y : Int) (out b z : List Int) (R2 : List Int × Int) (R3 : List Int)
    (h5 : (i : Int) < n.f4) (h6 : next < L.length) (hi : i ≤ 3000) (hrd : rd A (next : Int) = (x : Int)) (hs : ¬ wrap64 ((nd L next).f1 - last) ≤ 15) (hy : (nd L next).f0 % 256 = y)
    (z1 : Ev (fun k => spec_ZigPut.f k (nd L next).f1) z) (z2 : Ev (fun k => impl_ZigPut.f k (nd L next).f1) z)
    (e1 : Ev (fun k => spec_l4Pack.f k L (next : Int)) (b, (x : Int))) (e2 : Ev (fun k => impl_tree_bytesOf.f k L A (next : Int)) b) (ho : out.length + 1 + z.length + b.length ≤ 10000000)
    (g2 : Ev (fun k => spec_l4Pack.l1 k L (x : Int) (out ++ ([y] ++ z) ++ b) (nd L next).f1 ((i + 1 : Nat) : Int) n.f0 n.f1 n.f2 n.f3 n.f4) R2) (g3 : Ev (fun k => impl_tree_bytesOf.l0 k (out ++ ([y] ++ z) ++ b) (x : Int) (nd L next).f1 n.f4 ((i + 1 : Nat) : Int) L A n.f0 n.f1 n.f2 n.f3 n.f4) R3) :
    Ev (fun k => spec_l4Pack.l1 k L (next : Int) out last (i : Int) n.f0 n.f1 n.f2 n.f3 n.f4) R2 ∧ Ev (fun k => impl_tree_bytesOf.l0 k out (next : Int) last n.f4 (i : Int) L A n.f0 n.f1 n.f2 n.f3 n.f4) R3 := by
  have hw : wrap64 ((i : Int) + 1) = ((i + 1 : Nat) : Int) := by rw [wrap64_id (by omega) (by omega)]; push_cast; rfl
  have l1 : (out ++ [y]).length = out.length + 1 := by rw [List.length_append]; rfl
  have l2 : ([y] ++ z).length = 1 + z.length := by rw [List.length_append]; rfl
  have l3 : (out ++ ([y] ++ z)).length = out.length + (1 + z.length) := by rw [List.length_append, l2]
  have c1 : (0 : Int) ≤ (next : Int) := by omega
  have c2 : (next : Int) < (L.length : Int) := by omega
  have c3 : (next : Int) < (A.length : Int) := by omega
  have c4 : out.length < 140737488355328 := by omega
  have c5 : (out ++ ([y] ++ z)).length + b.length < 140737488355328 := by rw [l3]; omega
  have c6 : out.length + ([y] ++ z).length < 140737488355328 := by rw [l2]; omega
  have c7 : (out ++ [y]).length + z.length < 140737488355328 := by rw [l1]; omega
  have c8 : ([y] : List Int).length + z.length < 140737488355328 := by rw [List.length_singleton]; omega
  have ea : out ++ [y] ++ z = out ++ ([y] ++ z) := List.append_assoc _ _ _
  constructor
  · refine Ev.step (fun k => by rw [spec_l4Pack.l1]) ?_
    rw [rd_nd, hw, hy]
    refine Ev.pos h5 (Ev.pos c1 (Ev.pos c2 (Ev.neg hs (Ev.pos c4 (Ev.here rfl (Ev.bind z1 (Ev.pos c7 ?_)))))))
    rw [ea]
    exact Ev.here rfl (Ev.bind e1 (Ev.pos c5 g2))
  · refine Ev.step (fun k => by rw [impl_tree_bytesOf.l0]) ?_
    rw [rd_nd, hw, hrd]
    refine Ev.pos h5 (Ev.pos c1 (Ev.pos c2 (Ev.pos hn (Ev.bind (a := [y] ++ z) ?_ (Ev.pos c6 (Ev.here rfl (Ev.bind e2 (Ev.pos c5 (Ev.pos c3 g3)))))))))
    unfold impl_headOf.f
    rw [hy]
    exact Ev.neg hs (Ev.here rfl (Ev.bind z2 (Ev.pos c8 (Ev.now _))))
theorem pk_end (L : List S57) (A : List Int) (n : S57) (hn : n.f0 = 12) (next i : Nat) (last : Int) (out : List Int) (h5 : ¬ (i : Int) < n.f4) (ho : out.length ≤ 10000000) :
    Ev (fun k => spec_l4Pack.l1 k L (next : Int) out last (i : Int) n.f0 n.f1 n.f2 n.f3 n.f4) (out ++ [0], (next : Int)) ∧ Ev (fun k => impl_tree_bytesOf.l0 k out (next : Int) last n.f4 (i : Int) L A n.f0 n.f1 n.f2 n.f3 n.f4) (out ++ [0]) := by
  have c4 : out.length < 140737488355328 := by omega
  constructor
  · refine Ev.step (fun k => by rw [spec_l4Pack.l1]) ?_
    exact Ev.neg h5 (Ev.pos c4 (Ev.now _))
  · refine Ev.step (fun k => by rw [impl_tree_bytesOf.l0]) ?_
    exact Ev.neg h5 (Ev.pos hn (Ev.pos c4 (Ev.now _)))
theorem pk_struct (L : List S57) (hL : L.length ≤ 1500) (A : List Int) (hA : AllNoted L A) (d : Nat) (n : S57) (hn : n.f0 = 12)
    (ih : ∀ p v : Nat, cF L d p = some v → ∃ B : List Int, Ev (fun k => spec_l4Pack.f k L (p : Int)) (B, (v : Int)) ∧ Ev (fun k => impl_tree_bytesOf.f k L A (p : Int)) B ∧ B.length + 20 ≤ 400 * (v - p)) :
    ∀ (f next i : Nat) (last : Int) (v : Nat) (out : List Int), next ≤ L.length → i + 1 ≤ next → cLoop L n (cF L d) f next last i = some v → out.length + 400 * (L.length - next) ≤ 1000000 → 0 ≤ last → last ≤ 1000 →
      ∃ B : List Int, B.length ≤ 400 * (v - next) ∧ Ev (fun k => spec_l4Pack.l1 k L (next : Int) out last (i : Int) n.f0 n.f1 n.f2 n.f3 n.f4) (out ++ B ++ [0], (v : Int)) ∧ Ev (fun k => impl_tree_bytesOf.l0 k out (next : Int) last n.f4 (i : Int) L A n.f0 n.f1 n.f2 n.f3 n.f4) (out ++ B ++ [0]) := by
  intro f
  induction f with
  | zero => intro next i last v out _ _ h; simp [cLoop] at h
  | succ f ihf =>
    intro next i last v out h3 h4 h ho l0 l1
    unfold cLoop at h
    by_cases h5 : (i : Int) < n.f4
    case neg =>
      rw [if_neg h5] at h
      injection h with h
      subst h
      have := pk_end L A n hn next i last out h5 (by omega)
      exact ⟨[], Nat.zero_le _, by rw [List.append_nil]; exact this.1, by rw [List.append_nil]; exact this.2⟩
    rw [if_pos h5] at h
    by_cases h6 : next < L.length
    case neg => rw [if_neg h6] at h; cases h
    rw [if_pos h6] at h
    by_cases h7 : partB n last (nd L next) = true
    case neg => rw [if_neg h7] at h; cases h
    rw [if_pos h7] at h
    unfold partB at h7
    rw [if_neg (by omega), if_pos hn] at h7
    have h7 := of_decide_eq_true h7
    cases hx : cF L d next with
    | none => rw [hx] at h; cases h
    | some x =>
      rw [hx] at h
      have hb := cF_bound L d next x hx
      obtain ⟨b, e1, e2, e3⟩ := ih next x hx
      have hrd := noted_rd hA h6 hx
      have hAl := hA.1
      have hv := cLoop_bound L n (cF L d) (fun q y => cF_bound L d q y) f x _ _ v hb.2 h
      clear ih
      by_cases hs : wrap64 ((nd L next).f1 - last) ≤ 15
      · generalize hy : wrap64 ((wrap64 (16 * (wrap64 ((nd L next).f1 - last)))) + (nd L next).f0) % 256 = y
        have hlen := len_a1b out b y
        obtain ⟨B, g1, g2, g3⟩ := ihf x (i + 1) (nd L next).f1 v (out ++ [y] ++ b) hb.2 (by omega) h (by rw [hlen]; omega) (by omega) (by omega)
        have := pk_short L hL A hAl n hn next i x last y out b _ _ h5 h6 (by omega) hrd hs hy e1 e2 (by omega) g2 g3
        have ea : out ++ [y] ++ b ++ B = out ++ ([y] ++ b ++ B) := by simp only [List.append_assoc]
        rw [ea] at this
        refine ⟨[y] ++ b ++ B, ?_, this.1, this.2⟩
        rw [List.length_append, List.length_append, List.length_singleton]; omega
      · obtain ⟨z, z1, z2, z3, _⟩ := ZigPut_ev (nd L next).f1 (by omega) (by omega)
        generalize hy : (nd L next).f0 % 256 = y
        have hlen := len_azb out z b y
        obtain ⟨B, g1, g2, g3⟩ := ihf x (i + 1) (nd L next).f1 v (out ++ ([y] ++ z) ++ b) hb.2 (by omega) h (by rw [hlen]; omega) (by omega) (by omega)
        have := pk_long L hL A hAl n hn next i x last y out b z _ _ h5 h6 (by omega) hrd hs hy z1 z2 e1 e2 (by omega) g2 g3
        have ea : out ++ ([y] ++ z) ++ b ++ B = out ++ ([y] ++ z ++ b ++ B) := by simp only [List.append_assoc]
        rw [ea] at this
        refine ⟨[y] ++ z ++ b ++ B, ?_, this.1, this.2⟩
        rw [List.length_append, List.length_append, List.length_append, List.length_singleton]; omega
theorem pk_item (L : List S57) (hL : L.length ≤ 1500) (A : List Int) (hAl : A.length = L.length) (n : S57) (hn : n.f0 ≠ 12) (next i x : Nat) (last : Int) (out b : List Int) (R2 : List Int × Int) (R3 : List Int)
    (h5 : (i : Int) < n.f4) (h6 : next < L.length) (hi : i ≤ 3000) (hrd : rd A (next : Int) = (x : Int))
    (e1 : Ev (fun k => spec_l4Pack.f k L (next : Int)) (b, (x : Int))) (e2 : Ev (fun k => impl_tree_bytesOf.f k L A (next : Int)) b) (ho : out.length + b.length ≤ 10000000)
    (g2 : Ev (fun k => spec_l4Pack.l0 k L (x : Int) (out ++ b) ((i + 1 : Nat) : Int) n.f0 n.f1 n.f2 n.f3 n.f4) R2) (g3 : Ev (fun k => impl_tree_bytesOf.l0 k (out ++ b) (x : Int) (nd L next).f1 n.f4 ((i + 1 : Nat) : Int) L A n.f0 n.f1 n.f2 n.f3 n.f4) R3) :
    Ev (fun k => spec_l4Pack.l0 k L (next : Int) out (i : Int) n.f0 n.f1 n.f2 n.f3 n.f4) R2 ∧ Ev (fun k => impl_tree_bytesOf.l0 k out (next : Int) last n.f4 (i : Int) L A n.f0 n.f1 n.f2 n.f3 n.f4) R3 := by
  have hw : wrap64 ((i : Int) + 1) = ((i + 1 : Nat) : Int) := by rw [wrap64_id (by omega) (by omega)]; push_cast; rfl
  have c1 : (0 : Int) ≤ (next : Int) := by omega
  have c2 : (next : Int) < (L.length : Int) := by omega
  have c3 : (next : Int) < (A.length : Int) := by omega
  have c5 : out.length + b.length < 140737488355328 := by omega
  constructor
  · refine Ev.step (fun k => by rw [spec_l4Pack.l0]) ?_
    rw [hw]
    exact Ev.pos h5 (Ev.bind e1 (Ev.pos c5 g2))
  · refine Ev.step (fun k => by rw [impl_tree_bytesOf.l0]) ?_
    rw [rd_nd, hw, hrd]
    exact Ev.pos h5 (Ev.pos c1 (Ev.pos c2 (Ev.neg hn (Ev.bind e2 (Ev.pos c5 (Ev.pos c3 g3))))))
theorem pk_list (L : List S57) (hL : L.length ≤ 1500) (A : List Int) (hA : AllNoted L A) (d : Nat) (n : S57) (hn : n.f0 ≠ 12)
    (ih : ∀ p v : Nat, cF L d p = some v → ∃ B : List Int, Ev (fun k => spec_l4Pack.f k L (p : Int)) (B, (v : Int)) ∧ Ev (fun k => impl_tree_bytesOf.f k L A (p : Int)) B ∧ B.length + 20 ≤ 400 * (v - p)) :
    ∀ (f next i : Nat) (last : Int) (v : Nat) (out : List Int), next ≤ L.length → i + 1 ≤ next → cLoop L n (cF L d) f next last i = some v → out.length + 400 * (L.length - next) ≤ 1000000 →
      ∃ B : List Int, B.length ≤ 400 * (v - next) ∧ Ev (fun k => spec_l4Pack.l0 k L (next : Int) out (i : Int) n.f0 n.f1 n.f2 n.f3 n.f4) (out ++ B, (v : Int)) ∧ Ev (fun k => impl_tree_bytesOf.l0 k out (next : Int) last n.f4 (i : Int) L A n.f0 n.f1 n.f2 n.f3 n.f4) (out ++ B) := by
  intro f
  induction f with
  | zero => intro next i last v out _ _ h; simp [cLoop] at h
  | succ f ihf =>
    intro next i last v out h3 h4 h ho
    unfold cLoop at h
    by_cases h5 : (i : Int) < n.f4
    case neg =>
      rw [if_neg h5] at h
      injection h with h
      subst h
      refine ⟨[], Nat.zero_le _, ?_, ?_⟩
      · rw [List.append_nil]
        refine Ev.step (fun k => by rw [spec_l4Pack.l0]) ?_
        exact Ev.neg h5 (Ev.now _)
      · rw [List.append_nil]
        refine Ev.step (fun k => by rw [impl_tree_bytesOf.l0]) ?_
        exact Ev.neg h5 (Ev.neg hn (Ev.now _))
    rw [if_pos h5] at h
    by_cases h6 : next < L.length
    case neg => rw [if_neg h6] at h; cases h
    rw [if_pos h6] at h
    by_cases h7 : partB n last (nd L next) = true
    case neg => rw [if_neg h7] at h; cases h
    rw [if_pos h7] at h
    cases hx : cF L d next with
    | none => rw [hx] at h; cases h
    | some x =>
      rw [hx] at h
      have hb := cF_bound L d next x hx
      obtain ⟨b, e1, e2, e3⟩ := ih next x hx
      have hrd := noted_rd hA h6 hx
      have hAl := hA.1
      have hv := cLoop_bound L n (cF L d) (fun q y => cF_bound L d q y) f x _ _ v hb.2 h
      clear ih
      have hlen : (out ++ b).length = out.length + b.length := List.length_append
      obtain ⟨B, g1, g2, g3⟩ := ihf x (i + 1) (nd L next).f1 v (out ++ b) hb.2 (by omega) h (by rw [hlen]; omega)
      have := pk_item L hL A hAl n hn next i x last out b _ _ h5 h6 (by omega) hrd e1 e2 (by omega) g2 g3
      rw [List.append_assoc] at this
      refine ⟨b ++ B, ?_, this.1, this.2⟩
      rw [List.length_append]; omega
/-- The numbers of a tree's nodes are Go's. -/
def NumsOk (L : List S57) : Prop := ∀ q : Nat, -9223372036854775808 ≤ (nd L q).f2 ∧ (nd L q).f2 ≤ 9223372036854775807
theorem pack_both (L : List S57) (hL : L.length ≤ 1500) (hW : NumsOk L) (A : List Int) (hA : AllNoted L A) :
    ∀ (d p v : Nat), cF L d p = some v → ∃ B : List Int, Ev (fun k => spec_l4Pack.f k L (p : Int)) (B, (v : Int)) ∧ Ev (fun k => impl_tree_bytesOf.f k L A (p : Int)) B ∧ B.length + 20 ≤ 400 * (v - p) := by
  intro d
  induction d with
  | zero => intro p v h; simp [cF] at h
  | succ d ih =>
    intro p v h
    have hbd := cF_bound L (d + 1) p v h
    unfold cF at h
    by_cases h1 : p < L.length
    case neg => rw [if_neg h1] at h; cases h
    rw [if_pos h1] at h
    by_cases h2 : plainB (nd L p) = true
    case neg => rw [if_neg h2] at h; cases h
    rw [if_pos h2] at h
    have hAl := hA.1
    have hw : wrap64 ((p : Int) + 1) = ((p + 1 : Nat) : Int) := by rw [wrap64_id (by omega) (by omega)]; push_cast; rfl
    have hnum := hW p
    have many := plainB_many h2
    -- a node without parts
    have leaf : (nd L p).f4 = 0 → v = p + 1 := by
      intro h0
      cases hf : L.length + 1 - p with
      | zero => omega
      | succ f =>
        rw [hf] at h
        unfold cLoop at h
        rw [if_neg (by omega)] at h
        injection h with h
        omega
    have sgo : ∀ (b : Bool) (r : List Int × Int), (((nd L p).f0 = 5 → b = true) ∧ ((nd L p).f0 = 6 → b = true) ∧ (b = true → (nd L p).f0 = 5 ∨ (nd L p).f0 = 6)) → Ev (fun k => spec_l4Pack.j0 k L ((p + 1 : Nat) : Int) [] (nd L p).f0 b (nd L p).f0 (nd L p).f1 (nd L p).f2 (nd L p).f3 (nd L p).f4) r → Ev (fun k => spec_l4Pack.f k L (p : Int)) r := by
      intro b r hb hr
      refine Ev.step (fun k => by rw [spec_l4Pack.f]) ?_
      rw [rd_nd, hw]
      refine Ev.pos (by omega) (Ev.pos (by omega) (Ev.here rfl ?_))
      by_cases h5 : (nd L p).f0 = 5
      · refine Ev.pos h5 ?_
        rw [show ((nd L p).f0 == 5) = b from by rw [hb.1 h5]; exact beq_iff_eq.mpr h5]
        exact hr
      · refine Ev.neg h5 ?_
        rw [show ((nd L p).f0 == 6) = b from by
          by_cases h6 : (nd L p).f0 = 6
          · rw [hb.2.1 h6]; exact beq_iff_eq.mpr h6
          · cases b with
            | false => exact beq_eq_false_iff_ne.mpr h6
            | true => exact absurd (hb.2.2 rfl) (by omega)]
        exact hr
    have igo : ∀ (b : Bool) (r : List Int), (((nd L p).f0 = 5 → b = true) ∧ ((nd L p).f0 = 6 → b = true) ∧ (b = true → (nd L p).f0 = 5 ∨ (nd L p).f0 = 6)) → Ev (fun k => impl_tree_bytesOf.j0 k (p : Int) [] (nd L p).f0 b L A (nd L p).f0 (nd L p).f1 (nd L p).f2 (nd L p).f3 (nd L p).f4) r → Ev (fun k => impl_tree_bytesOf.f k L A (p : Int)) r := by
      intro b r hb hr
      refine Ev.step (fun k => by rw [impl_tree_bytesOf.f]) ?_
      rw [rd_nd]
      refine Ev.pos (by omega) (Ev.pos (by omega) (Ev.here rfl ?_))
      by_cases h5 : (nd L p).f0 = 5
      · refine Ev.pos h5 ?_
        rw [show ((nd L p).f0 == 5) = b from by rw [hb.1 h5]; exact beq_iff_eq.mpr h5]
        exact hr
      · refine Ev.neg h5 ?_
        rw [show ((nd L p).f0 == 6) = b from by
          by_cases h6 : (nd L p).f0 = 6
          · rw [hb.2.1 h6]; exact beq_iff_eq.mpr h6
          · cases b with
            | false => exact beq_eq_false_iff_ne.mpr h6
            | true => exact absurd (hb.2.2 rfl) (by omega)]
        exact hr
    by_cases h56 : (nd L p).f0 = 5 ∨ (nd L p).f0 = 6
    · obtain ⟨z, z1, z2, z3, _⟩ := ZigPut_ev (nd L p).f2 hnum.1 hnum.2
      have hv := leaf (by omega)
      refine ⟨z, sgo true _ ⟨fun _ => rfl, fun _ => rfl, fun _ => h56⟩ ?_, igo true _ ⟨fun _ => rfl, fun _ => rfl, fun _ => h56⟩ ?_, by omega⟩
      · rw [hv]
        exact Ev.step (fun k => by rw [spec_l4Pack.j0]) (by exact Ev.pos rfl (Ev.bind z1 (Ev.now _)))
      · exact Ev.step (fun k => by rw [impl_tree_bytesOf.j0]) (by exact Ev.pos rfl (Ev.bind z2 (Ev.now _)))
    have no56 : ((nd L p).f0 = 5 → false = true) ∧ ((nd L p).f0 = 6 → false = true) ∧ (false = true → (nd L p).f0 = 5 ∨ (nd L p).f0 = 6) := ⟨fun h => absurd (.inl h) h56, fun h => absurd (.inr h) h56, fun h => absurd h (by decide)⟩
    by_cases h8 : (nd L p).f0 = 8
    · obtain ⟨u, u1, u2, u3, _⟩ := UvarPut_ev ((nd L p).f3.size : Int)
      have hsz : (nd L p).f3.size ≤ 300 := by
        have hp := h2
        unfold plainB at hp
        rw [if_neg (by omega), if_neg (by omega), if_neg (by omega), if_pos h8] at hp
        simp only [Bool.and_eq_true, decide_eq_true_eq] at hp
        omega
      have hv := leaf (by omega)
      have hl := bytesOf_length (nd L p).f3
      refine ⟨u ++ bytesOf (nd L p).f3, sgo false _ no56 ?_, igo false _ no56 ?_, by rw [List.length_append]; omega⟩
      · rw [hv]
        exact Ev.step (fun k => by rw [spec_l4Pack.j0]) (by exact Ev.neg (by decide) (Ev.pos h8 (Ev.bind u1 (Ev.pos (by omega) (Ev.now _)))))
      · exact Ev.step (fun k => by rw [impl_tree_bytesOf.j0]) (by exact Ev.neg (by decide) (Ev.pos h8 (Ev.bind u2 (Ev.pos (by omega) (Ev.now _)))))
    have ij1 : ∀ (out r : List Int), Ev (fun k => impl_tree_bytesOf.l0 k out ((p + 1 : Nat) : Int) 0 (nd L p).f4 0 L A (nd L p).f0 (nd L p).f1 (nd L p).f2 (nd L p).f3 (nd L p).f4) r → Ev (fun k => impl_tree_bytesOf.j1 k (p : Int) out L A (nd L p).f0 (nd L p).f1 (nd L p).f2 (nd L p).f3 (nd L p).f4) r := by
      intro out r h
      refine Ev.step (fun k => by rw [impl_tree_bytesOf.j1]) ?_
      rw [hw]; exact h
    by_cases h9 : (nd L p).f0 = 9
    · have body : ∀ out : List Int, out.length ≤ 20 → ∃ B : List Int, B.length ≤ 400 * (v - (p + 1)) ∧ Ev (fun k => spec_l4Pack.l0 k L ((p + 1 : Nat) : Int) out ((0 : Nat) : Int) (nd L p).f0 (nd L p).f1 (nd L p).f2 (nd L p).f3 (nd L p).f4) (out ++ B, (v : Int)) ∧ Ev (fun k => impl_tree_bytesOf.l0 k out ((p + 1 : Nat) : Int) 0 (nd L p).f4 ((0 : Nat) : Int) L A (nd L p).f0 (nd L p).f1 (nd L p).f2 (nd L p).f3 (nd L p).f4) (out ++ B) :=
        fun out ho => pk_list L hL A hA d (nd L p) (by omega) ih (L.length + 1 - p) (p + 1) 0 0 v out (by omega) (by omega) h (by omega)
      by_cases h14 : (nd L p).f4 ≤ 14
      · obtain ⟨B, g1, g2, g3⟩ := body [wrap64 ((wrap64 (16 * (nd L p).f4)) + (nd L p).f2) % 256] (by simp)
        refine ⟨[wrap64 ((wrap64 (16 * (nd L p).f4)) + (nd L p).f2) % 256] ++ B, sgo false _ no56 ?_, igo false _ no56 ?_, by rw [List.length_append, List.length_singleton]; omega⟩
        · refine Ev.step (fun k => by rw [spec_l4Pack.j0]) ?_
          refine Ev.neg (by decide) (Ev.neg h8 (Ev.pos h9 (Ev.pos h14 (Ev.pos (by simp) ?_))))
          refine Ev.step (fun k => by rw [spec_l4Pack.j1]) ?_
          exact g2
        · refine Ev.step (fun k => by rw [impl_tree_bytesOf.j0]) ?_
          exact Ev.neg (by decide) (Ev.neg h8 (Ev.pos h9 (Ev.pos h14 (Ev.pos (by simp) (ij1 _ _ g3)))))
      · obtain ⟨u, u1, u2, u3, _⟩ := UvarPut_ev (nd L p).f4
        obtain ⟨B, g1, g2, g3⟩ := body ([wrap64 (240 + (nd L p).f2) % 256] ++ u) (by rw [List.length_append, List.length_singleton]; omega)
        refine ⟨([wrap64 (240 + (nd L p).f2) % 256] ++ u) ++ B, sgo false _ no56 ?_, igo false _ no56 ?_, by rw [List.length_append, List.length_append, List.length_singleton]; omega⟩
        · refine Ev.step (fun k => by rw [spec_l4Pack.j0]) ?_
          refine Ev.neg (by decide) (Ev.neg h8 (Ev.pos h9 (Ev.neg h14 (Ev.pos (by simp) (Ev.here rfl (Ev.bind u1 (Ev.pos (by simp; omega) ?_)))))))
          refine Ev.step (fun k => by rw [spec_l4Pack.j1]) ?_
          exact g2
        · refine Ev.step (fun k => by rw [impl_tree_bytesOf.j0]) ?_
          exact Ev.neg (by decide) (Ev.neg h8 (Ev.pos h9 (Ev.neg h14 (Ev.here rfl (Ev.bind u2 (Ev.pos (by simp; omega) (ij1 _ _ g3)))))))
    by_cases h12 : (nd L p).f0 = 12
    · obtain ⟨B, g1, g2, g3⟩ := pk_struct L hL A hA d (nd L p) h12 ih (L.length + 1 - p) (p + 1) 0 0 v [] (by omega) (by omega) h (by rw [List.length_nil]; omega) (by omega) (by omega)
      refine ⟨[] ++ B ++ [0], sgo false _ no56 ?_, igo false _ no56 ?_, ?_⟩
      · refine Ev.step (fun k => by rw [spec_l4Pack.j0]) ?_
        exact Ev.neg (by decide) (Ev.neg h8 (Ev.neg h9 (Ev.pos h12 g2)))
      · refine Ev.step (fun k => by rw [impl_tree_bytesOf.j0]) ?_
        exact Ev.neg (by decide) (Ev.neg h8 (Ev.neg h9 (ij1 _ _ g3)))
      · rw [List.length_append, List.length_append, List.length_nil, List.length_singleton]; omega
    · have h40 : (nd L p).f4 = 0 := by omega
      have hv := leaf h40
      refine ⟨[], sgo false _ no56 ?_, igo false _ no56 ?_, by rw [List.length_nil]; omega⟩
      · rw [hv]
        refine Ev.step (fun k => by rw [spec_l4Pack.j0]) ?_
        exact Ev.neg (by decide) (Ev.neg h8 (Ev.neg h9 (Ev.neg h12 (Ev.now _))))
      · refine Ev.step (fun k => by rw [impl_tree_bytesOf.j0]) ?_
        refine Ev.neg (by decide) (Ev.neg h8 (Ev.neg h9 (ij1 _ _ ?_)))
        refine Ev.step (fun k => by rw [impl_tree_bytesOf.l0]) ?_
        exact Ev.neg (by omega) (Ev.neg h12 (Ev.now _))
theorem TreePack_both (L : List S57) (hW : NumsOk L) : ∃ r : List Int × Bool, Ev (fun k => spec_TreePack.f k L) r ∧ Ev (fun k => impl_TreePack.f k L) r ∧ r.1.length ≤ 600000 ∧ r.2 = treeB L := by
  have ht := impl_treeOf_ev L
  have hk := spec_TreeOk_ev L
  unfold spec_TreePack.f impl_TreePack.f
  cases hb : treeB L with
  | false =>
    rw [hb] at ht hk
    rw [if_neg (by decide)] at ht
    exact ⟨([], false), Ev.bind hk (Ev.neg (by decide) (Ev.now _)), Ev.bind ht (Ev.neg (by decide) (Ev.now _)), by simp, rfl⟩
  | true =>
    have hl := treeB_len hb
    have hA := afterR_noted hb
    have hc := treeB_cF hb
    rw [hb] at ht hk
    rw [if_pos rfl] at ht
    obtain ⟨B, e1, e2, e3⟩ := pack_both L hl.2 hW _ hA 12 0 L.length hc
    exact ⟨(B, true), Ev.bind hk (Ev.pos rfl (Ev.bind e1 (Ev.now _))), Ev.bind ht (Ev.pos rfl (Ev.bind e2 (Ev.now _))), by dsimp only; omega, rfl⟩
/-! ### Trees that are told node by node -/
theorem noT_nil : noT (⟨#[]⟩ : ByteArray) = true := by unfold noT; rw [ByteArray.toList_eq]; rfl
theorem numsOk_of {L : List S57} (h : ∀ n ∈ L, -9223372036854775808 ≤ n.f2 ∧ n.f2 ≤ 9223372036854775807) : NumsOk L := by
  intro q
  by_cases hq : q < L.length
  · rw [show nd L q = L[q] from getD_eq hq]; exact h _ (List.getElem_mem hq)
  · have : nd L q = z57 := by unfold nd; rw [List.getD_eq_getElem?_getD, List.getElem?_eq_none (by omega)]; rfl
    rw [this]; exact ⟨by decide, by decide⟩
theorem cl_step {L : List S57} {n : S57} {rec : Nat → Option Nat} {f next i x : Nat} {last : Int} (h1 : (i : Int) < n.f4) (h2 : next < L.length) (h3 : partB n last (nd L next) = true) (h4 : rec next = some x) :
    cLoop L n rec (f + 1) next last i = cLoop L n rec f x (nd L next).f1 (i + 1) := by
  rw [cLoop, if_pos h1, if_pos h2, if_pos h3, h4]
theorem cl_end {L : List S57} {n : S57} {rec : Nat → Option Nat} {f next i : Nat} {last : Int} (h1 : ¬ (i : Int) < n.f4) : cLoop L n rec (f + 1) next last i = some next := by
  rw [cLoop, if_neg h1]
/-- A node without parts. -/
theorem cF_leaf {L : List S57} {d p : Nat} (h : p < L.length) (hp : plainB (nd L p) = true) (h4 : (nd L p).f4 = 0) : cF L (d + 1) p = some (p + 1) := by
  rw [cF, if_pos h, if_pos hp, show L.length + 1 - p = (L.length - p) + 1 by omega]
  exact cl_end (by omega)
theorem plain_int (i x : Int) (h0 : -2147483648 ≤ x) (h1 : x ≤ 2147483647) : plainB (⟨5, i, x, (⟨#[]⟩ : ByteArray), 0⟩ : S57) = true := by
  unfold plainB
  rw [if_neg (by dsimp only; omega), if_pos rfl]
  simp [noT_nil, h0, h1]
theorem plain_struct (i m : Int) (h0 : 0 ≤ m) : plainB (⟨12, i, 0, (⟨#[]⟩ : ByteArray), m⟩ : S57) = true := by
  unfold plainB
  rw [if_neg (by dsimp only; omega), if_neg (by dsimp only; omega), if_neg (by dsimp only; omega), if_neg (by dsimp only; omega), if_neg (by dsimp only; omega), if_pos rfl]
  simp [noT_nil, h0]
theorem cF_struct {L : List S57} {d p : Nat} {i m : Int} {r : Option Nat} (h : p < L.length) (hp : nd L p = ⟨12, i, 0, (⟨#[]⟩ : ByteArray), m⟩) (h0 : 0 ≤ m) (hr : cLoop L ⟨12, i, 0, (⟨#[]⟩ : ByteArray), m⟩ (cF L d) (L.length + 1 - p) (p + 1) 0 0 = r) : cF L (d + 1) p = r := by
  rw [cF, if_pos h, hp, if_pos (plain_struct i m h0)]; exact hr
theorem part_struct {i m last : Int} {n : S57} (h : last < n.f1) (h2 : n.f1 ≤ 1000) : partB (⟨12, i, 0, (⟨#[]⟩ : ByteArray), m⟩ : S57) last n = true := by
  unfold partB
  rw [if_neg (by dsimp only; omega), if_pos rfl, decide_eq_true ⟨h, h2⟩]
/-- A part that is a number, in a struct. -/
theorem cl_int {L : List S57} {i m : Int} {d f next k : Nat} {last id x : Int} {r : Option Nat} (hn : nd L next = ⟨5, id, x, (⟨#[]⟩ : ByteArray), 0⟩) (h1 : (k : Int) < m) (h2 : next < L.length) (h3 : last < id) (h4 : id ≤ 1000) (h5 : -2147483648 ≤ x) (h6 : x ≤ 2147483647)
    (hr : cLoop L ⟨12, i, 0, (⟨#[]⟩ : ByteArray), m⟩ (cF L (d + 1)) f (next + 1) id (k + 1) = r) : cLoop L ⟨12, i, 0, (⟨#[]⟩ : ByteArray), m⟩ (cF L (d + 1)) (f + 1) next last k = r := by
  rw [cl_step (x := next + 1) h1 h2 (by rw [hn]; exact part_struct h3 h4) (cF_leaf h2 (by rw [hn]; exact plain_int _ _ h5 h6) (by rw [hn])), hn]
  exact hr
/-! ### Pages -/
theorem bytesOf_range (s : ByteArray) : ∀ x ∈ bytesOf s, 0 ≤ x ∧ x ≤ 255 := by
  intro x hx
  obtain ⟨u, _, rfl⟩ := List.mem_map.1 hx
  have := u.toNat_lt
  omega
theorem wbytes_range (v : Int) (n : Nat) : ∀ x ∈ wbytes v n, 0 ≤ x ∧ x ≤ 255 := by
  intro x hx
  obtain ⟨u, _, rfl⟩ := List.mem_map.1 hx
  omega
theorem plainR_range (t : Int) (l : List S27) : ∀ x ∈ (plainR t l).1, 0 ≤ x ∧ x ≤ 255 := by
  intro x hx
  unfold plainR at hx
  by_cases h : vsOk t l = true
  · rw [if_pos h] at hx
    by_cases h0 : t = 0
    · rw [if_pos h0] at hx; exact (bitsR_ok _ _).2 x hx
    · rw [if_neg h0] at hx
      obtain ⟨v, _, hv⟩ := List.mem_flatMap.1 hx
      unfold pbytes at hv
      by_cases h6 : t = 6
      · rw [if_pos h6] at hv
        rcases List.mem_append.1 hv with h' | h'
        · exact wbytes_range _ _ x h'
        · exact bytesOf_range _ x h'
      · rw [if_neg h6] at hv; exact wbytes_range _ _ x hv
  · rw [if_neg h] at hx; exact absurd hx (by simp)
def inode (i x : Int) : S57 := ⟨5, i, x, (⟨#[]⟩ : ByteArray), 0⟩
def snode (i m : Int) : S57 := ⟨12, i, 0, (⟨#[]⟩ : ByteArray), m⟩
/-- The sum as an Int32. -/
def crcI (b : List Int) : Int := if crcR b > 2147483647 then crcR b - 4294967296 else crcR b
theorem crcI_range (b : List Int) (hb : ∀ x ∈ b, 0 ≤ x ∧ x ≤ 255) : -2147483648 ≤ crcI b ∧ crcI b ≤ 2147483647 := by
  have := crcR_range b hb
  unfold crcI
  by_cases h : crcR b > 2147483647
  · rw [if_pos h]; omega
  · rw [if_neg h]; omega
/-- The nodes of a page. -/
def pgL (kind : Int) (b : List Int) (sum : Bool) (own : List S57) : List S57 :=
  if sum = true then [snode 0 5, inode 1 kind, inode 2 (b.length : Int), inode 3 (b.length : Int), inode 4 (crcI b)] ++ own else [snode 0 4, inode 1 kind, inode 2 (b.length : Int), inode 3 (b.length : Int)] ++ own
theorem page_both (kind : Int) (b : List Int) (sum : Bool) (own : List S57) (hl : b.length ≤ 1000000) (hb : ∀ x ∈ b, 0 ≤ x ∧ x ≤ 255) (ho : own.length ≤ 1000) (hk : -2147483648 ≤ kind ∧ kind ≤ 2147483647)
    (hw : ∀ n ∈ own, -9223372036854775808 ≤ n.f2 ∧ n.f2 ≤ 9223372036854775807) (ht : treeB (pgL kind b sum own) = true) :
    ∃ r : List Int, Ev (fun k => spec_l16Page.f k kind b sum own) (r, true) ∧ Ev (fun k => impl_pageOf.f k kind b sum own) r ∧ r.length ≤ 1700000 := by
  have hc := crcI_range b hb
  have hcr := crcR_range b hb
  have hN : NumsOk (pgL kind b sum own) := by
    refine numsOk_of fun n hn => ?_
    unfold pgL at hn
    cases sum with
    | true =>
      rw [if_pos rfl] at hn
      simp only [List.cons_append, List.nil_append, List.mem_cons] at hn
      rcases hn with rfl | rfl | rfl | rfl | rfl | hn
      iterate 5 (simp only [snode, inode]; omega)
      exact hw n hn
    | false =>
      rw [if_neg (by decide)] at hn
      simp only [List.cons_append, List.nil_append, List.mem_cons] at hn
      rcases hn with rfl | rfl | rfl | rfl | hn
      iterate 4 (simp only [snode, inode]; omega)
      exact hw n hn
  obtain ⟨r, es, ei, hr, hr2⟩ := TreePack_both (pgL kind b sum own) hN
  rw [ht] at hr2
  have e2 : r = (r.1, true) := by rw [← hr2]
  refine ⟨r.1 ++ b, ?_, ?_, by rw [List.length_append]; omega⟩
  · unfold spec_l16Page.f spec_l16Int.f
    refine Ev.here rfl (Ev.here rfl (Ev.here rfl (Ev.here rfl ?_)))
    cases sum with
    | true =>
      unfold pgL at es
      rw [if_pos rfl] at es
      refine Ev.pos rfl (Ev.bind (spec_CrcOf_ev b (by omega) hb) ?_)
      have fin : ∀ x : Int, x = crcI b → Ev (fun k => spec_l16Page.j0 k b own [snode 0 4, inode 1 kind, inode 2 (b.length : Int), inode 3 (b.length : Int)] x) (r.1 ++ b, true) := by
        intro x hx
        subst hx
        refine Ev.step (fun k => by rw [spec_l16Page.j0]) ?_
        unfold spec_l16Int.f
        refine Ev.pos (by simp) (Ev.here rfl (Ev.here rfl (Ev.pos (by simp) (Ev.here rfl (Ev.pos (by simp; omega) ?_)))))
        refine Ev.bind (a := r) es (Ev.pos hr2 (Ev.pos (by omega) (Ev.now _)))
      unfold crcI at fin
      by_cases h : crcR b > 2147483647
      · refine Ev.pos h (fin _ ?_)
        rw [if_pos h, wrap64_id (by omega) (by omega)]
      · refine Ev.neg h (fin _ ?_)
        rw [if_neg h]
    | false =>
      unfold pgL at es
      rw [if_neg (by decide)] at es
      refine Ev.neg (by decide) (Ev.pos (by simp; omega) ?_)
      exact Ev.bind (a := r) es (Ev.pos hr2 (Ev.pos (by omega) (Ev.now _)))
  · unfold impl_pageOf.f impl_intNode.f
    refine Ev.here rfl (Ev.here rfl (Ev.here rfl (Ev.here rfl ?_)))
    cases sum with
    | true =>
      unfold pgL at ei
      rw [if_pos rfl] at ei
      refine Ev.pos rfl (Ev.bind (impl_CrcOf_ev b (by omega) hb) ?_)
      have hs : Ev (fun k => impl_structNode.f k 0 [[inode 1 kind], [inode 2 (b.length : Int)], [inode 3 (b.length : Int)], [inode 4 (crcI b)], own]) ([snode 0 5, inode 1 kind, inode 2 (b.length : Int), inode 3 (b.length : Int), inode 4 (crcI b)] ++ own) :=
        Ev.cast (structNode_ev 0 1000 [[inode 1 kind], [inode 2 (b.length : Int)], [inode 3 (b.length : Int)], [inode 4 (crcI b)], own] (by simp) (by intro x hx; simp only [List.mem_cons, List.not_mem_nil, or_false] at hx; rcases hx with rfl | rfl | rfl | rfl | rfl <;> first | exact ho | simp) (by simp)) (by simp [snode])
      have hi : impl_isInt32.f (crcR b) = some (decide (-2147483648 ≤ crcR b ∧ crcR b ≤ 2147483647)) := by unfold impl_isInt32.f; rw [within_some]; rfl
      refine Ev.here hi ?_
      by_cases h : crcR b > 2147483647
      · have hd : decide (-2147483648 ≤ crcR b ∧ crcR b ≤ 2147483647) = false := decide_eq_false (by omega)
        have hx : wrap64 (crcR b - 4294967296) = crcI b := by unfold crcI; rw [if_pos h, wrap64_id (by omega) (by omega)]
        rw [hd, hx]
        refine Ev.neg (by decide) (Ev.here rfl (Ev.pos (by simp) (Ev.here rfl (Ev.pos (by simp) (Ev.bind hs (Ev.bind ei (Ev.pos (by omega) (Ev.now _))))))))
      · have hd : decide (-2147483648 ≤ crcR b ∧ crcR b ≤ 2147483647) = true := decide_eq_true (by omega)
        have hx : crcR b = crcI b := by unfold crcI; rw [if_neg h]
        rw [hd]
        rw [← hx] at hs ei
        refine Ev.pos rfl (Ev.here rfl (Ev.pos (by simp) (Ev.here rfl (Ev.pos (by simp) (Ev.bind hs (Ev.bind ei (Ev.pos (by omega) (Ev.now _))))))))
    | false =>
      unfold pgL at ei
      rw [if_neg (by decide)] at ei
      have hs : Ev (fun k => impl_structNode.f k 0 [[inode 1 kind], [inode 2 (b.length : Int)], [inode 3 (b.length : Int)], own]) ([snode 0 4, inode 1 kind, inode 2 (b.length : Int), inode 3 (b.length : Int)] ++ own) :=
        Ev.cast (structNode_ev 0 1000 [[inode 1 kind], [inode 2 (b.length : Int)], [inode 3 (b.length : Int)], own] (by simp) (by intro x hx; simp only [List.mem_cons, List.not_mem_nil, or_false] at hx; rcases hx with rfl | rfl | rfl | rfl <;> first | exact ho | simp) (by simp)) (by simp [snode])
      exact Ev.neg (by decide) (Ev.pos (by simp) (Ev.bind hs (Ev.bind ei (Ev.pos (by omega) (Ev.now _)))))
theorem dict_tree (b : List Int) (sum : Bool) (n : Int) (hl : b.length ≤ 1000000) (hb : ∀ x ∈ b, 0 ≤ x ∧ x ≤ 255) (h0 : 0 ≤ n) (h1 : n ≤ 2000000) : treeB (pgL 2 b sum [snode 7 2, inode 1 n, inode 2 0]) = true := by
  have hc := crcI_range b hb
  have fin : ∀ (L : List S57) (m : Nat), L.length = m → 1 ≤ m → m ≤ 1500 → (nd L 0).f0 = 12 → (nd L 0).f1 = 0 → cF L 12 0 = some m → treeB L = true := by
    intro L m hm m1 m2 h12 h10 hF
    unfold treeB
    rw [hF, show rd_T57 L 0 = nd L 0 from rfl, decide_eq_true (show 1 ≤ (L.length : Int) ∧ (L.length : Int) ≤ 1500 by omega), decide_eq_true h12, decide_eq_true h10, decide_eq_true (show oN (some m) = (L.length : Int) by rw [oN_some]; omega)]
    rfl
  unfold pgL
  cases sum with
  | true =>
    rw [if_pos rfl]
    refine fin _ 8 rfl (by omega) (by omega) rfl rfl ?_
    refine cF_struct (i := 0) (m := 5) (by simp) rfl (by omega) ?_
    refine cl_int (f := 8) (id := 1) (x := 2) rfl (by omega) (by simp) (by omega) (by omega) (by omega) (by omega) ?_
    refine cl_int (f := 7) (id := 2) (x := (b.length : Int)) rfl (by omega) (by simp) (by omega) (by omega) (by omega) (by omega) ?_
    refine cl_int (f := 6) (id := 3) (x := (b.length : Int)) rfl (by omega) (by simp) (by omega) (by omega) (by omega) (by omega) ?_
    refine cl_int (f := 5) (id := 4) (x := crcI b) rfl (by omega) (by simp) (by omega) (by omega) (by omega) (by omega) ?_
    refine (cl_step (x := 8) (by dsimp only; omega) (by simp) (part_struct (by show (4 : Int) < 7; omega) (by show (7 : Int) ≤ 1000; omega)) ?_).trans ?_
    rotate_left
    · exact cl_end (by simp)
    refine cF_struct (i := 7) (m := 2) (by simp) rfl (by omega) ?_
    refine cl_int (f := 3) (id := 1) (x := n) rfl (by omega) (by simp) (by omega) (by omega) (by omega) (by omega) ?_
    refine cl_int (f := 2) (id := 2) (x := 0) rfl (by omega) (by simp) (by omega) (by omega) (by omega) (by omega) ?_
    exact cl_end (by simp)
  | false =>
    rw [if_neg (by decide)]
    refine fin _ 7 rfl (by omega) (by omega) rfl rfl ?_
    refine cF_struct (i := 0) (m := 4) (by simp) rfl (by omega) ?_
    refine cl_int (f := 7) (id := 1) (x := 2) rfl (by omega) (by simp) (by omega) (by omega) (by omega) (by omega) ?_
    refine cl_int (f := 6) (id := 2) (x := (b.length : Int)) rfl (by omega) (by simp) (by omega) (by omega) (by omega) (by omega) ?_
    refine cl_int (f := 5) (id := 3) (x := (b.length : Int)) rfl (by omega) (by simp) (by omega) (by omega) (by omega) (by omega) ?_
    refine (cl_step (x := 7) (by dsimp only; omega) (by simp) (part_struct (by show (3 : Int) < 7; omega) (by show (7 : Int) ≤ 1000; omega)) ?_).trans ?_
    rotate_left
    · exact cl_end (by simp)
    refine cF_struct (i := 7) (m := 2) (by simp) rfl (by omega) ?_
    refine cl_int (f := 3) (id := 1) (x := n) rfl (by omega) (by simp) (by omega) (by omega) (by omega) (by omega) ?_
    refine cl_int (f := 2) (id := 2) (x := 0) rfl (by omega) (by simp) (by omega) (by omega) (by omega) (by omega) ?_
    exact cl_end (by simp)
theorem DictPack_both (t : Int) (l : List S27) (sum : Bool) (hl : l.length ≤ 1048576) :
    ∃ r : List Int × Bool, Ev (fun k => spec_DictPack.f k t l sum) r ∧ Ev (fun k => impl_DictPack.f k t l sum) r ∧ r.1.length ≤ 1700000 := by
  have es := spec_PlainPack_ev t l hl
  have ei := impl_PlainPack_ev t l hl
  have hle := plainR_le t l
  have hrg := plainR_range t l
  have hok : (plainR t l).2 = true → l.length ≤ 2000 := by
    intro h
    unfold plainR at h
    by_cases hv : vsOk t l = true
    · exact (vsOk_type hv).2
    · rw [if_neg hv] at h; cases h
  generalize plainR t l = q at *
  obtain ⟨b, ok⟩ := q
  unfold spec_DictPack.f impl_DictPack.f spec_l16Int.f impl_intNode.f
  cases ok with
  | false => exact ⟨([], false), Ev.bind es (Ev.neg Bool.false_ne_true (Ev.now _)), Ev.bind ei (Ev.neg Bool.false_ne_true (Ev.now _)), by simp⟩
  | true =>
    have hn := hok rfl
    have hle : b.length ≤ 100000 := hle
    have hs : Ev (fun k => impl_structNode.f k 7 [[inode 1 (l.length : Int)], [inode 2 0]]) [snode 7 2, inode 1 (l.length : Int), inode 2 0] :=
      Ev.cast (structNode_ev 7 1000 [[inode 1 (l.length : Int)], [inode 2 0]] (by simp) (by intro x hx; simp only [List.mem_cons, List.not_mem_nil, or_false] at hx; rcases hx with rfl | rfl <;> simp) (by simp)) (by simp [snode])
    obtain ⟨r, p1, p2, p3⟩ := page_both 2 b sum [snode 7 2, inode 1 (l.length : Int), inode 2 0] (by omega) hrg (by simp) (by omega) (by
      intro n hn
      simp only [List.mem_cons, List.not_mem_nil, or_false] at hn
      rcases hn with rfl | rfl | rfl
      iterate 3 (simp only [snode, inode]; omega)) (dict_tree b sum _ (by omega) hrg (by omega) (by omega))
    exact ⟨(r, true), Ev.bind es (Ev.pos rfl (Ev.here rfl (Ev.here rfl (Ev.bind p1 (Ev.now _))))), Ev.bind ei (Ev.pos rfl (Ev.here rfl (Ev.here rfl (Ev.bind hs (Ev.bind p2 (Ev.now _)))))), p3⟩
theorem FnExactDictPack : ∀ (x0 : Int) (x1 : List (S66)) (x2 : Bool), ((Lit.int .i64 x0).wf = true) → (x1.length ≤ maxLen ∧ ∀ y ∈ x1, w66 y) → ∃ k, laws_FnExactDictPack.f k x0 x1 x2 = some true := by
  intro t p s _ hp
  refine Ev.rounds ?_
  unfold laws_FnExactDictPack.f
  obtain ⟨r1, s1, c1, l1⟩ := szValS_ev p hp.1 hp.2 1048576 (by omega) (by omega)
  refine Ev.bind s1 ?_
  by_cases n1 : r1 < 0
  · exact Ev.pos n1 (Ev.now _)
  refine Ev.neg n1 ?_
  have t1 := toValS_ev p (by omega)
  have lp : (p.map cvVal).length = p.length := by simp
  generalize p.map cvVal = P at *
  obtain ⟨r, es, ei, hr⟩ := DictPack_both t P s (by omega)
  have q1 := eqValS_ev P (by omega)
  have q3 := eqByteS_ev r.1 (by omega)
  obtain ⟨m1, y1, p1, k1, _⟩ := markValS_evm P 1 (by omega) (by omega)
  obtain ⟨m3, y3, p3, k3, k4⟩ := markByteS_ev r.1 1 (by omega) (by omega)
  repeat' (first
    | with_reducible exact Ev.now _
    | with_reducible refine Ev.bind t1 ?_ | with_reducible refine Ev.bind es ?_ | with_reducible refine Ev.bind ei ?_
    | with_reducible refine Ev.bind q1 ?_ | with_reducible refine Ev.bind q3 ?_
    | with_reducible refine Ev.bind k1 ?_ | with_reducible refine Ev.bind k3 ?_ | with_reducible refine Ev.bind k4 ?_
    | refine Ev.pos (by first | rfl | omega) ?_
    | refine Ev.neg (by first | omega | decide | simp) ?_
    | refine Ev.step (fun k => by rw [laws_FnExactDictPack.j0]) ?_
    | refine Ev.step (fun k => by rw [laws_FnExactDictPack.j1]) ?_
    | refine Ev.step (fun k => by rw [laws_FnExactDictPack.j2]) ?_)
end Go.Proofs.Ytgiljoeekpfpmaa.Pure
