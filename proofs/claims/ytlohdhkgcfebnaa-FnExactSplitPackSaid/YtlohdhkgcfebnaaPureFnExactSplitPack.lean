/- The pure statement of FnExactSplitPack: the printed functions answer as the law says, for all arguments. No condition. -/
import Derived.Test.YtlohdhkgcfebnaaCore
import Derived.Test.YtlohdhkgcfebnaaPFnExactSplitPackx
import Derived.Test.YtlohdhkgcfebnaaArgFnExactSplitPack
namespace Go.Proofs.Ytlohdhkgcfebnaa.Pure
open Go.RowKit Go.Proofs.Ytlohdhkgcfebnaa.PFnExactSplitPack Go.Proofs.Ytlohdhkgcfebnaa.Core Go.Proofs.YtlohdhkgcfebnaaW.PrintWords Go.Proofs.YtlohdhkgcfebnaaW.PrintLast Go.Proofs.YtlohdhkgcfebnaaW.PrintMore Go.Proofs.Ytlohdhkgcfebnaa.AFnExactSplitPack
set_option linter.unusedVariables false
set_option linter.unusedSimpArgs false
def cvVal (x : S112) : S83 := ⟨x.f0, x.f1⟩
theorem toValS_ev (l : List S112) (hl : l.length ≤ 1048576) : Ev (fun k => laws_toValS.f k l) (l.map cvVal) := by
  unfold laws_toValS.f
  refine Ev.pos (by omega) (Ev.pos (by omega) ?_)
  refine copy_loop (fun k out i => laws_toValS.l0 k l out i) l cvVal (fun out i r h ho hr => ?_) (fun out ho => ?_) (List.replicate ((l.length : Int)).toNat z83) (by simp)
  · refine Ev.step (fun k => by rw [laws_toValS.l0]) ?_
    refine Ev.pos (by omega) (Ev.pos (by omega) (Ev.here rfl (Ev.pos (by omega) ?_)))
    rw [wrap64_id (by omega) (by omega)]
    have e : rd_T112 l (i : Int) = l[i] := getD_eq (by simpa using h)
    simp only [e]
    simpa [cvVal] using hr
  · exact Ev.step (fun k => by rw [laws_toValS.l0]) (by exact Ev.neg (by omega) (Ev.now _))
theorem szVal_some (x : S112) (hw : w112 x) (c : Int) (h0 : 0 ≤ c) (h1 : c ≤ 1048576) : ∃ r, laws_szVal.f x.f0 x.f1 c = some r ∧ r ≤ c := by
  have b0 : (x.f1.size : Int) ≤ 9223372036854775807 := by have := hw.2; unfold maxLen at this; omega
  unfold laws_szVal.f
  rw [wrap64_id (x := c - (x.f1.size : Int)) (by omega) (by omega)]
  by_cases n0 : c - (x.f1.size : Int) < 0
  · exact ⟨-1, by simp [n0], by omega⟩
  simp only [if_neg n0, Option.bind_some]
  exact ⟨_, rfl, by omega⟩
theorem szValS_ev (l : List S112) (hw : l.length ≤ maxLen) (ht : ∀ x ∈ l, w112 x) (c : Int) (h0 : 0 ≤ c) (h1 : c ≤ 1048576) : ∃ r, Ev (fun k => laws_szValS.f k l c) r ∧ r ≤ c ∧ (0 ≤ r → r + l.length ≤ c) := by
  have hm : l.length ≤ 9223372036854775807 := by unfold maxLen at hw; omega
  unfold laws_szValS.f
  rw [wrap64_id (by omega) (by omega)]
  by_cases hn : c - (l.length : Int) < 0
  · exact ⟨-1, Ev.pos hn (Ev.now _), by omega, by omega⟩
  · obtain ⟨r, hr, hrc⟩ := budget_loop (fun k c i => laws_szValS.l0 k l c i) l.length (fun c i hc0 hc1 hi => by
      have e : rd_T112 l (i : Int) = l[i] := getD_eq (by simpa using hi)
      obtain ⟨c', hc', hle⟩ := szVal_some l[i] (ht l[i] (List.getElem_mem hi)) c hc0 hc1
      refine ⟨c', hle, fun hneg => ?_, fun hpos r hr => ?_⟩
      · exact Ev.step (fun k => by rw [laws_szValS.l0]) (by exact Ev.pos (by omega) (Ev.pos (by omega) (Ev.here (by rw [e]; exact hc') (Ev.pos hneg (Ev.now _)))))
      · refine Ev.step (fun k => by rw [laws_szValS.l0]) ?_
        refine Ev.pos (by omega) (Ev.pos (by omega) (Ev.here (by rw [e]; exact hc') (Ev.neg (by omega) ?_)))
        rw [wrap64_id (by omega) (by omega)]
        simpa using hr)
      (fun c => Ev.step (fun k => by rw [laws_szValS.l0]) (by exact Ev.neg (by omega) (Ev.now _))) (c - l.length) (by omega) (by omega)
    exact ⟨r, Ev.neg hn hr, by omega, by omega⟩
theorem eqVal_ev (a : S83) : laws_eqVal.f a.f0 a.f1 a.f0 a.f1 = some true := by
  unfold laws_eqVal.f
  simp
theorem eqValS_ev (l : List S83) (hl : l.length ≤ 9223372036854775806) : Ev (fun k => laws_eqValS.f k l l) true := by
  unfold laws_eqValS.f
  refine Ev.pos rfl ?_
  refine same_loop (fun k i => laws_eqValS.l0 k l l i) l.length (fun i r h hr => ?_) ?_
  · refine Ev.step (fun k => by rw [laws_eqValS.l0]) ?_
    refine Ev.pos (by omega) (Ev.pos (by omega) (Ev.pos (by omega) (Ev.here (eqVal_ev _) (Ev.pos rfl ?_))))
    rw [wrap64_id (by omega) (by omega)]
    simpa using hr
  · exact Ev.step (fun k => by rw [laws_eqValS.l0]) (by exact Ev.neg (by omega) (Ev.now _))
theorem eqByteS_ev (l : List Int) (hl : l.length ≤ 9223372036854775806) : Ev (fun k => laws_eqByteS.f k l l) true := by
  unfold laws_eqByteS.f
  refine Ev.pos rfl ?_
  refine same_loop (fun k i => laws_eqByteS.l0 k l l i) l.length (fun i r h hr => ?_) ?_
  · refine Ev.step (fun k => by rw [laws_eqByteS.l0]) ?_
    refine Ev.pos (by omega) (Ev.pos (by omega) (Ev.pos (by omega) (Ev.pos rfl ?_)))
    rw [wrap64_id (by omega) (by omega)]
    simpa using hr
  · exact Ev.step (fun k => by rw [laws_eqByteS.l0]) (by exact Ev.neg (by omega) (Ev.now _))
theorem markByteS_ev (l : List Int) (c : Int) (hc : 0 ≤ c) (hl : c + l.length ≤ 9223372036854775806) : ∃ m ys, m = c + l.length ∧ Ev (fun k => laws_markByteS.f k l c) (m, ys) ∧ Ev (fun k => laws_heldByteS.f k ys c) m := by
  obtain ⟨m, ys, _, hm, h1, h2⟩ := marks_held 1 9223372036854775807 (by omega) (fun c (_ : Int) => c % 256) (fun k xs c i => laws_markByteS.l0 k xs c i) (fun k xs c i => laws_heldByteS.l0 k xs c i)
    (fun xs c i r h hb h0 hB hr => by
      refine Ev.step (fun k => by rw [laws_markByteS.l0]) ?_
      refine Ev.pos (by omega) (Ev.pos (by omega) ?_)
      rw [wrap64_id (x := c + 1) (by omega) (by omega), wrap64_id (x := (i : Int) + 1) (by omega) (by omega)]
      simpa using hr)
    (fun xs c => Ev.step (fun k => by rw [laws_markByteS.l0]) (by exact Ev.neg (by omega) (Ev.now _)))
    (fun xs c i r z h hb h0 hB hz hr => by
      refine Ev.step (fun k => by rw [laws_heldByteS.l0]) ?_
      refine Ev.pos (by omega) (Ev.pos (by omega) (Ev.pos (by rw [rd_eq (by simpa using h)]; simpa using hz) ?_))
      rw [wrap64_id (x := c + 1) (by omega) (by omega), wrap64_id (x := (i : Int) + 1) (by omega) (by omega)]
      simpa using hr)
    (fun xs c => Ev.step (fun k => by rw [laws_heldByteS.l0]) (by exact Ev.neg (by omega) (Ev.now _)))
    l c hc (by omega)
  exact ⟨m, ys, by omega, h1, h2⟩
theorem markText_l0_ev : ∀ (n : Nat) (c : Int) (out : ByteArray), 0 ≤ c → c < 10 ^ n → c ≤ 9223372036854775807 → out.size + n + 1 ≤ 1000 → ∃ t, Ev (fun k => laws_markText.l0 k c out) t := by
  intro n
  induction n with
  | zero =>
    intro c out h0 h1 hb hs
    obtain rfl : c = 0 := by simp at h1; omega
    exact ⟨_, Ev.step (fun k => by rw [laws_markText.l0]) (by exact Ev.neg (by omega) (Ev.pos (by omega) (Ev.now _)))⟩
  | succ n ih =>
    intro c out h0 h1 hb hs
    by_cases hc : c > 0
    · have h2 : c / 10 < 10 ^ n := by
        rw [Int.pow_succ] at h1
        exact Int.ediv_lt_of_lt_mul (by omega) h1
      obtain ⟨t, ht⟩ := ih (c / 10) (strOfNums [(wrap64 (48 + (Int.tmod c 10))) % 256] ++ out) (by omega) h2 (by omega) (by
        rw [ByteArray.size_append, strOfNums_size]; simp; omega)
      refine ⟨t, Ev.step (fun k => by rw [laws_markText.l0]) ?_⟩
      refine Ev.pos hc (Ev.here rfl (Ev.pos (by rw [strOfNums_size]; simp; omega) ?_))
      rw [Int.tdiv_eq_ediv_of_nonneg h0, wrap64_id (x := c / 10) (by omega) (by omega)]
      exact ht
    · obtain rfl : c = 0 := by omega
      exact ⟨_, Ev.step (fun k => by rw [laws_markText.l0]) (by exact Ev.neg (by omega) (Ev.pos (by omega) (Ev.now _)))⟩
theorem markText_ev (c : Int) (h : c ≤ 9223372036854775807) : ∃ t, Ev (fun k => laws_markText.f k c) t := by
  unfold laws_markText.f
  by_cases hc : c ≤ 0
  · exact ⟨_, Ev.pos hc (Ev.now _)⟩
  · obtain ⟨t, ht⟩ := markText_l0_ev 19 c (⟨#[]⟩ : ByteArray) (by omega) (by omega) h (by decide)
    exact ⟨t, Ev.neg hc ht⟩
noncomputable def mtxt (c : Int) : ByteArray := if h : c ≤ 9223372036854775807 then (markText_ev c h).choose else ByteArray.empty
theorem mtxt_ev {c : Int} (h : c ≤ 9223372036854775807) : Ev (fun k => laws_markText.f k c) (mtxt c) := by
  unfold mtxt
  rw [dif_pos h]
  exact (markText_ev c h).choose_spec
theorem markValS_evm (l : List S83) (c : Int) (hc : 0 ≤ c) (hl : c + 2 * l.length ≤ 9223372036854775806) : ∃ m ys, m = c + 2 * l.length ∧ Ev (fun k => laws_markValS.f k l c) (m, ys) ∧ True := by
  obtain ⟨m, ys, hm, h1⟩ := marks_set 2 9223372036854775807 (by omega) (fun c (_ : S83) => (⟨c, mtxt (c + 1)⟩ : S83)) (fun k xs c i => laws_markValS.l0 k xs c i)
    (fun xs c i r h hb h0 hB hr => by
      refine Ev.step (fun k => by rw [laws_markValS.l0]) ?_
      refine Ev.pos (by omega) (Ev.pos (by omega) ?_)
      rw [wrap64_id (x := c + 1) (by omega) (by omega), wrap64_id (x := c + 1 + 1) (by omega) (by omega), wrap64_id (x := (i : Int) + 1) (by omega) (by omega)]
      refine Ev.here rfl ?_
      refine Ev.bind (mtxt_ev (by omega)) ?_
      have e : c + 1 + 1 = c + 2 := by omega
      simpa [rd_T83, h, e] using hr)
    (fun xs c => Ev.step (fun k => by rw [laws_markValS.l0]) (by exact Ev.neg (by omega) (Ev.now _)))
    l c hc (by omega)
  exact ⟨m, ys, by omega, h1, trivial⟩
def tOk (t : Int) : Bool := decide (t = 0 ∨ t = 1 ∨ t = 2 ∨ t = 5 ∨ t = 6)
theorem l5Type_some (t : Int) : spec_l5Type.f t = some (tOk t) := by
  unfold spec_l5Type.f
  (repeat' split) <;> simp_all [tOk]
theorem l1In_same (x lo hi : Int) : (if x ≥ lo then some (decide (x ≤ hi)) else some false) = some (decide (lo ≤ x ∧ x ≤ hi)) := by
  by_cases h : x ≥ lo
  · rw [if_pos h]; congr 1; simp; omega
  · rw [if_neg h]; congr 1; symm; simp; omega
theorem within_some (x lo hi : Int) : impl_within.f x lo hi = some (decide (lo ≤ x ∧ x ≤ hi)) := by unfold impl_within.f; exact l1In_same x lo hi
theorem typeOk_some (t : Int) : impl_TypeOk.f t = some (tOk t) := by
  unfold impl_TypeOk.f
  rw [within_some]
  simp only [Option.bind_some]
  by_cases h : 0 ≤ t ∧ t ≤ 2
  · rw [if_pos (by simpa using h)]
    have : t = 0 ∨ t = 1 ∨ t = 2 := by omega
    rcases this with rfl | rfl | rfl <;> rfl
  · rw [if_neg (by simpa using h)]
    by_cases h5 : t = 5
    · subst h5; rfl
    · rw [if_neg h5]
      by_cases h6 : t = 6
      · subst h6; rfl
      · have h0 : t ≠ 0 := by omega
        have h1 : t ≠ 1 := by omega
        have h2 : t ≠ 2 := by omega
        simp [tOk, h0, h1, h2, h5, h6]
def wideB (t : Int) : Int := if t = 1 then 4 else if t = 2 then 8 else if t = 5 then 8 else 0
theorem wideOf_some (t : Int) : impl_wideOf.f t = some (wideB t) := by unfold impl_wideOf.f wideB; (repeat' split) <;> rfl
theorem splitWide_some (t : Int) : spec_SplitWide.f t = some (wideB t) := wideOf_some t
def noText (s : ByteArray) : Bool := s.toList == ([] : List UInt8)
def vOk (t : Int) (v : S83) : Bool :=
  if t = 0 then decide (0 ≤ v.f0 ∧ v.f0 ≤ 1) && noText v.f1
  else if t = 1 then decide (-2147483648 ≤ v.f0 ∧ v.f0 ≤ 2147483647) && noText v.f1
  else if t = 2 ∨ t = 5 then noText v.f1
  else if t = 6 then decide (v.f0 = 0) && decide ((v.f1.size : Int) ≤ 40) else false
theorem l1In_some (x lo hi : Int) : spec_l1In.f x lo hi = some (decide (lo ≤ x ∧ x ≤ hi)) := by unfold spec_l1In.f; exact l1In_same x lo hi
theorem impl_ValOk_some (t : Int) (v : S83) : impl_ValOk.f t v.f0 v.f1 = some (vOk t v) := by
  unfold impl_ValOk.f impl_isInt32.f vOk noText
  simp only [within_some, Option.bind_some]
  by_cases h0 : t = 0
  · rw [if_pos h0, if_pos h0]; by_cases h : 0 ≤ v.f0 ∧ v.f0 ≤ 1 <;> simp [h]
  rw [if_neg h0, if_neg h0]
  by_cases h1 : t = 1
  · rw [if_pos h1, if_pos h1]; by_cases h : -2147483648 ≤ v.f0 ∧ v.f0 ≤ 2147483647 <;> simp [h]
  rw [if_neg h1, if_neg h1]
  by_cases h2 : t = 2
  · rw [if_pos h2, if_pos (show t = 2 ∨ t = 5 from .inl h2)]
  rw [if_neg h2]
  by_cases h5 : t = 5
  · rw [if_pos h5, if_pos (show t = 2 ∨ t = 5 from .inr h5)]
  rw [if_neg h5, if_neg (show ¬ (t = 2 ∨ t = 5) by omega)]
  by_cases h6 : t = 6
  · rw [if_pos h6, if_pos h6]; by_cases h : v.f0 = 0 <;> simp [h]
  · rw [if_neg h6, if_neg h6]
theorem spec_ValOk_ev (t : Int) (v : S83) : Ev (fun k => spec_ValOk.f k t v.f0 v.f1) (vOk t v) := by
  refine ⟨2, fun k hk => ?_⟩
  obtain ⟨m, rfl⟩ : ∃ m, k = m + 2 := ⟨k - 2, by omega⟩
  unfold spec_ValOk.f spec_l4Int.f vOk noText
  simp only [l1In_some, Option.bind_some, spec_ValOk.j0]
  by_cases h0 : t = 0
  · rw [if_pos h0, if_pos h0]; by_cases h : 0 ≤ v.f0 ∧ v.f0 ≤ 1 <;> simp [h]
  rw [if_neg h0, if_neg h0]
  by_cases h1 : t = 1
  · rw [if_pos h1, if_pos h1]; by_cases h : -2147483648 ≤ v.f0 ∧ v.f0 ≤ 2147483647 <;> simp [h]
  rw [if_neg h1, if_neg h1]
  by_cases h2 : t = 2
  · rw [if_pos (show t = 2 ∨ t = 5 from .inl h2)]; simp [h2]
  rw [if_neg h2]
  by_cases h5 : t = 5
  · rw [if_pos (show t = 2 ∨ t = 5 from .inr h5)]; simp [h5]
  rw [if_neg (show ¬ (t = 2 ∨ t = 5) by omega)]
  by_cases h6 : t = 6
  · rw [if_pos h6]; by_cases h : v.f0 = 0 <;> simp [h, h6]
  · rw [if_neg h6]; simp [h5, h6]
def vsOk (t : Int) (l : List S83) : Bool := decide ((l.length : Int) ≤ 2000) && tOk t && l.all (vOk t)
theorem impl_valsOk_ev (t : Int) (l : List S83) (hl : l.length ≤ 1048576) : Ev (fun k => impl_valsOk.f k t l) (vsOk t l) := by
  unfold impl_valsOk.f
  have key := all_loop (fun k i => impl_valsOk.l0 k t l l (l.length : Int) i) (fun i => vOk t (l.getD i z83)) l.length false (decide ((l.length : Int) ≤ 2000) && tOk t)
    (fun i r hi hp hr => by
      have e : rd_T83 l (i : Int) = l.getD i z83 := rfl
      refine Ev.step (fun k => by rw [impl_valsOk.l0]) ?_
      refine Ev.pos (by omega) (Ev.pos (by omega) (Ev.pos (by omega) (Ev.here (impl_ValOk_some t _) ?_)))
      rw [e, hp]
      refine Ev.pos rfl ?_
      rw [wrap64_id (by omega) (by omega)]
      simpa using hr)
    (fun i hi hp => by
      have e : rd_T83 l (i : Int) = l.getD i z83 := rfl
      refine Ev.step (fun k => by rw [impl_valsOk.l0]) ?_
      refine Ev.pos (by omega) (Ev.pos (by omega) (Ev.pos (by omega) (Ev.here (impl_ValOk_some t _) ?_)))
      rw [e, hp]
      exact Ev.neg (by decide) (Ev.now _))
    (by
      refine Ev.step (fun k => by rw [impl_valsOk.l0]) ?_
      refine Ev.neg (by omega) ?_
      by_cases h : (l.length : Int) ≤ 2000
      · refine Ev.pos h (Ev.here (typeOk_some t) (Ev.const ?_))
        simp [h]
      · refine Ev.neg h (Ev.const ?_)
        simp [h])
  refine Ev.cast key ?_
  rw [all_range]
  unfold vsOk
  cases l.all (vOk t) <;> simp
theorem spec_l6Vals_ev (t : Int) (l : List S83) (hl : l.length ≤ 1048576) : Ev (fun k => spec_l6Vals.f k t l) (vsOk t l) := by
  have bad : vsOk t l = false → Ev (fun k => spec_l6Vals.j0 k t l true) (vsOk t l) := fun h => by
    rw [h]
    exact Ev.step (fun k => by rw [spec_l6Vals.j0]) (by exact Ev.pos rfl (Ev.now _))
  unfold spec_l6Vals.f
  by_cases h : (l.length : Int) > 2000
  · exact Ev.pos h (bad (by simp [vsOk]; omega))
  refine Ev.neg h (Ev.here (l5Type_some t) ?_)
  cases ht : tOk t with
  | false => exact bad (by simp [vsOk, ht])
  | true =>
    refine Ev.step (fun k => by rw [spec_l6Vals.j0]) ?_
    refine Ev.neg (by decide) ?_
    have key := all_loop (fun k i => spec_l6Vals.l0 k t l i) (fun i => vOk t (l.getD i z83)) l.length false true
      (fun i r hi hp hr => by
        have e : rd_T83 l (i : Int) = l.getD i z83 := rfl
        refine Ev.step (fun k => by rw [spec_l6Vals.l0]) ?_
        refine Ev.pos (by omega) (Ev.pos (by omega) (Ev.bind (spec_ValOk_ev t _) ?_))
        rw [e, hp]
        refine Ev.pos rfl ?_
        rw [wrap64_id (by omega) (by omega)]
        simpa using hr)
      (fun i hi hp => by
        have e : rd_T83 l (i : Int) = l.getD i z83 := rfl
        refine Ev.step (fun k => by rw [spec_l6Vals.l0]) ?_
        refine Ev.pos (by omega) (Ev.pos (by omega) (Ev.bind (spec_ValOk_ev t _) ?_))
        rw [e, hp]
        exact Ev.neg (by decide) (Ev.now _))
      (by exact Ev.step (fun k => by rw [spec_l6Vals.l0]) (by exact Ev.neg (by omega) (Ev.now _)))
    refine Ev.cast key ?_
    rw [all_range]
    have h2 : (l.length : Int) ≤ 2000 := by omega
    cases ha : l.all (vOk t) <;> simp [vsOk, ht, ha, h2]
/-- Byte number k of value number i. -/
def sb (l : List S83) (k i : Nat) : Int := (shr .i64 ((rd_T83 l (i : Int)).f0) (wrap64 (8 * (k : Int)))) % 256
def splitBytes (l : List S83) (w : Nat) : List Int := (List.range (w * l.length)).map fun (j : Nat) => sb l (j / l.length) (j % l.length)
theorem splitBytes_length (l : List S83) (w : Nat) : (splitBytes l w).length = w * l.length := by simp [splitBytes]
theorem impl_split_row (l : List S83) (hl : l.length ≤ 2000) (w k : Nat) (hk : k < w) (hw : w ≤ 8) (r)
    (h : Ev (fun n => impl_SplitPack.l0 n l (splitBytes l (k + 1)) (w : Int) (k + 1 : Nat)) r) : Ev (fun n => impl_SplitPack.l1 n l (splitBytes l k) (k : Int) (w : Int) (k : Int) l (l.length : Int) 0) r := by
  have e : splitBytes l (k + 1) = splitBytes l k ++ (List.range l.length).map (fun (i : Nat) => sb l k i) := by
    unfold splitBytes
    rw [Nat.add_mul, Nat.one_mul, List.range_add, List.map_append, List.map_map]
    congr 1
    apply List.map_congr_left
    intro i hi
    have hlt := List.mem_range.1 hi
    simp only [Function.comp]
    rw [Nat.add_comm, Nat.add_mul_div_right _ _ (by omega), Nat.div_eq_of_lt hlt, Nat.add_mul_mod_self_right, Nat.mod_eq_of_lt hlt, Nat.zero_add]
  have hb := splitBytes_length l k
  have hkl : k * l.length ≤ 8 * 2000 := Nat.mul_le_mul (by omega) hl
  refine append_from (fun n out i => impl_SplitPack.l1 n l out (k : Int) (w : Int) (k : Int) l (l.length : Int) i) (fun (i : Nat) => sb l k i) l.length r (splitBytes l k) (fun i s hi hs hr => ?_) ?_
  · refine Ev.step (fun k => by rw [impl_SplitPack.l1]) ?_
    refine Ev.pos (by omega) (Ev.pos (by omega) (Ev.pos (by omega) (Ev.pos (by rw [wrap64_id (by omega) (by omega)]; omega) (Ev.pos (by omega) ?_))))
    rw [wrap64_id (x := (i : Int) + 1) (by omega) (by omega)]
    simpa [sb] using hr
  · refine Ev.step (fun k => by rw [impl_SplitPack.l1]) ?_
    refine Ev.neg (by omega) ?_
    rw [wrap64_id (x := (k : Int) + 1) (by omega) (by omega), ← e]
    simpa using h
theorem impl_split_all (l : List S83) (hl : l.length ≤ 2000) (w : Nat) (hw : w ≤ 8) : Ev (fun n => impl_SplitPack.l0 n l [] (w : Int) 0) (splitBytes l w, true) := by
  have key : ∀ (d k : Nat), k + d = w → Ev (fun n => impl_SplitPack.l0 n l (splitBytes l k) (w : Int) (k : Int)) (splitBytes l w, true) := by
    intro d
    induction d with
    | zero =>
      intro k hk
      obtain rfl : k = w := by omega
      exact Ev.step (fun k => by rw [impl_SplitPack.l0]) (by exact Ev.neg (by omega) (Ev.now _))
    | succ d ih =>
      intro k hk
      exact Ev.step (fun k => by rw [impl_SplitPack.l0]) (by exact Ev.pos (by omega) (impl_split_row l hl w k (by omega) hw _ (ih (k + 1) (by omega))))
  have := key w 0 (by omega)
  simpa [splitBytes] using this
theorem spec_split_all (l : List S83) (hl : l.length ≤ 2000) (w : Nat) (hw : w ≤ 8) : Ev (fun n => spec_SplitPack.l0 n l (w : Int) (l.length : Int) (List.replicate (w * l.length) 0) 0) (splitBytes l w, true) := by
  have hwl : w * l.length ≤ 8 * 2000 := Nat.mul_le_mul hw hl
  refine loop_inv (fun n out i => spec_SplitPack.l0 n l (w : Int) (l.length : Int) out i) (fun i out => (List.range w).foldl (fun (out : List Int) (k : Nat) => out.set (k * l.length + i) (sb l k i)) out) l.length _
    (fun i out => out.length = w * l.length ∧ ∀ k i', k < w → i' < i → out[k * l.length + i']? = some (sb l k i')) _ ⟨by simp, fun k i' _ h => absurd h (by omega)⟩ (fun i out hi ⟨ho, hp⟩ => ?_) (fun i out hi ⟨ho, hp⟩ hr => ?_) (fun out ⟨ho, hp⟩ _ => ?_)
  · have inner : ∀ m, m ≤ w → ((List.range m).foldl (fun (out : List Int) (k : Nat) => out.set (k * l.length + i) (sb l k i)) out).length = w * l.length ∧ ∀ k i', k < w → i' ≤ i → (i' < i ∨ k < m) → ((List.range m).foldl (fun (out : List Int) (k : Nat) => out.set (k * l.length + i) (sb l k i)) out)[k * l.length + i']? = some (sb l k i') := by
      intro m
      induction m with
      | zero => intro _; exact ⟨ho, fun k i' hk _ h => hp k i' hk (by omega)⟩
      | succ m ih =>
        intro hm
        obtain ⟨h1, h2⟩ := ih (by omega)
        rw [List.range_succ, List.foldl_append]
        simp only [List.foldl_cons, List.foldl_nil]
        refine ⟨by simpa using h1, fun k i' hk hle h => ?_⟩
        have hmw : (m + 1) * l.length ≤ w * l.length := Nat.mul_le_mul_right _ (by omega)
        rw [Nat.add_mul, Nat.one_mul] at hmw
        by_cases e : k = m ∧ i' = i
        · obtain ⟨rfl, rfl⟩ := e
          rw [List.getElem?_set_self (by omega)]
        · rw [List.getElem?_set_ne ?_]
          · exact h2 k i' hk hle (by omega)
          · intro he
            apply e
            rcases Nat.lt_trichotomy k m with hlt | heq | hgt
            · have : (k + 1) * l.length ≤ m * l.length := Nat.mul_le_mul_right _ hlt
              rw [Nat.add_mul, Nat.one_mul] at this; omega
            · subst heq; omega
            · have : (m + 1) * l.length ≤ k * l.length := Nat.mul_le_mul_right _ hgt
              rw [Nat.add_mul, Nat.one_mul] at this; omega
    obtain ⟨h1, h2⟩ := inner w (Nat.le_refl _)
    exact ⟨h1, fun k i' hk hi' => h2 k i' hk (by omega) (.inr hk)⟩
  · refine Ev.step (fun k => by rw [spec_SplitPack.l0]) ?_
    refine Ev.pos (by omega) ?_
    refine loop_inv (fun n out k => spec_SplitPack.l1 n l (w : Int) (l.length : Int) out (i : Int) k) (fun k out => out.set (k * l.length + i) (sb l k i)) w _ (fun _ out => out.length = w * l.length) out ho (fun k s _ h => by simpa using h) (fun k s hk hs hr2 => ?_) (fun s hs he => ?_)
    · have hmw : (k + 1) * l.length ≤ w * l.length := Nat.mul_le_mul_right _ (by omega)
      rw [Nat.add_mul, Nat.one_mul] at hmw
      have hc : ((k : Int) * (l.length : Int)) = ((k * l.length : Nat) : Int) := by push_cast; rfl
      refine Ev.step (fun k => by rw [spec_SplitPack.l1]) ?_
      rw [wrap64_id (x := (k : Int) * (l.length : Int)) (by omega) (by omega), hc, wrap64_id (x := ((k * l.length : Nat) : Int) + i) (by omega) (by omega)]
      refine Ev.pos (by omega) (Ev.pos (by omega) (Ev.pos (by omega) (Ev.pos (by rw [wrap64_id (by omega) (by omega)]; omega) (Ev.pos (by omega) (Ev.pos (by omega) ?_)))))
      rw [wrap64_id (x := (k : Int) + 1) (by omega) (by omega)]
      have e : (((k * l.length : Nat) : Int) + (i : Int)).toNat = k * l.length + i := by omega
      rw [e]
      simpa [sb] using hr2
    · refine Ev.step (fun k => by rw [spec_SplitPack.l1]) ?_
      refine Ev.neg (by omega) ?_
      rw [wrap64_id (x := (i : Int) + 1) (by omega) (by omega), he]
      simpa using hr
  · refine Ev.step (fun k => by rw [spec_SplitPack.l0]) ?_
    refine Ev.neg (by omega) (Ev.const ?_)
    congr 2
    apply List.ext_getElem?
    intro j
    by_cases hj : j < w * l.length
    · have hpos : 0 < l.length := by
        rcases Nat.eq_zero_or_pos l.length with h | h
        · rw [h] at hj; omega
        · exact h
      have h1 := hp (j / l.length) (j % l.length) (Nat.div_lt_of_lt_mul (by rw [Nat.mul_comm]; exact hj)) (Nat.mod_lt _ hpos)
      rw [Nat.mul_comm, Nat.div_add_mod] at h1
      rw [h1]
      unfold splitBytes
      rw [List.getElem?_map, List.getElem?_range hj]
      rfl
    · rw [List.getElem?_eq_none (by omega), List.getElem?_eq_none (by rw [splitBytes_length]; omega)]
def splitR (t : Int) (l : List S83) : List Int × Bool := if wideB t ≠ 0 ∧ vsOk t l = true then (splitBytes l (wideB t).toNat, true) else ([], false)
theorem wideB_range (t : Int) : wideB t = 0 ∨ wideB t = 4 ∨ wideB t = 8 := by
  unfold wideB; split
  · simp
  · split
    · simp
    · split <;> simp
theorem vsOk_length {t : Int} {l : List S83} (h : vsOk t l = true) : l.length ≤ 2000 := by
  simp [vsOk] at h; omega
theorem spec_SplitPack_ev (t : Int) (l : List S83) (hl : l.length ≤ 1048576) : Ev (fun k => spec_SplitPack.f k t l) (splitR t l) := by
  unfold spec_SplitPack.f splitR
  refine Ev.here (splitWide_some t) ?_
  by_cases h0 : wideB t = 0
  · refine Ev.pos h0 ?_
    rw [if_neg (by simp [h0])]
    exact Ev.step (fun k => by rw [spec_SplitPack.j0]) (by exact Ev.pos rfl (Ev.now _))
  refine Ev.neg h0 (Ev.bind (spec_l6Vals_ev t l hl) ?_)
  cases hv : vsOk t l with
  | false =>
    rw [if_neg (by simp)]
    exact Ev.step (fun k => by rw [spec_SplitPack.j0]) (by exact Ev.pos rfl (Ev.now _))
  | true =>
    rw [if_pos ⟨h0, rfl⟩]
    have hl2 := vsOk_length hv
    obtain ⟨w, hw, hw8⟩ : ∃ w : Nat, wideB t = (w : Int) ∧ w ≤ 8 := ⟨(wideB t).toNat, by have := wideB_range t; omega, by have := wideB_range t; omega⟩
    have hwl : w * l.length ≤ 8 * 2000 := Nat.mul_le_mul hw8 hl2
    have hc : ((w : Int) * (l.length : Int)) = ((w * l.length : Nat) : Int) := by push_cast; rfl
    rw [hw]
    refine Ev.step (fun k => by rw [spec_SplitPack.j0]) ?_
    rw [hc, wrap64_id (x := ((w * l.length : Nat) : Int)) (by omega) (by omega)]
    refine Ev.neg (by decide) (Ev.pos (by omega) (Ev.pos (by omega) ?_))
    rw [Int.toNat_natCast]; exact spec_split_all l hl2 w hw8
theorem impl_SplitPack_ev (t : Int) (l : List S83) (hl : l.length ≤ 1048576) : Ev (fun k => impl_SplitPack.f k t l) (splitR t l) := by
  unfold impl_SplitPack.f impl_SplitWide.f splitR
  rw [wideOf_some]
  refine Ev.here rfl ?_
  by_cases h0 : wideB t = 0
  · refine Ev.pos h0 ?_
    rw [if_neg (by simp [h0])]
    exact Ev.step (fun k => by rw [impl_SplitPack.j0]) (by exact Ev.pos rfl (Ev.now _))
  refine Ev.neg h0 (Ev.bind (impl_valsOk_ev t l hl) ?_)
  cases hv : vsOk t l with
  | false =>
    rw [if_neg (by simp)]
    exact Ev.step (fun k => by rw [impl_SplitPack.j0]) (by exact Ev.pos rfl (Ev.now _))
  | true =>
    rw [if_pos ⟨h0, rfl⟩]
    have hl2 := vsOk_length hv
    obtain ⟨w, hw, hw8⟩ : ∃ w : Nat, wideB t = (w : Int) ∧ w ≤ 8 := ⟨(wideB t).toNat, by have := wideB_range t; omega, by have := wideB_range t; omega⟩
    rw [hw]
    refine Ev.step (fun k => by rw [impl_SplitPack.j0]) ?_
    refine Ev.neg (by decide) ?_
    simpa using impl_split_all l hl2 w hw8
theorem splitR_length (t : Int) (l : List S83) : (splitR t l).1.length ≤ 16000 := by
  unfold splitR
  split
  · rename_i h
    have hl2 := vsOk_length h.2
    rw [splitBytes_length]
    have := wideB_range t
    calc (wideB t).toNat * l.length ≤ 8 * 2000 := Nat.mul_le_mul (by omega) hl2
      _ = 16000 := rfl
  · simp
theorem FnExactSplitPack : ∀ (x0 : Int) (x1 : List (S112)), ((Lit.int .i64 x0).wf = true) → (x1.length ≤ maxLen ∧ ∀ y ∈ x1, w112 y) → ∃ k, laws_FnExactSplitPack.f k x0 x1 = some true := by
  intro t p _ hp
  refine Ev.rounds ?_
  unfold laws_FnExactSplitPack.f
  obtain ⟨r1, s1, c1, l1⟩ := szValS_ev p hp.1 hp.2 1048576 (by omega) (by omega)
  refine Ev.bind s1 ?_
  by_cases n1 : r1 < 0
  · exact Ev.pos n1 (Ev.now _)
  refine Ev.neg n1 ?_
  have t1 := toValS_ev p (by omega)
  have lp : (p.map cvVal).length = p.length := by simp
  generalize p.map cvVal = P at *
  have es := spec_SplitPack_ev t P (by omega)
  have ei := impl_SplitPack_ev t P (by omega)
  have hr := splitR_length t P
  generalize splitR t P = r at *
  have q1 := eqValS_ev P (by omega)
  have q3 := eqByteS_ev r.1 (by omega)
  obtain ⟨m1, y1, p1, k1, _⟩ := markValS_evm P 1 (by omega) (by omega)
  obtain ⟨m3, y3, p3, k3, k4⟩ := markByteS_ev r.1 1 (by omega) (by omega)
  repeat' (first
    | with_reducible exact Ev.now _
    | with_reducible refine Ev.bind t1 ?_ | with_reducible refine Ev.bind es ?_ | with_reducible refine Ev.bind ei ?_
    | with_reducible refine Ev.bind q1 ?_ | with_reducible refine Ev.bind q3 ?_
    | with_reducible refine Ev.bind k1 ?_ | with_reducible refine Ev.bind k3 ?_ | with_reducible refine Ev.bind k4 ?_
    | refine Ev.pos (by first | rfl | omega) ?_
    | refine Ev.neg (by first | omega | decide | simp) ?_
    | refine Ev.step (fun k => by rw [laws_FnExactSplitPack.j0]) ?_
    | refine Ev.step (fun k => by rw [laws_FnExactSplitPack.j1]) ?_
    | refine Ev.step (fun k => by rw [laws_FnExactSplitPack.j2]) ?_)
end Go.Proofs.Ytlohdhkgcfebnaa.Pure
