/- The pure statement of FnExactEncPack: the printed functions answer as the law says, for all arguments. No condition. -/
import Derived.Test.YtkocikdceojnmaaVFnExactEncPack
import Derived.Test.YtkocikdceojnmaaPFnExactEncPackx
import Derived.Test.YtkocikdceojnmaaArgFnExactEncPack
namespace Go.Proofs.Ytkocikdceojnmaa.Pure
open Go.RowKit Go.Proofs.Ytkocikdceojnmaa.PFnExactEncPack Go.Proofs.Ytkocikdceojnmaa.Core Go.Proofs.YtkocikdceojnmaaW.PrintWords Go.Proofs.YtkocikdceojnmaaW.PrintLast Go.Proofs.YtkocikdceojnmaaW.PrintMore Go.Proofs.YtkocikdceojnmaaW.PrintMore2 Go.Proofs.Ytkocikdceojnmaa.AFnExactEncPack
set_option linter.unusedVariables false
set_option linter.unusedSimpArgs false
def cvVal (x : S36) : S46 := ⟨x.f0, x.f1⟩
theorem toValS_ev (l : List S36) (hl : l.length ≤ 1048576) : Ev (fun k => laws_toValS.f k l) (l.map cvVal) := by
  unfold laws_toValS.f
  refine Ev.pos (by omega) (Ev.pos (by omega) ?_)
  refine copy_loop (fun k out i => laws_toValS.l0 k l out i) l cvVal (fun out i r h ho hr => ?_) (fun out ho => ?_) (List.replicate ((l.length : Int)).toNat z46) (by simp)
  · refine Ev.step (fun k => by rw [laws_toValS.l0]) ?_
    refine Ev.pos (by omega) (Ev.pos (by omega) (Ev.here rfl (Ev.pos (by omega) ?_)))
    rw [wrap64_id (by omega) (by omega)]
    have e : rd_T36 l (i : Int) = l[i] := getD_eq (by simpa using h)
    simp only [e]
    simpa [cvVal] using hr
  · exact Ev.step (fun k => by rw [laws_toValS.l0]) (by exact Ev.neg (by omega) (Ev.now _))
theorem szVal_some (x : S36) (hw : w36 x) (c : Int) (h0 : 0 ≤ c) (h1 : c ≤ 1048576) : ∃ r, laws_szVal.f x.f0 x.f1 c = some r ∧ r ≤ c := by
  have b0 : (x.f1.size : Int) ≤ 9223372036854775807 := by have := hw.2; unfold maxLen at this; omega
  unfold laws_szVal.f
  rw [wrap64_id (x := c - (x.f1.size : Int)) (by omega) (by omega)]
  by_cases n0 : c - (x.f1.size : Int) < 0
  · exact ⟨-1, by simp [n0], by omega⟩
  simp only [if_neg n0, Option.bind_some]
  exact ⟨_, rfl, by omega⟩
theorem szValS_ev (l : List S36) (hw : l.length ≤ maxLen) (ht : ∀ x ∈ l, w36 x) (c : Int) (h0 : 0 ≤ c) (h1 : c ≤ 1048576) : ∃ r, Ev (fun k => laws_szValS.f k l c) r ∧ r ≤ c ∧ (0 ≤ r → r + l.length ≤ c) := by
  have hm : l.length ≤ 9223372036854775807 := by unfold maxLen at hw; omega
  unfold laws_szValS.f
  rw [wrap64_id (by omega) (by omega)]
  by_cases hn : c - (l.length : Int) < 0
  · exact ⟨-1, Ev.pos hn (Ev.now _), by omega, by omega⟩
  · obtain ⟨r, hr, hrc⟩ := budget_loop (fun k c i => laws_szValS.l0 k l c i) l.length (fun c i hc0 hc1 hi => by
      have e : rd_T36 l (i : Int) = l[i] := getD_eq (by simpa using hi)
      obtain ⟨c', hc', hle⟩ := szVal_some l[i] (ht l[i] (List.getElem_mem hi)) c hc0 hc1
      refine ⟨c', hle, fun hneg => ?_, fun hpos r hr => ?_⟩
      · exact Ev.step (fun k => by rw [laws_szValS.l0]) (by exact Ev.pos (by omega) (Ev.pos (by omega) (Ev.here (by rw [e]; exact hc') (Ev.pos hneg (Ev.now _)))))
      · refine Ev.step (fun k => by rw [laws_szValS.l0]) ?_
        refine Ev.pos (by omega) (Ev.pos (by omega) (Ev.here (by rw [e]; exact hc') (Ev.neg (by omega) ?_)))
        rw [wrap64_id (by omega) (by omega)]
        simpa using hr)
      (fun c => Ev.step (fun k => by rw [laws_szValS.l0]) (by exact Ev.neg (by omega) (Ev.now _))) (c - l.length) (by omega) (by omega)
    exact ⟨r, Ev.neg hn hr, by omega, by omega⟩
theorem eqVal_ev (a : S46) : laws_eqVal.f a.f0 a.f1 a.f0 a.f1 = some true := by
  unfold laws_eqVal.f
  simp
theorem eqValS_ev (l : List S46) (hl : l.length ≤ 9223372036854775806) : Ev (fun k => laws_eqValS.f k l l) true := by
  unfold laws_eqValS.f
  refine Ev.pos rfl ?_
  refine same_loop (fun k i => laws_eqValS.l0 k l l i) l.length (fun i r h hr => ?_) ?_
  · refine Ev.step (fun k => by rw [laws_eqValS.l0]) ?_
    refine Ev.pos (by omega) (Ev.pos (by omega) (Ev.pos (by omega) (Ev.here (eqVal_ev _) (Ev.pos rfl ?_))))
    rw [wrap64_id (by omega) (by omega)]
    simpa using hr
  · exact Ev.step (fun k => by rw [laws_eqValS.l0]) (by exact Ev.neg (by omega) (Ev.now _))
theorem eqByteS_ev (l : List Int) (hl : l.length ≤ 9223372036854775806) : Ev (fun k => laws_eqByteS.f k l l) true := by
  unfold laws_eqByteS.f
  refine Ev.pos rfl ?_
  refine same_loop (fun k i => laws_eqByteS.l0 k l l i) l.length (fun i r h hr => ?_) ?_
  · refine Ev.step (fun k => by rw [laws_eqByteS.l0]) ?_
    refine Ev.pos (by omega) (Ev.pos (by omega) (Ev.pos (by omega) (Ev.pos rfl ?_)))
    rw [wrap64_id (by omega) (by omega)]
    simpa using hr
  · exact Ev.step (fun k => by rw [laws_eqByteS.l0]) (by exact Ev.neg (by omega) (Ev.now _))
theorem markByteS_ev (l : List Int) (c : Int) (hc : 0 ≤ c) (hl : c + l.length ≤ 9223372036854775806) : ∃ m ys, m = c + l.length ∧ Ev (fun k => laws_markByteS.f k l c) (m, ys) ∧ Ev (fun k => laws_heldByteS.f k ys c) m := by
  obtain ⟨m, ys, _, hm, h1, h2⟩ := marks_held 1 9223372036854775807 (by omega) (fun c (_ : Int) => c % 256) (fun k xs c i => laws_markByteS.l0 k xs c i) (fun k xs c i => laws_heldByteS.l0 k xs c i)
    (fun xs c i r h hb h0 hB hr => by
      refine Ev.step (fun k => by rw [laws_markByteS.l0]) ?_
      refine Ev.pos (by omega) (Ev.pos (by omega) ?_)
      rw [wrap64_id (x := c + 1) (by omega) (by omega), wrap64_id (x := (i : Int) + 1) (by omega) (by omega)]
      simpa using hr)
    (fun xs c => Ev.step (fun k => by rw [laws_markByteS.l0]) (by exact Ev.neg (by omega) (Ev.now _)))
    (fun xs c i r z h hb h0 hB hz hr => by
      refine Ev.step (fun k => by rw [laws_heldByteS.l0]) ?_
      refine Ev.pos (by omega) (Ev.pos (by omega) (Ev.pos (by rw [rd_eq (by simpa using h)]; simpa using hz) ?_))
      rw [wrap64_id (x := c + 1) (by omega) (by omega), wrap64_id (x := (i : Int) + 1) (by omega) (by omega)]
      simpa using hr)
    (fun xs c => Ev.step (fun k => by rw [laws_heldByteS.l0]) (by exact Ev.neg (by omega) (Ev.now _)))
    l c hc (by omega)
  exact ⟨m, ys, by omega, h1, h2⟩
theorem markText_l0_ev : ∀ (n : Nat) (c : Int) (out : ByteArray), 0 ≤ c → c < 10 ^ n → c ≤ 9223372036854775807 → out.size + n + 1 ≤ 1000 → ∃ t, Ev (fun k => laws_markText.l0 k c out) t := by
  intro n
  induction n with
  | zero =>
    intro c out h0 h1 hb hs
    obtain rfl : c = 0 := by simp at h1; omega
    exact ⟨_, Ev.step (fun k => by rw [laws_markText.l0]) (by exact Ev.neg (by omega) (Ev.pos (by omega) (Ev.now _)))⟩
  | succ n ih =>
    intro c out h0 h1 hb hs
    by_cases hc : c > 0
    · have h2 : c / 10 < 10 ^ n := by
        rw [Int.pow_succ] at h1
        exact Int.ediv_lt_of_lt_mul (by omega) h1
      obtain ⟨t, ht⟩ := ih (c / 10) (strOfNums [(wrap64 (48 + (Int.tmod c 10))) % 256] ++ out) (by omega) h2 (by omega) (by
        rw [ByteArray.size_append, strOfNums_size]; simp; omega)
      refine ⟨t, Ev.step (fun k => by rw [laws_markText.l0]) ?_⟩
      refine Ev.pos hc (Ev.here rfl (Ev.pos (by rw [strOfNums_size]; simp; omega) ?_))
      rw [Int.tdiv_eq_ediv_of_nonneg h0, wrap64_id (x := c / 10) (by omega) (by omega)]
      exact ht
    · obtain rfl : c = 0 := by omega
      exact ⟨_, Ev.step (fun k => by rw [laws_markText.l0]) (by exact Ev.neg (by omega) (Ev.pos (by omega) (Ev.now _)))⟩
theorem markText_ev (c : Int) (h : c ≤ 9223372036854775807) : ∃ t, Ev (fun k => laws_markText.f k c) t := by
  unfold laws_markText.f
  by_cases hc : c ≤ 0
  · exact ⟨_, Ev.pos hc (Ev.now _)⟩
  · obtain ⟨t, ht⟩ := markText_l0_ev 19 c (⟨#[]⟩ : ByteArray) (by omega) (by omega) h (by decide)
    exact ⟨t, Ev.neg hc ht⟩
noncomputable def mtxt (c : Int) : ByteArray := if h : c ≤ 9223372036854775807 then (markText_ev c h).choose else ByteArray.empty
theorem mtxt_ev {c : Int} (h : c ≤ 9223372036854775807) : Ev (fun k => laws_markText.f k c) (mtxt c) := by
  unfold mtxt
  rw [dif_pos h]
  exact (markText_ev c h).choose_spec
theorem markValS_evm (l : List S46) (c : Int) (hc : 0 ≤ c) (hl : c + 2 * l.length ≤ 9223372036854775806) : ∃ m ys, m = c + 2 * l.length ∧ Ev (fun k => laws_markValS.f k l c) (m, ys) ∧ True := by
  obtain ⟨m, ys, hm, h1⟩ := marks_set 2 9223372036854775807 (by omega) (fun c (_ : S46) => (⟨c, mtxt (c + 1)⟩ : S46)) (fun k xs c i => laws_markValS.l0 k xs c i)
    (fun xs c i r h hb h0 hB hr => by
      refine Ev.step (fun k => by rw [laws_markValS.l0]) ?_
      refine Ev.pos (by omega) (Ev.pos (by omega) ?_)
      rw [wrap64_id (x := c + 1) (by omega) (by omega), wrap64_id (x := c + 1 + 1) (by omega) (by omega), wrap64_id (x := (i : Int) + 1) (by omega) (by omega)]
      refine Ev.here rfl ?_
      refine Ev.bind (mtxt_ev (by omega)) ?_
      have e : c + 1 + 1 = c + 2 := by omega
      simpa [rd_T46, h, e] using hr)
    (fun xs c => Ev.step (fun k => by rw [laws_markValS.l0]) (by exact Ev.neg (by omega) (Ev.now _)))
    l c hc (by omega)
  exact ⟨m, ys, by omega, h1, trivial⟩
def tOk (t : Int) : Bool := decide (t = 0 ∨ t = 1 ∨ t = 2 ∨ t = 5 ∨ t = 6)
theorem l5Type_some (t : Int) : spec_l5Type.f t = some (tOk t) := by
  unfold spec_l5Type.f
  (repeat' split) <;> simp_all [tOk]
theorem l1In_same (x lo hi : Int) : (if x ≥ lo then some (decide (x ≤ hi)) else some false) = some (decide (lo ≤ x ∧ x ≤ hi)) := by
  by_cases h : x ≥ lo
  · rw [if_pos h]; congr 1; simp; omega
  · rw [if_neg h]; congr 1; symm; simp; omega
theorem within_some (x lo hi : Int) : impl_within.f x lo hi = some (decide (lo ≤ x ∧ x ≤ hi)) := by unfold impl_within.f; exact l1In_same x lo hi
theorem typeOk_some (t : Int) : impl_TypeOk.f t = some (tOk t) := by
  unfold impl_TypeOk.f
  rw [within_some]
  simp only [Option.bind_some]
  by_cases h : 0 ≤ t ∧ t ≤ 2
  · rw [if_pos (by simpa using h)]
    have : t = 0 ∨ t = 1 ∨ t = 2 := by omega
    rcases this with rfl | rfl | rfl <;> rfl
  · rw [if_neg (by simpa using h)]
    by_cases h5 : t = 5
    · subst h5; rfl
    · rw [if_neg h5]
      by_cases h6 : t = 6
      · subst h6; rfl
      · have h0 : t ≠ 0 := by omega
        have h1 : t ≠ 1 := by omega
        have h2 : t ≠ 2 := by omega
        simp [tOk, h0, h1, h2, h5, h6]
def wideB (t : Int) : Int := if t = 1 then 4 else if t = 2 then 8 else if t = 5 then 8 else 0
theorem wideOf_some (t : Int) : impl_wideOf.f t = some (wideB t) := by unfold impl_wideOf.f wideB; (repeat' split) <;> rfl
theorem splitWide_some (t : Int) : spec_SplitWide.f t = some (wideB t) := wideOf_some t
def encB (e t : Int) : Bool := decide (tOk t = true ∧ (e = 0 ∨ e = 8 ∨ (e = 3 ∧ t = 0) ∨ (e = 5 ∧ (t = 1 ∨ t = 2)) ∨ ((e = 6 ∨ e = 7) ∧ t = 6) ∨ (e = 9 ∧ (t = 1 ∨ t = 2 ∨ t = 5))))
theorem wide_pos (t : Int) : decide (wideB t > 0) = decide (t = 1 ∨ t = 2 ∨ t = 5) := by
  unfold wideB
  by_cases h1 : t = 1
  · simp [h1]
  by_cases h2 : t = 2
  · simp [h2]
  by_cases h5 : t = 5
  · simp [h5]
  · simp [h1, h2, h5]
theorem spec_EncOk_ev (e t : Int) : Ev (fun k => spec_EncOk.f k e t) (encB e t) := by
  refine ⟨3, fun k hk => ?_⟩
  obtain ⟨m, rfl⟩ : ∃ m, k = m + 3 := ⟨k - 3, by omega⟩
  simp only [spec_EncOk.f, spec_EncOk.j0, spec_EncOk.j1, l5Type_some, splitWide_some, wide_pos, Option.bind_some]
  by_cases ht : tOk t = true
  · rw [if_pos ht]
    by_cases h0 : e = 0
    · subst h0; simp [encB, ht]
    by_cases h8 : e = 8
    · subst h8; simp [encB, ht]
    by_cases h3 : e = 3
    · subst h3; simp [encB, ht]; rfl
    by_cases h5 : e = 5
    · subst h5; by_cases h1 : t = 1 <;> simp [encB, ht, h1] <;> rfl
    by_cases h6 : e = 6
    · subst h6; simp [encB, ht]; rfl
    by_cases h7 : e = 7
    · subst h7; simp [encB, ht]; rfl
    by_cases h9 : e = 9
    · subst h9; simp [encB, ht]
    · simp [encB, h0, h8, h3, h5, h6, h7, h9]
  · rw [if_neg ht]; simp [encB, ht]
theorem impl_EncOk_ev (e t : Int) : Ev (fun k => impl_EncOk.f k e t) (encB e t) := by
  refine ⟨3, fun k hk => ?_⟩
  obtain ⟨m, rfl⟩ : ∃ m, k = m + 3 := ⟨k - 3, by omega⟩
  simp only [impl_EncOk.f, impl_EncOk.j0, typeOk_some, wideOf_some, wide_pos, Option.bind_some]
  by_cases h0 : e = 0
  · subst h0; simp [encB]
  by_cases h8 : e = 8
  · subst h8; simp [encB]
  by_cases h3 : e = 3
  · subst h3; simp [encB, tOk]; by_cases h : t = 0 <;> simp [h]
  by_cases h5 : e = 5
  · subst h5; by_cases h1 : t = 1 <;> by_cases h2 : t = 2 <;> simp [encB, tOk, h1, h2]
  by_cases h6 : e = 6
  · subst h6; by_cases h : t = 6 <;> simp [encB, tOk, h]
  by_cases h7 : e = 7
  · subst h7; by_cases h : t = 6 <;> simp [encB, tOk, h]
  by_cases h9 : e = 9
  · subst h9; by_cases h1 : t = 1 <;> by_cases h2 : t = 2 <;> by_cases h5 : t = 5 <;> simp [encB, tOk, h1, h2, h5]
  · simp [encB, h0, h8, h3, h5, h6, h7, h9]
def noText (s : ByteArray) : Bool := s.toList == ([] : List UInt8)
def vOk (t : Int) (v : S46) : Bool :=
  if t = 0 then decide (0 ≤ v.f0 ∧ v.f0 ≤ 1) && noText v.f1
  else if t = 1 then decide (-2147483648 ≤ v.f0 ∧ v.f0 ≤ 2147483647) && noText v.f1
  else if t = 2 ∨ t = 5 then noText v.f1
  else if t = 6 then decide (v.f0 = 0) && decide ((v.f1.size : Int) ≤ 40) else false
theorem l1In_some (x lo hi : Int) : spec_l1In.f x lo hi = some (decide (lo ≤ x ∧ x ≤ hi)) := by unfold spec_l1In.f; exact l1In_same x lo hi
theorem impl_ValOk_some (t : Int) (v : S46) : impl_ValOk.f t v.f0 v.f1 = some (vOk t v) := by
  unfold impl_ValOk.f impl_isInt32.f vOk noText
  simp only [within_some, Option.bind_some]
  by_cases h0 : t = 0
  · rw [if_pos h0, if_pos h0]; by_cases h : 0 ≤ v.f0 ∧ v.f0 ≤ 1 <;> simp [h]
  rw [if_neg h0, if_neg h0]
  by_cases h1 : t = 1
  · rw [if_pos h1, if_pos h1]; by_cases h : -2147483648 ≤ v.f0 ∧ v.f0 ≤ 2147483647 <;> simp [h]
  rw [if_neg h1, if_neg h1]
  by_cases h2 : t = 2
  · rw [if_pos h2, if_pos (show t = 2 ∨ t = 5 from .inl h2)]
  rw [if_neg h2]
  by_cases h5 : t = 5
  · rw [if_pos h5, if_pos (show t = 2 ∨ t = 5 from .inr h5)]
  rw [if_neg h5, if_neg (show ¬ (t = 2 ∨ t = 5) by omega)]
  by_cases h6 : t = 6
  · rw [if_pos h6, if_pos h6]; by_cases h : v.f0 = 0 <;> simp [h]
  · rw [if_neg h6, if_neg h6]
theorem spec_ValOk_ev (t : Int) (v : S46) : Ev (fun k => spec_ValOk.f k t v.f0 v.f1) (vOk t v) := by
  refine ⟨2, fun k hk => ?_⟩
  obtain ⟨m, rfl⟩ : ∃ m, k = m + 2 := ⟨k - 2, by omega⟩
  unfold spec_ValOk.f spec_l4Int.f vOk noText
  simp only [l1In_some, Option.bind_some, spec_ValOk.j0]
  by_cases h0 : t = 0
  · rw [if_pos h0, if_pos h0]; by_cases h : 0 ≤ v.f0 ∧ v.f0 ≤ 1 <;> simp [h]
  rw [if_neg h0, if_neg h0]
  by_cases h1 : t = 1
  · rw [if_pos h1, if_pos h1]; by_cases h : -2147483648 ≤ v.f0 ∧ v.f0 ≤ 2147483647 <;> simp [h]
  rw [if_neg h1, if_neg h1]
  by_cases h2 : t = 2
  · rw [if_pos (show t = 2 ∨ t = 5 from .inl h2)]; simp [h2]
  rw [if_neg h2]
  by_cases h5 : t = 5
  · rw [if_pos (show t = 2 ∨ t = 5 from .inr h5)]; simp [h5]
  rw [if_neg (show ¬ (t = 2 ∨ t = 5) by omega)]
  by_cases h6 : t = 6
  · rw [if_pos h6]; by_cases h : v.f0 = 0 <;> simp [h, h6]
  · rw [if_neg h6]; simp [h5, h6]
def vsOk (t : Int) (l : List S46) : Bool := decide ((l.length : Int) ≤ 2000) && tOk t && l.all (vOk t)
theorem impl_valsOk_ev (t : Int) (l : List S46) (hl : l.length ≤ 1048576) : Ev (fun k => impl_valsOk.f k t l) (vsOk t l) := by
  unfold impl_valsOk.f
  have key := all_loop (fun k i => impl_valsOk.l0 k t l l (l.length : Int) i) (fun i => vOk t (l.getD i z46)) l.length false (decide ((l.length : Int) ≤ 2000) && tOk t)
    (fun i r hi hp hr => by
      have e : rd_T46 l (i : Int) = l.getD i z46 := rfl
      refine Ev.step (fun k => by rw [impl_valsOk.l0]) ?_
      refine Ev.pos (by omega) (Ev.pos (by omega) (Ev.pos (by omega) (Ev.here (impl_ValOk_some t _) ?_)))
      rw [e, hp]
      refine Ev.pos rfl ?_
      rw [wrap64_id (by omega) (by omega)]
      simpa using hr)
    (fun i hi hp => by
      have e : rd_T46 l (i : Int) = l.getD i z46 := rfl
      refine Ev.step (fun k => by rw [impl_valsOk.l0]) ?_
      refine Ev.pos (by omega) (Ev.pos (by omega) (Ev.pos (by omega) (Ev.here (impl_ValOk_some t _) ?_)))
      rw [e, hp]
      exact Ev.neg (by decide) (Ev.now _))
    (by
      refine Ev.step (fun k => by rw [impl_valsOk.l0]) ?_
      refine Ev.neg (by omega) ?_
      by_cases h : (l.length : Int) ≤ 2000
      · refine Ev.pos h (Ev.here (typeOk_some t) (Ev.const ?_))
        simp [h]
      · refine Ev.neg h (Ev.const ?_)
        simp [h])
  refine Ev.cast key ?_
  rw [all_range]
  unfold vsOk
  cases l.all (vOk t) <;> simp
theorem spec_l6Vals_ev (t : Int) (l : List S46) (hl : l.length ≤ 1048576) : Ev (fun k => spec_l6Vals.f k t l) (vsOk t l) := by
  have bad : vsOk t l = false → Ev (fun k => spec_l6Vals.j0 k t l true) (vsOk t l) := fun h => by
    rw [h]
    exact Ev.step (fun k => by rw [spec_l6Vals.j0]) (by exact Ev.pos rfl (Ev.now _))
  unfold spec_l6Vals.f
  by_cases h : (l.length : Int) > 2000
  · exact Ev.pos h (bad (by simp [vsOk]; omega))
  refine Ev.neg h (Ev.here (l5Type_some t) ?_)
  cases ht : tOk t with
  | false => exact bad (by simp [vsOk, ht])
  | true =>
    refine Ev.step (fun k => by rw [spec_l6Vals.j0]) ?_
    refine Ev.neg (by decide) ?_
    have key := all_loop (fun k i => spec_l6Vals.l0 k t l i) (fun i => vOk t (l.getD i z46)) l.length false true
      (fun i r hi hp hr => by
        have e : rd_T46 l (i : Int) = l.getD i z46 := rfl
        refine Ev.step (fun k => by rw [spec_l6Vals.l0]) ?_
        refine Ev.pos (by omega) (Ev.pos (by omega) (Ev.bind (spec_ValOk_ev t _) ?_))
        rw [e, hp]
        refine Ev.pos rfl ?_
        rw [wrap64_id (by omega) (by omega)]
        simpa using hr)
      (fun i hi hp => by
        have e : rd_T46 l (i : Int) = l.getD i z46 := rfl
        refine Ev.step (fun k => by rw [spec_l6Vals.l0]) ?_
        refine Ev.pos (by omega) (Ev.pos (by omega) (Ev.bind (spec_ValOk_ev t _) ?_))
        rw [e, hp]
        exact Ev.neg (by decide) (Ev.now _))
      (by exact Ev.step (fun k => by rw [spec_l6Vals.l0]) (by exact Ev.neg (by omega) (Ev.now _)))
    refine Ev.cast key ?_
    rw [all_range]
    have h2 : (l.length : Int) ≤ 2000 := by omega
    cases ha : l.all (vOk t) <;> simp [vsOk, ht, ha, h2]
def diffs (l : List Int) : List Int := (List.range (l.length - 1)).map fun (i : Nat) => wrap64 (rd l ((i : Int) + 1) - rd l (i : Int))
theorem diffs_length (l : List Int) : (diffs l).length = l.length - 1 := by simp [diffs]
theorem differences_same : ∀ (k : Nat) (a b : List Int) (i : Int), spec_Differences.l0 k a b i = impl_Differences.l0 k a b i
  | 0, _, _, _ => by rw [spec_Differences.l0, impl_Differences.l0]
  | k + 1, a, b, i => by rw [spec_Differences.l0, impl_Differences.l0]; simp only [differences_same k]
theorem impl_Differences_ev (l : List Int) (hl : l.length ≤ 1048576) : Ev (fun k => impl_Differences.f k l) (diffs l) := by
  unfold impl_Differences.f
  have := append_loop (fun k out i => impl_Differences.l0 k l out (i + 1)) (fun i => wrap64 (rd l ((i : Int) + 1) - rd l (i : Int))) (l.length - 1) (diffs l)
    (fun i s h hs hr => by
      refine Ev.step (fun k => by rw [impl_Differences.l0]) ?_
      refine Ev.pos (by omega) (Ev.pos (by omega) ?_)
      rw [wrap64_id (x := (i : Int) + 1 - 1) (by omega) (by omega)]
      refine Ev.pos (by omega) (Ev.pos (by omega) (Ev.pos (by omega) ?_))
      rw [wrap64_id (x := (i : Int) + 1 + 1) (by omega) (by omega)]
      have e : (i : Int) + 1 - 1 = i := by omega
      rw [e]
      simpa using hr)
    (Ev.step (fun k => by rw [impl_Differences.l0]) (by exact Ev.neg (by omega) (Ev.now _)))
  simpa using this
theorem spec_Differences_ev (l : List Int) (hl : l.length ≤ 1048576) : Ev (fun k => spec_Differences.f k l) (diffs l) :=
  Ev.congr (fun k => by unfold spec_Differences.f impl_Differences.f; exact differences_same k _ _ _) (impl_Differences_ev l hl)
theorem bv_ofInt_wrap (x : Int) : BitVec.ofInt 64 (wrap64 x) = BitVec.ofInt 64 x := by
  apply BitVec.eq_of_toNat_eq
  rw [BitVec.toNat_ofInt, BitVec.toNat_ofInt]
  congr 1
  unfold wrap64; omega
theorem or_wrap (a c : Nat) (ha : a < 2 ^ 64) (hc : c < 2 ^ 64) : Go.bits .or .i64 (wrap64 (a : Int)) (wrap64 (c : Int)) = wrap64 ((a ||| c : Nat) : Int) := by
  have e : Go.bits .or .i64 (wrap64 (a : Int)) (wrap64 (c : Int)) = IntKind.i64.wrap (((BitVec.ofInt 64 (wrap64 (a : Int)) ||| BitVec.ofInt 64 (wrap64 (c : Int))).toNat : Nat) : Int) := rfl
  rw [e, bv_ofInt_wrap, bv_ofInt_wrap, BitVec.ofInt_natCast, BitVec.ofInt_natCast, BitVec.toNat_or, BitVec.toNat_ofNat, BitVec.toNat_ofNat, Nat.mod_eq_of_lt ha, Nat.mod_eq_of_lt hc, IntKind.wrap_i64]
  unfold wrap64; omega
theorem or_digit (m a d : Nat) (ha : a < 2 ^ m) : a ||| d * 2 ^ m = a + d * 2 ^ m := by
  have := Nat.shiftLeft_add_eq_or_of_lt ha d
  rw [Nat.shiftLeft_eq] at this
  rw [Nat.or_comm, ← this, Nat.add_comm]
theorem emod_digit (x p : Int) (hp : 0 < p) : x % (p * 256) = x % p + (x / p) % 256 * p := by
  have h1 := Int.mul_ediv_add_emod x p
  have h2 := Int.mul_ediv_add_emod (x / p) 256
  have a0 := Int.emod_nonneg x (show p ≠ 0 by omega)
  have a1 := Int.emod_lt_of_pos x hp
  have b0 := Int.emod_nonneg (x / p) (show (256 : Int) ≠ 0 by omega)
  have b1 := Int.emod_lt_of_pos (x / p) (show (0 : Int) < 256 by omega)
  have e : x = (x % p + (x / p) % 256 * p) + (p * 256) * (x / p / 256) := by
    have e3 : p * (x / p) = p * (256 * (x / p / 256) + x / p % 256) := by rw [h2]
    rw [Int.mul_add] at e3
    have e4 : p * (256 * (x / p / 256)) = (p * 256) * (x / p / 256) := by rw [Int.mul_assoc]
    have e5 : p * (x / p % 256) = x / p % 256 * p := Int.mul_comm _ _
    omega
  have m0 : 0 ≤ (x / p) % 256 * p := Int.mul_nonneg b0 (by omega)
  have m1 : (x / p) % 256 * p ≤ 255 * p := Int.mul_le_mul_of_nonneg_right (by omega) (by omega)
  generalize hr : x % p + (x / p) % 256 * p = r at *
  conv => lhs; rw [e]
  rw [Int.add_mul_emod_self_left, Int.emod_eq_of_lt (by omega) (by omega)]
theorem bits_and_mask (x m : Int) (k : Nat) (hk : k ≤ 63) (hm : m = 2 ^ k - 1) : Go.bits .and .i64 x m = x % 2 ^ k := by
  have p0 : (0 : Int) < 2 ^ k := Int.pow_pos (by omega)
  have eP : (2 : Int) ^ k = ((2 ^ k : Nat) : Int) := by push_cast; rfl
  have h63 : 2 ^ k ≤ 2 ^ 63 := Nat.pow_le_pow_right (by omega) hk
  have n0 : 0 < 2 ^ k := Nat.pow_pos (by omega)
  have e : Go.bits .and .i64 x m = IntKind.i64.wrap ((((BitVec.ofInt 64 x) &&& (BitVec.ofInt 64 m)).toNat : Nat) : Int) := rfl
  rw [e, BitVec.toNat_and, BitVec.toNat_ofInt, BitVec.toNat_ofInt]
  have em : (m % ((2 ^ 64 : Nat) : Int)).toNat = 2 ^ k - 1 := by
    rw [hm, eP, Int.emod_eq_of_lt (by omega) (by omega)]; omega
  rw [em, Nat.and_two_pow_sub_one_eq_mod]
  have hlt : (x % ((2 ^ 64 : Nat) : Int)).toNat % 2 ^ k < 2 ^ k := Nat.mod_lt _ n0
  rw [wraps_i64 _ (by omega) (by omega), eP, Int.natCast_emod]
  rw [Int.toNat_of_nonneg (Int.emod_nonneg _ (by omega))]
  apply Int.emod_emod_of_dvd
  refine Int.natCast_dvd_natCast.2 (Nat.pow_dvd_pow 2 (by omega))
theorem u64_id {x : Int} (h0 : 0 ≤ x) (h1 : x < 18446744073709551616) : IntKind.u64.wrap x = x := by rw [IntKind.wrap_u64]; omega
theorem bits_and_mask_u (x m : Int) (k : Nat) (hk : k ≤ 63) (hm : m = 2 ^ k - 1) : Go.bits .and .u64 x m = x % 2 ^ k := by
  have p0 : (0 : Int) < 2 ^ k := Int.pow_pos (by omega)
  have eP : (2 : Int) ^ k = ((2 ^ k : Nat) : Int) := by push_cast; rfl
  have h63 : 2 ^ k ≤ 2 ^ 63 := Nat.pow_le_pow_right (by omega) hk
  have n0 : 0 < 2 ^ k := Nat.pow_pos (by omega)
  have e : Go.bits .and .u64 x m = IntKind.u64.wrap ((((BitVec.ofInt 64 x) &&& (BitVec.ofInt 64 m)).toNat : Nat) : Int) := rfl
  rw [e, BitVec.toNat_and, BitVec.toNat_ofInt, BitVec.toNat_ofInt]
  have em : (m % ((2 ^ 64 : Nat) : Int)).toNat = 2 ^ k - 1 := by
    rw [hm, eP, Int.emod_eq_of_lt (by omega) (by omega)]; omega
  rw [em, Nat.and_two_pow_sub_one_eq_mod]
  have hlt : (x % ((2 ^ 64 : Nat) : Int)).toNat % 2 ^ k < 2 ^ k := Nat.mod_lt _ n0
  rw [u64_id (by omega) (by omega), eP, Int.natCast_emod]
  rw [Int.toNat_of_nonneg (Int.emod_nonneg _ (by omega))]
  apply Int.emod_emod_of_dvd
  refine Int.natCast_dvd_natCast.2 (Nat.pow_dvd_pow 2 (by omega))
theorem l2Down7 (x : Int) : spec_l2Down.f x 7 = some (x / 128 % 144115188075855872) := by
  unfold spec_l2Down.f
  rw [if_neg (by decide), if_pos (by decide), wrap64_id (x := 64 - 7) (by omega) (by omega), if_pos (by decide)]
  have e1 : shr .i64 x 7 = x / 128 := rfl
  have e2 : shl .i64 1 (64 - 7) = 144115188075855872 := by
    unfold shl; rw [IntKind.wrap_i64]; rfl
  rw [e1, e2, wrap64_id (by omega) (by omega), bits_and_mask (x / 128) (144115188075855872 - 1) 57 (by omega) rfl]; rfl
theorem l2Down1 (x : Int) : spec_l2Down.f x 1 = some (x / 2 % 9223372036854775808) := by
  unfold spec_l2Down.f
  rw [if_neg (by decide), if_pos (by decide), wrap64_id (x := 64 - 1) (by omega) (by omega), if_pos (by decide)]
  have e1 : shr .i64 x 1 = x / 2 := rfl
  have e2 : shl .i64 1 (64 - 1) = -9223372036854775808 := by
    unfold shl; rw [IntKind.wrap_i64]; rfl
  have e3 : wrap64 (-9223372036854775808 - 1) = 9223372036854775807 := by unfold wrap64; omega
  rw [e1, e2, e3, bits_and_mask (x / 2) 9223372036854775807 63 (by omega) rfl]; rfl
theorem or_u64_128 (x : Int) (h0 : 0 ≤ x) (h1 : x < 128) : Go.bits .or .u64 x 128 = x + 128 := by
  obtain ⟨n, rfl⟩ := Int.eq_ofNat_of_zero_le h0
  have hn : n < 2 ^ 7 := by omega
  have e := (bits_nat .u64 64 (by decide) (fun m h0 h1 => u64_id h0 (by simpa using h1)) n 128 (by omega) (by decide)).2
  have e2 : n ||| 128 = n + 128 := by
    have := or_digit 7 n 1 hn
    simpa using this
  have e3 : Go.bits .or .u64 (n : Int) 128 = ((n ||| 128 : Nat) : Int) := e
  rw [e3, e2]; rfl
/-- The varint of X: both sides print the same bytes. -/
theorem uvarPut_both : ∀ (d : Nat) (x X : Int) (out : List Int), 0 ≤ X → X < 18446744073709551616 → X = x % 18446744073709551616 → X < 128 ^ (d + 1) → out.length + d ≤ 10000 →
    ∃ r : List Int, Ev (fun k => spec_UvarPut.l0 k x (out)) r ∧ Ev (fun k => impl_UvarPut.l0 k X out) r ∧ r.length ≤ out.length + d + 1 ∧ (∀ y ∈ r, y ∈ out ∨ (0 ≤ y ∧ y ≤ 255)) := by
  intro d
  induction d with
  | zero =>
    intro x X out h0 h1 hx hd ho
    have hX : X < 128 := by simpa using hd
    refine ⟨out ++ [X], ?_, ?_, by simp, ?_⟩
    · refine Ev.step (fun k => by rw [spec_UvarPut.l0]) ?_
      refine Ev.here (l2Down7 x) (Ev.pos (by omega) (Ev.pos (by omega) (Ev.const ?_)))
      have : x % 256 = X := by omega
      rw [this]
    · refine Ev.step (fun k => by rw [impl_UvarPut.l0]) ?_
      refine Ev.neg (by omega) (Ev.pos (by omega) (Ev.const ?_))
      have : X % 256 = X := by omega
      rw [this]
    · intro y hy
      rcases List.mem_append.1 hy with h | h
      · exact .inl h
      · obtain rfl := List.mem_singleton.1 h; right; omega
  | succ d ih =>
    intro x X out h0 h1 hx hd ho
    by_cases hX : X < 128
    · refine ⟨out ++ [X], ?_, ?_, by simp, ?_⟩
      · refine Ev.step (fun k => by rw [spec_UvarPut.l0]) ?_
        refine Ev.here (l2Down7 x) (Ev.pos (by omega) (Ev.pos (by omega) (Ev.const ?_)))
        have : x % 256 = X := by omega
        rw [this]
      · refine Ev.step (fun k => by rw [impl_UvarPut.l0]) ?_
        refine Ev.neg (by omega) (Ev.pos (by omega) (Ev.const ?_))
        have : X % 256 = X := by omega
        rw [this]
      · intro y hy
        rcases List.mem_append.1 hy with h | h
        · exact .inl h
        · obtain rfl := List.mem_singleton.1 h; right; omega
    · have hpow : X / 128 < 128 ^ (d + 1) := by
        rw [Int.pow_succ] at hd
        omega
      have hq : x / 128 % 144115188075855872 = X / 128 := by omega
      obtain ⟨r, r1, r2, r3, r4⟩ := ih (x / 128 % 144115188075855872) (X / 128) (out ++ [X % 128 + 128]) (by omega) (by omega) (by rw [hq]; omega) hpow (by simp; omega)
      refine ⟨r, ?_, ?_, by simp at r3; omega, ?_⟩
      · refine Ev.step (fun k => by rw [spec_UvarPut.l0]) ?_
        refine Ev.here (l2Down7 x) (Ev.neg (by omega) (Ev.pos (by omega) (Ev.here (l2Down7 x) ?_)))
        rw [bits_and_mask x 127 7 (by omega) rfl]
        have e : (2 : Int) ^ 7 = 128 := rfl
        rw [e, wrap64_id (by omega) (by omega)]
        have e2 : (x % 128 + 128) % 256 = X % 128 + 128 := by omega
        rw [e2]; exact r1
      · refine Ev.step (fun k => by rw [impl_UvarPut.l0]) ?_
        refine Ev.pos (by omega) (Ev.pos (by omega) ?_)
        rw [bits_and_mask_u X 127 7 (by omega) rfl]
        have e : (2 : Int) ^ 7 = 128 := rfl
        rw [e, or_u64_128 _ (by omega) (by omega)]
        have e2 : (X % 128 + 128) % 256 = X % 128 + 128 := by omega
        rw [e2]; exact r2
      · intro y hy
        rcases r4 y hy with h | h
        · rcases List.mem_append.1 h with h | h
          · exact .inl h
          · obtain rfl := List.mem_singleton.1 h; right; omega
        · exact .inr h
theorem UvarPut_ev (x : Int) : ∃ r : List Int, Ev (fun k => spec_UvarPut.f k x) r ∧ Ev (fun k => impl_UvarPut.f k x) r ∧ r.length ≤ 10 ∧ (∀ y ∈ r, 0 ≤ y ∧ y ≤ 255) := by
  unfold spec_UvarPut.f impl_UvarPut.f
  have e : IntKind.u64.wrap x = x % 18446744073709551616 := by rw [IntKind.wrap_u64]
  rw [e]
  obtain ⟨r, r1, r2, r3, r4⟩ := uvarPut_both 9 x (x % 18446744073709551616) [] (by omega) (by omega) rfl (by
    have : (128 : Int) ^ (9 + 1) = 1180591620717411303424 := by decide
    omega) (by simp)
  exact ⟨r, r1, r2, by simpa using r3, fun y hy => by
    rcases r4 y hy with h | h
    · cases h
    · exact h⟩
theorem Zig_both (x : Int) (h0 : -9223372036854775808 ≤ x) (h1 : x ≤ 9223372036854775807) : ∃ z, spec_Zig.f x = some z ∧ impl_Zig.f x = some z := by
  unfold spec_Zig.f impl_Zig.f
  by_cases h : x < 0
  · rw [if_pos h]
    refine ⟨_, rfl, ?_⟩
    have e : x / 9223372036854775808 = -1 := by omega
    rw [e]
    simp only [Go.bits, BitVec.xor_comm]
  · rw [if_neg h]
    refine ⟨_, rfl, ?_⟩
    have e : x / 9223372036854775808 = 0 := by omega
    rw [e]
    have e2 : Go.bits .xor .i64 (wrap64 (x * 2)) 0 = IntKind.i64.wrap ((((BitVec.ofInt 64 (wrap64 (x * 2))) ^^^ (BitVec.ofInt 64 0)).toNat : Nat) : Int) := rfl
    have e3 : (BitVec.ofInt 64 0) = 0#64 := rfl
    have e4 : Go.bits .xor .i64 (wrap64 (x * 2)) 0 = wrap64 (x * 2) := by
      rw [e2, e3, BitVec.xor_zero, BitVec.toNat_ofInt, IntKind.wrap_i64]
      unfold wrap64; omega
    rw [e4]
theorem ZigPut_ev (x : Int) (h0 : -9223372036854775808 ≤ x) (h1 : x ≤ 9223372036854775807) : ∃ r : List Int, Ev (fun k => spec_ZigPut.f k x) r ∧ Ev (fun k => impl_ZigPut.f k x) r ∧ r.length ≤ 10 ∧ (∀ y ∈ r, 0 ≤ y ∧ y ≤ 255) := by
  obtain ⟨z, z1, z2⟩ := Zig_both x h0 h1
  obtain ⟨r, r1, r2, r3, r4⟩ := UvarPut_ev z
  unfold spec_ZigPut.f impl_ZigPut.f
  exact ⟨r, Ev.here z1 (Ev.bind r1 (Ev.now _)), Ev.here z2 (Ev.bind r2 (Ev.now _)), r3, r4⟩
/-- How many bits a number has, told in at most f rounds. -/
def blF : Nat → Nat → Nat
  | 0, _ => 0
  | f + 1, n => if n = 0 then 0 else blF f (n / 2) + 1
theorem blF_le : ∀ (f n : Nat), blF f n ≤ f
  | 0, _ => Nat.le_refl _
  | f + 1, n => by
    unfold blF
    have := blF_le f (n / 2)
    split <;> omega
theorem blF_more : ∀ (f n : Nat), n < 2 ^ f → ∀ g, blF (f + g) n = blF f n
  | 0, n, h, g => by
    obtain rfl : n = 0 := by simpa using h
    cases g with
    | zero => rfl
    | succ g => rw [Nat.zero_add]; unfold blF; rw [if_pos rfl]
  | f + 1, n, h, g => by
    rw [show f + 1 + g = (f + g) + 1 by omega]
    unfold blF
    rw [blF_more f (n / 2) (by rw [Nat.pow_succ] at h; omega) g]
theorem blF_shift : ∀ (k f n : Nat), 0 < n / 2 ^ k → blF (f + k) n = k + blF f (n / 2 ^ k)
  | 0, f, n, h => by simp
  | k + 1, f, n, h => by
    rw [show f + (k + 1) = (f + k) + 1 by omega]
    have hn : n ≠ 0 := by
      intro e; rw [e] at h; simp at h
    have hd : n / 2 / 2 ^ k = n / 2 ^ (k + 1) := by rw [Nat.div_div_eq_div_mul, Nat.pow_succ, Nat.mul_comm]
    rw [show blF (f + k + 1) n = blF (f + k) (n / 2) + 1 from by rw [blF, if_neg hn], blF_shift k f (n / 2) (by rw [hd]; exact h), hd]
    omega
theorem tab_at (v : Int) (h0 : 0 ≤ v) (h1 : v < 256) : bt (⟨#[0, 1, 2, 2, 3, 3, 3, 3, 4, 4, 4, 4, 4, 4, 4, 4, 5, 5, 5, 5, 5, 5, 5, 5, 5, 5, 5, 5, 5, 5, 5, 5, 6, 6, 6, 6, 6, 6, 6, 6, 6, 6, 6, 6, 6, 6, 6, 6, 6, 6, 6, 6, 6, 6, 6, 6, 6, 6, 6, 6, 6, 6, 6, 6, 7, 7, 7, 7, 7, 7, 7, 7, 7, 7, 7, 7, 7, 7, 7, 7, 7, 7, 7, 7, 7, 7, 7, 7, 7, 7, 7, 7, 7, 7, 7, 7, 7, 7, 7, 7, 7, 7, 7, 7, 7, 7, 7, 7, 7, 7, 7, 7, 7, 7, 7, 7, 7, 7, 7, 7, 7, 7, 7, 7, 7, 7, 7, 7, 8, 8, 8, 8, 8, 8, 8, 8, 8, 8, 8, 8, 8, 8, 8, 8, 8, 8, 8, 8, 8, 8, 8, 8, 8, 8, 8, 8, 8, 8, 8, 8, 8, 8, 8, 8, 8, 8, 8, 8, 8, 8, 8, 8, 8, 8, 8, 8, 8, 8, 8, 8, 8, 8, 8, 8, 8, 8, 8, 8, 8, 8, 8, 8, 8, 8, 8, 8, 8, 8, 8, 8, 8, 8, 8, 8, 8, 8, 8, 8, 8, 8, 8, 8, 8, 8, 8, 8, 8, 8, 8, 8, 8, 8, 8, 8, 8, 8, 8, 8, 8, 8, 8, 8, 8, 8, 8, 8, 8, 8, 8, 8, 8, 8, 8, 8, 8, 8, 8, 8, 8, 8, 8, 8, 8, 8, 8, 8]⟩ : ByteArray) v = (blF 8 v.toNat : Int) := by
  have key : ∀ n : Fin 256, bt (⟨#[0, 1, 2, 2, 3, 3, 3, 3, 4, 4, 4, 4, 4, 4, 4, 4, 5, 5, 5, 5, 5, 5, 5, 5, 5, 5, 5, 5, 5, 5, 5, 5, 6, 6, 6, 6, 6, 6, 6, 6, 6, 6, 6, 6, 6, 6, 6, 6, 6, 6, 6, 6, 6, 6, 6, 6, 6, 6, 6, 6, 6, 6, 6, 6, 7, 7, 7, 7, 7, 7, 7, 7, 7, 7, 7, 7, 7, 7, 7, 7, 7, 7, 7, 7, 7, 7, 7, 7, 7, 7, 7, 7, 7, 7, 7, 7, 7, 7, 7, 7, 7, 7, 7, 7, 7, 7, 7, 7, 7, 7, 7, 7, 7, 7, 7, 7, 7, 7, 7, 7, 7, 7, 7, 7, 7, 7, 7, 7, 8, 8, 8, 8, 8, 8, 8, 8, 8, 8, 8, 8, 8, 8, 8, 8, 8, 8, 8, 8, 8, 8, 8, 8, 8, 8, 8, 8, 8, 8, 8, 8, 8, 8, 8, 8, 8, 8, 8, 8, 8, 8, 8, 8, 8, 8, 8, 8, 8, 8, 8, 8, 8, 8, 8, 8, 8, 8, 8, 8, 8, 8, 8, 8, 8, 8, 8, 8, 8, 8, 8, 8, 8, 8, 8, 8, 8, 8, 8, 8, 8, 8, 8, 8, 8, 8, 8, 8, 8, 8, 8, 8, 8, 8, 8, 8, 8, 8, 8, 8, 8, 8, 8, 8, 8, 8, 8, 8, 8, 8, 8, 8, 8, 8, 8, 8, 8, 8, 8, 8, 8, 8, 8, 8, 8, 8, 8, 8]⟩ : ByteArray) ((n.val : Nat) : Int) = (blF 8 n.val : Int) := by decide +kernel
  have h : bt (⟨#[0, 1, 2, 2, 3, 3, 3, 3, 4, 4, 4, 4, 4, 4, 4, 4, 5, 5, 5, 5, 5, 5, 5, 5, 5, 5, 5, 5, 5, 5, 5, 5, 6, 6, 6, 6, 6, 6, 6, 6, 6, 6, 6, 6, 6, 6, 6, 6, 6, 6, 6, 6, 6, 6, 6, 6, 6, 6, 6, 6, 6, 6, 6, 6, 7, 7, 7, 7, 7, 7, 7, 7, 7, 7, 7, 7, 7, 7, 7, 7, 7, 7, 7, 7, 7, 7, 7, 7, 7, 7, 7, 7, 7, 7, 7, 7, 7, 7, 7, 7, 7, 7, 7, 7, 7, 7, 7, 7, 7, 7, 7, 7, 7, 7, 7, 7, 7, 7, 7, 7, 7, 7, 7, 7, 7, 7, 7, 7, 8, 8, 8, 8, 8, 8, 8, 8, 8, 8, 8, 8, 8, 8, 8, 8, 8, 8, 8, 8, 8, 8, 8, 8, 8, 8, 8, 8, 8, 8, 8, 8, 8, 8, 8, 8, 8, 8, 8, 8, 8, 8, 8, 8, 8, 8, 8, 8, 8, 8, 8, 8, 8, 8, 8, 8, 8, 8, 8, 8, 8, 8, 8, 8, 8, 8, 8, 8, 8, 8, 8, 8, 8, 8, 8, 8, 8, 8, 8, 8, 8, 8, 8, 8, 8, 8, 8, 8, 8, 8, 8, 8, 8, 8, 8, 8, 8, 8, 8, 8, 8, 8, 8, 8, 8, 8, 8, 8, 8, 8, 8, 8, 8, 8, 8, 8, 8, 8, 8, 8, 8, 8, 8, 8, 8, 8, 8, 8]⟩ : ByteArray) ((v.toNat : Nat) : Int) = (blF 8 v.toNat : Int) := key ⟨v.toNat, by omega⟩
  rw [Int.toNat_of_nonneg h0] at h
  exact h
theorem len64_j0 (x p : Int) (h0 : 0 ≤ x) (h1 : x < 4294967296) (hp0 : 0 ≤ p) (hp1 : p ≤ 32) : Ev (fun k => bits_Len64.j0 k x p) (p + blF 32 x.toNat) := by
  refine Ev.step (fun k => by rw [bits_Len64.j0]) ?_
  by_cases h16 : x ≥ 65536
  · have e16 : blF 32 x.toNat = 16 + blF 16 (x.toNat / 2 ^ 16) := blF_shift 16 16 x.toNat (by omega)
    have q16 : x.toNat / 2 ^ 16 = (x / 65536).toNat := by omega
    refine Ev.pos h16 ?_
    by_cases h8 : x / 65536 ≥ 256
    · have e8 : blF 16 (x / 65536).toNat = 8 + blF 8 ((x / 65536).toNat / 2 ^ 8) := blF_shift 8 8 _ (by omega)
      have q8 : (x / 65536).toNat / 2 ^ 8 = (x / 65536 / 256 % 256).toNat := by omega
      refine Ev.pos h8 (Ev.pos (by omega) (Ev.pos (by omega) (Ev.const ?_)))
      rw [tab_at _ (by omega) (by omega), e16, q16, e8, q8]
      have := blF_le 8 (x / 65536 / 256 % 256).toNat
      rw [wrap64_id (x := p + 16) (by omega) (by omega), wrap64_id (x := p + 16 + 8) (by omega) (by omega), wrap64_id (x := ((blF 8 (x / 65536 / 256 % 256).toNat : Nat) : Int)) (by omega) (by omega), wrap64_id (by omega) (by omega)]
      congr 1; push_cast; omega
    · have e8 : blF 16 (x / 65536).toNat = blF 8 (x / 65536).toNat := blF_more 8 _ (by omega) 8
      have q8 : x / 65536 % 256 = x / 65536 := by omega
      refine Ev.neg h8 (Ev.pos (by omega) (Ev.pos (by omega) (Ev.const ?_)))
      rw [tab_at _ (by omega) (by omega), e16, q16, e8, q8]
      have := blF_le 8 (x / 65536).toNat
      rw [wrap64_id (x := p + 16) (by omega) (by omega), wrap64_id (x := ((blF 8 (x / 65536).toNat : Nat) : Int)) (by omega) (by omega), wrap64_id (by omega) (by omega)]
      congr 1; push_cast; omega
  · have e16 : blF 32 x.toNat = blF 16 x.toNat := blF_more 16 _ (by omega) 16
    refine Ev.neg h16 ?_
    by_cases h8 : x ≥ 256
    · have e8 : blF 16 x.toNat = 8 + blF 8 (x.toNat / 2 ^ 8) := blF_shift 8 8 _ (by omega)
      have q8 : x.toNat / 2 ^ 8 = (x / 256 % 256).toNat := by omega
      refine Ev.pos h8 (Ev.pos (by omega) (Ev.pos (by omega) (Ev.const ?_)))
      rw [tab_at _ (by omega) (by omega), e16, e8, q8]
      have := blF_le 8 (x / 256 % 256).toNat
      rw [wrap64_id (x := p + 8) (by omega) (by omega), wrap64_id (x := ((blF 8 (x / 256 % 256).toNat : Nat) : Int)) (by omega) (by omega), wrap64_id (by omega) (by omega)]
      congr 1; push_cast; omega
    · have e8 : blF 16 x.toNat = blF 8 x.toNat := blF_more 8 _ (by omega) 8
      have q8 : x % 256 = x := by omega
      refine Ev.neg h8 (Ev.pos (by omega) (Ev.pos (by omega) (Ev.const ?_)))
      rw [tab_at _ (by omega) (by omega), e16, e8, q8]
      have := blF_le 8 x.toNat
      rw [wrap64_id (x := ((blF 8 x.toNat : Nat) : Int)) (by omega) (by omega), wrap64_id (by omega) (by omega)]
/-- The width of a whole number, as one without a sign. -/
def widB (x : Int) : Int := (blF 64 (x % 18446744073709551616).toNat : Int)
theorem widB_range (x : Int) : 0 ≤ widB x ∧ widB x ≤ 64 := by
  unfold widB
  have := blF_le 64 (x % 18446744073709551616).toNat
  omega
theorem impl_widthOf_ev (x : Int) : Ev (fun k => impl_widthOf.f k x) (widB x) := by
  unfold impl_widthOf.f bits_Len64.f widB
  have e : IntKind.u64.wrap x = x % 18446744073709551616 := by rw [IntKind.wrap_u64]
  rw [e]
  generalize hX : x % 18446744073709551616 = X
  have h0 : 0 ≤ X := by omega
  have h1 : X < 18446744073709551616 := by omega
  have key : Ev (fun k => if X ≥ 4294967296 then (bits_Len64.j0 k (X / 4294967296) 32) else (bits_Len64.j0 k X 0)) (blF 64 X.toNat : Int) := by
    by_cases h : X ≥ 4294967296
    · refine Ev.pos h (Ev.cast (len64_j0 (X / 4294967296) 32 (by omega) (by omega) (by omega) (by omega)) ?_)
      have := blF_shift 32 32 X.toNat (by omega)
      have q : X.toNat / 2 ^ 32 = (X / 4294967296).toNat := by omega
      rw [this, q]; push_cast; omega
    · refine Ev.neg h (Ev.cast (len64_j0 X 0 h0 (by omega) (by omega) (by omega)) ?_)
      have := blF_more 32 X.toNat (by omega) 32
      rw [this]; omega
  exact Ev.bind key (Ev.now _)
theorem spec_l9Width_ev (x : Int) (h0 : -9223372036854775808 ≤ x) (h1 : x ≤ 9223372036854775807) : Ev (fun k => spec_l9Width.f k x) (widB x) := by
  unfold spec_l9Width.f widB
  have key : ∀ (f : Nat) (x w : Int), f ≤ 64 → -9223372036854775808 ≤ x → x ≤ 9223372036854775807 → (x % 18446744073709551616).toNat < 2 ^ f → 0 ≤ w → w + f ≤ 64 → Ev (fun k => spec_l9Width.l0 k x w) (w + blF f (x % 18446744073709551616).toNat) := by
    intro f
    induction f with
    | zero =>
      intro x w _ h0 h1 hx hw0 hw1
      have hz : (x % 18446744073709551616).toNat = 0 := by simpa using hx
      refine Ev.step (fun k => by rw [spec_l9Width.l0]) ?_
      refine Ev.pos (by omega) (Ev.const ?_)
      simp [blF]
    | succ f ih =>
      intro x w hf h0 h1 hx hw0 hw1
      refine Ev.step (fun k => by rw [spec_l9Width.l0]) ?_
      by_cases hz : x = 0
      · refine Ev.pos hz (Ev.const ?_)
        subst hz; simp [blF]
      · refine Ev.neg hz (Ev.here (l2Down1 x) ?_)
        rw [wrap64_id (x := w + 1) (by omega) (by omega)]
        have q : (x / 2 % 9223372036854775808) % 18446744073709551616 = x / 2 % 9223372036854775808 := by omega
        have q2 : (x / 2 % 9223372036854775808).toNat = (x % 18446744073709551616).toNat / 2 := by omega
        have := ih (x / 2 % 9223372036854775808) (w + 1) (by omega) (by omega) (by omega) (by rw [q, q2]; rw [Nat.pow_succ] at hx; omega) (by omega) (by omega)
        rw [q, q2] at this
        refine Ev.cast this ?_
        rw [show blF (f + 1) (x % 18446744073709551616).toNat = blF f ((x % 18446744073709551616).toNat / 2) + 1 from by rw [blF, if_neg (by omega)]]
        push_cast; omega
  have := key 64 x 0 (by omega) h0 h1 (by omega) (by omega) (by omega)
  simpa using this
theorem or_u8_range (a b : Int) : 0 ≤ Go.bits .or .u8 a b ∧ Go.bits .or .u8 a b ≤ 255 := by
  have e : Go.bits .or .u8 a b = IntKind.u8.wrap (((BitVec.ofInt 8 a ||| BitVec.ofInt 8 b).toNat : Nat) : Int) := rfl
  rw [e, IntKind.wrap_u8]; omega
theorem or_u8_zero (a : Int) (h0 : 0 ≤ a) (h1 : a ≤ 255) : Go.bits .or .u8 a 0 = a := by
  have e : Go.bits .or .u8 a 0 = IntKind.u8.wrap (((BitVec.ofInt 8 a ||| BitVec.ofInt 8 0).toNat : Nat) : Int) := rfl
  have z : BitVec.ofInt 8 0 = 0#8 := rfl
  rw [e, z, BitVec.or_zero, BitVec.toNat_ofInt, IntKind.wrap_u8]; omega
theorem and_one (x : Int) : Go.bits .and .i64 x 1 = x % 2 := bits_and_mask x 1 1 (by omega) rfl
/-- Bit k of number i is put into its place. -/
def bput (l : List Int) (w i k : Nat) (out : List Int) : List Int :=
  out.set ((i * w + k) / 8) (Go.bits .or .u8 (rd out (((i * w + k) / 8 : Nat) : Int)) (shl .u8 ((shr .i64 (rd l (i : Int)) (k : Int)) % 2) (((i * w + k) % 8 : Nat) : Int)))
def brow (l : List Int) (w i : Nat) (out : List Int) : List Int := (List.range w).foldl (fun o k => bput l w i k o) out
def bitsR (l : List Int) (w : Nat) : List Int := (List.range l.length).foldl (fun o i => brow l w i o) (List.replicate ((l.length * w + 7) / 8) 0)
def BOk (n : Nat) (out : List Int) : Prop := out.length = n ∧ ∀ x ∈ out, 0 ≤ x ∧ x ≤ 255
theorem bput_ok {n : Nat} {l : List Int} {w i k : Nat} {out : List Int} (h : BOk n out) : BOk n (bput l w i k out) := by
  refine ⟨by simpa [bput] using h.1, fun x hx => ?_⟩
  unfold bput at hx
  rcases List.mem_or_eq_of_mem_set hx with h' | rfl
  · exact h.2 x h'
  · exact or_u8_range _ _
theorem brow_ok {n : Nat} {l : List Int} {w i : Nat} : ∀ (m : Nat) {out : List Int}, BOk n out → BOk n ((List.range m).foldl (fun o k => bput l w i k o) out) := by
  intro m
  induction m with
  | zero => intro out h; exact h
  | succ m ih => intro out h; rw [List.range_succ, List.foldl_append]; exact bput_ok (ih h)
theorem bput_skip {n : Nat} {l : List Int} {w i k : Nat} {out : List Int} (h : BOk n out) (hb : (shr .i64 (rd l (i : Int)) (k : Int)) % 2 = 0) (hi : (i * w + k) / 8 < n) : bput l w i k out = out := by
  unfold bput
  rw [hb]
  have e : shl .u8 0 (((i * w + k) % 8 : Nat) : Int) = 0 := by unfold shl; rw [Int.zero_mul, IntKind.wrap_u8]; rfl
  have hl : (i * w + k) / 8 < out.length := by rw [h.1]; exact hi
  have er : rd out (((i * w + k) / 8 : Nat) : Int) = out[(i * w + k) / 8] := rd_eq (by omega)
  have hm := h.2 _ (List.getElem_mem hl)
  rw [e, er, or_u8_zero _ hm.1 hm.2, List.set_getElem_self]
theorem bitsR_ok (l : List Int) (w : Nat) : BOk ((l.length * w + 7) / 8) (bitsR l w) := by
  unfold bitsR
  have : ∀ m, BOk ((l.length * w + 7) / 8) ((List.range m).foldl (fun o i => brow l w i o) (List.replicate ((l.length * w + 7) / 8) 0)) := by
    intro m
    induction m with
    | zero => exact ⟨by simp, fun x hx => by obtain rfl := List.eq_of_mem_replicate hx; omega⟩
    | succ m ih => rw [List.range_succ, List.foldl_append]; exact brow_ok w ih
  exact this _
theorem pos_facts (l : List Int) (hl : l.length ≤ 4000) (w : Nat) (hw : w ≤ 64) (i k : Nat) (hi : i < l.length) (hk : k < w) :
    (wrap64 ((i : Int) * (w : Int)) + (k : Int)) = ((i * w + k : Nat) : Int) ∧ i * w + k < l.length * w ∧ l.length * w ≤ 256000 := by
  have h1 : (i + 1) * w ≤ l.length * w := Nat.mul_le_mul_right _ hi
  rw [Nat.add_mul, Nat.one_mul] at h1
  have h2 : l.length * w ≤ 4000 * 64 := Nat.mul_le_mul hl hw
  have hc : ((i : Int) * (w : Int)) = ((i * w : Nat) : Int) := by push_cast; rfl
  rw [hc, wrap64_id (by omega) (by omega)]
  exact ⟨by push_cast; rfl, by omega, by omega⟩
theorem spec_l9Bits_ev (l : List Int) (hl : l.length ≤ 4000) (w : Nat) (hw : w ≤ 64) : Ev (fun k => spec_l9Bits.f k l (w : Int)) (bitsR l w) := by
  have h2 : l.length * w ≤ 4000 * 64 := Nat.mul_le_mul hl hw
  have hc : ((l.length : Int) * (w : Int)) = ((l.length * w : Nat) : Int) := by push_cast; rfl
  have hN : wrap64 (Int.tdiv (wrap64 (wrap64 ((l.length : Int) * (w : Int)) + 7)) 8) = (((l.length * w + 7) / 8 : Nat) : Int) := by
    rw [hc, wrap64_id (x := ((l.length * w : Nat) : Int)) (by omega) (by omega), wrap64_id (x := ((l.length * w : Nat) : Int) + 7) (by omega) (by omega), Int.tdiv_eq_ediv_of_nonneg (by omega), wrap64_id (by omega) (by omega)]
    omega
  unfold spec_l9Bits.f
  rw [hN]
  refine Ev.pos (by omega) (Ev.pos (by omega) ?_)
  rw [Int.toNat_natCast]
  refine loop_inv (fun k out i => spec_l9Bits.l0 k l (w : Int) out i) (fun i out => brow l w i out) l.length _ (fun _ out => BOk ((l.length * w + 7) / 8) out) _ ⟨by simp, fun x hx => by obtain rfl := List.eq_of_mem_replicate hx; omega⟩ (fun i out hi ho => brow_ok w ho) (fun i out hi ho hr => ?_) (fun out ho he => ?_)
  · refine Ev.step (fun k => by rw [spec_l9Bits.l0]) ?_
    refine Ev.pos (by omega) ?_
    refine loop_inv (fun n o k => spec_l9Bits.l1 n l (w : Int) o (i : Int) k) (fun k o => bput l w i k o) w _ (fun _ o => BOk ((l.length * w + 7) / 8) o) out ho (fun k o _ h => bput_ok h) (fun k o hk hok hr2 => ?_) (fun o hok he => ?_)
    · obtain ⟨p1, p2, p3⟩ := pos_facts l hl w hw i k hi hk
      refine Ev.step (fun k => by rw [spec_l9Bits.l1]) ?_
      refine Ev.pos (by omega) (Ev.pos (by omega) (Ev.pos (by omega) (Ev.pos (by omega) ?_)))
      rw [wrap64_id (x := (k : Int) + 1) (by omega) (by omega), p1, and_one]
      have hr3 : Ev (fun n => spec_l9Bits.l1 n l (w : Int) (bput l w i k o) (i : Int) ((k : Int) + 1)) (bitsR l w) := by simpa using hr2
      by_cases hb : (shr .i64 (rd l (i : Int)) (k : Int)) % 2 = 0
      · refine Ev.pos hb ?_
        rw [bput_skip hok hb (by omega)] at hr3
        exact hr3
      · have hb1 : (shr .i64 (rd l (i : Int)) (k : Int)) % 2 = 1 := by omega
        rw [wrap64_id (x := ((i * w + k : Nat) : Int)) (by omega) (by omega), Int.tdiv_eq_ediv_of_nonneg (by omega), Int.tmod_eq_emod_of_nonneg (by omega)]
        have e1 : wrap64 (((i * w + k : Nat) : Int) / 8) = (((i * w + k) / 8 : Nat) : Int) := by rw [wrap64_id (by omega) (by omega)]; omega
        have e2 : ((i * w + k : Nat) : Int) % 8 = (((i * w + k) % 8 : Nat) : Int) := by omega
        rw [e1, e2]
        have hlen := hok.1
        refine Ev.neg hb (Ev.pos (by omega) (Ev.pos (by omega) (Ev.pos (by omega) ?_)))
        unfold bput at hr3
        rw [hb1] at hr3
        rw [Int.toNat_natCast]
        exact hr3
    · refine Ev.step (fun k => by rw [spec_l9Bits.l1]) ?_
      refine Ev.neg (by omega) ?_
      rw [wrap64_id (x := (i : Int) + 1) (by omega) (by omega), he]
      have : (List.range w).foldl (fun o k => bput l w i k o) out = brow l w i out := rfl
      rw [this]
      simpa using hr
  · refine Ev.step (fun k => by rw [spec_l9Bits.l0]) ?_
    refine Ev.neg (by omega) (Ev.const ?_)
    rw [he]; rfl
theorem impl_packed_ev (l : List Int) (hl : l.length ≤ 4000) (w : Nat) (hw : w ≤ 64) : Ev (fun k => impl_packed.f k l (w : Int)) (bitsR l w) := by
  have h2 : l.length * w ≤ 4000 * 64 := Nat.mul_le_mul hl hw
  have hc : ((l.length : Int) * (w : Int)) = ((l.length * w : Nat) : Int) := by push_cast; rfl
  have hN : wrap64 (Int.tdiv (wrap64 (wrap64 ((l.length : Int) * (w : Int)) + 7)) 8) = (((l.length * w + 7) / 8 : Nat) : Int) := by
    rw [hc, wrap64_id (x := ((l.length * w : Nat) : Int)) (by omega) (by omega), wrap64_id (x := ((l.length * w : Nat) : Int) + 7) (by omega) (by omega), Int.tdiv_eq_ediv_of_nonneg (by omega), wrap64_id (by omega) (by omega)]
    omega
  unfold impl_packed.f
  rw [hN]
  refine Ev.pos (by omega) (Ev.pos (by omega) ?_)
  rw [Int.toNat_natCast]
  refine loop_inv (fun k out i => impl_packed.l0 k (w : Int) out l (l.length : Int) i) (fun i out => brow l w i out) l.length _ (fun _ out => BOk ((l.length * w + 7) / 8) out) _ ⟨by simp, fun x hx => by obtain rfl := List.eq_of_mem_replicate hx; omega⟩ (fun i out hi ho => brow_ok w ho) (fun i out hi ho hr => ?_) (fun out ho he => ?_)
  · refine Ev.step (fun k => by rw [impl_packed.l0]) ?_
    refine Ev.pos (by omega) (Ev.pos (by omega) (Ev.pos (by omega) ?_))
    refine loop_inv (fun n o k => impl_packed.l1 n (w : Int) o (i : Int) (rd l (i : Int)) l (l.length : Int) (i : Int) (w : Int) k) (fun k o => bput l w i k o) w _ (fun _ o => BOk ((l.length * w + 7) / 8) o) out ho (fun k o _ h => bput_ok h) (fun k o hk hok hr2 => ?_) (fun o hok he => ?_)
    · obtain ⟨p1, p2, p3⟩ := pos_facts l hl w hw i k hi hk
      refine Ev.step (fun k => by rw [impl_packed.l1]) ?_
      rw [wrap64_id (x := (k : Int) + 1) (by omega) (by omega), p1, and_one]
      have hr3 : Ev (fun n => impl_packed.l1 n (w : Int) (bput l w i k o) (i : Int) (rd l (i : Int)) l (l.length : Int) (i : Int) (w : Int) ((k : Int) + 1)) (bitsR l w) := by simpa using hr2
      rw [wrap64_id (x := ((i * w + k : Nat) : Int)) (by omega) (by omega), Int.tdiv_eq_ediv_of_nonneg (by omega), Int.tmod_eq_emod_of_nonneg (by omega)]
      have e1 : wrap64 (((i * w + k : Nat) : Int) / 8) = (((i * w + k) / 8 : Nat) : Int) := by rw [wrap64_id (by omega) (by omega)]; omega
      have e2 : ((i * w + k : Nat) : Int) % 8 = (((i * w + k) % 8 : Nat) : Int) := by omega
      have e3 : (shr .i64 (rd l (i : Int)) (k : Int)) % 2 % 256 = (shr .i64 (rd l (i : Int)) (k : Int)) % 2 := by omega
      rw [e1, e2, e3]
      have hlen := hok.1
      refine Ev.pos (by omega) (Ev.pos (by omega) (Ev.pos (by omega) (Ev.pos (by omega) (Ev.pos (by omega) ?_))))
      unfold bput at hr3
      rw [Int.toNat_natCast]
      exact hr3
    · refine Ev.step (fun k => by rw [impl_packed.l1]) ?_
      refine Ev.neg (by omega) ?_
      rw [wrap64_id (x := (i : Int) + 1) (by omega) (by omega), he]
      have : (List.range w).foldl (fun o k => bput l w i k o) out = brow l w i out := rfl
      rw [this]
      simpa using hr
  · refine Ev.step (fun k => by rw [impl_packed.l0]) ?_
    refine Ev.neg (by omega) (Ev.const ?_)
    rw [he]; rfl
theorem spec_l8Bits_ev (l : List Int) (hl : l.length ≤ 4000) (w : Nat) (hw : w ≤ 64) : Ev (fun k => spec_l8Bits.f k l (w : Int)) (bitsR l w) := by
  have h2 : l.length * w ≤ 4000 * 64 := Nat.mul_le_mul hl hw
  have hc : ((l.length : Int) * (w : Int)) = ((l.length * w : Nat) : Int) := by push_cast; rfl
  have hN : wrap64 (Int.tdiv (wrap64 (wrap64 ((l.length : Int) * (w : Int)) + 7)) 8) = (((l.length * w + 7) / 8 : Nat) : Int) := by
    rw [hc, wrap64_id (x := ((l.length * w : Nat) : Int)) (by omega) (by omega), wrap64_id (x := ((l.length * w : Nat) : Int) + 7) (by omega) (by omega), Int.tdiv_eq_ediv_of_nonneg (by omega), wrap64_id (by omega) (by omega)]
    omega
  unfold spec_l8Bits.f
  rw [hN]
  refine Ev.pos (by omega) (Ev.pos (by omega) ?_)
  rw [Int.toNat_natCast]
  refine loop_inv (fun k out i => spec_l8Bits.l0 k l (w : Int) out i) (fun i out => brow l w i out) l.length _ (fun _ out => BOk ((l.length * w + 7) / 8) out) _ ⟨by simp, fun x hx => by obtain rfl := List.eq_of_mem_replicate hx; omega⟩ (fun i out hi ho => brow_ok w ho) (fun i out hi ho hr => ?_) (fun out ho he => ?_)
  · refine Ev.step (fun k => by rw [spec_l8Bits.l0]) ?_
    refine Ev.pos (by omega) ?_
    refine loop_inv (fun n o k => spec_l8Bits.l1 n l (w : Int) o (i : Int) k) (fun k o => bput l w i k o) w _ (fun _ o => BOk ((l.length * w + 7) / 8) o) out ho (fun k o _ h => bput_ok h) (fun k o hk hok hr2 => ?_) (fun o hok he => ?_)
    · obtain ⟨p1, p2, p3⟩ := pos_facts l hl w hw i k hi hk
      refine Ev.step (fun k => by rw [spec_l8Bits.l1]) ?_
      refine Ev.pos (by omega) (Ev.pos (by omega) (Ev.pos (by omega) (Ev.pos (by omega) ?_)))
      rw [wrap64_id (x := (k : Int) + 1) (by omega) (by omega), p1, and_one]
      have hr3 : Ev (fun n => spec_l8Bits.l1 n l (w : Int) (bput l w i k o) (i : Int) ((k : Int) + 1)) (bitsR l w) := by simpa using hr2
      by_cases hb : (shr .i64 (rd l (i : Int)) (k : Int)) % 2 = 0
      · refine Ev.neg (by omega) ?_
        rw [bput_skip hok hb (by omega)] at hr3
        exact hr3
      · have hb1 : (shr .i64 (rd l (i : Int)) (k : Int)) % 2 = 1 := by omega
        rw [wrap64_id (x := ((i * w + k : Nat) : Int)) (by omega) (by omega), Int.tdiv_eq_ediv_of_nonneg (by omega), Int.tmod_eq_emod_of_nonneg (by omega)]
        have e1 : wrap64 (((i * w + k : Nat) : Int) / 8) = (((i * w + k) / 8 : Nat) : Int) := by rw [wrap64_id (by omega) (by omega)]; omega
        have e2 : ((i * w + k : Nat) : Int) % 8 = (((i * w + k) % 8 : Nat) : Int) := by omega
        rw [e1, e2]
        have hlen := hok.1
        refine Ev.pos hb1 (Ev.pos (by omega) (Ev.pos (by omega) (Ev.pos (by omega) ?_)))
        unfold bput at hr3
        rw [hb1] at hr3
        rw [Int.toNat_natCast]
        exact hr3
    · refine Ev.step (fun k => by rw [spec_l8Bits.l1]) ?_
      refine Ev.neg (by omega) ?_
      rw [wrap64_id (x := (i : Int) + 1) (by omega) (by omega), he]
      have : (List.range w).foldl (fun o k => bput l w i k o) out = brow l w i out := rfl
      rw [this]
      simpa using hr
  · refine Ev.step (fun k => by rw [spec_l8Bits.l0]) ?_
    refine Ev.neg (by omega) (Ev.const ?_)
    rw [he]; rfl
theorem spec_BitsPack_ok (l : List Int) (hl : l.length ≤ 2000) (w : Nat) (hw : w ≤ 62) (hb : ∀ x ∈ l, 0 ≤ x ∧ shr .i64 x (w : Int) = 0) : Ev (fun k => spec_BitsPack.f k l (w : Int)) (bitsR l w, true) := by
  have h2 : l.length * w ≤ 2000 * 64 := Nat.mul_le_mul hl (by omega)
  have hc : ((l.length : Int) * (w : Int)) = ((l.length * w : Nat) : Int) := by push_cast; rfl
  have hN : spec_BitsSize.f (l.length : Int) (w : Int) = some (((l.length * w + 7) / 8 : Nat) : Int) := by
    unfold spec_BitsSize.f
    simp only [l1In_some, Option.bind_some]
    rw [decide_eq_true (show (0 : Int) ≤ (l.length : Int) ∧ (l.length : Int) ≤ 2000 by omega), decide_eq_true (show (0 : Int) ≤ (w : Int) ∧ (w : Int) ≤ 62 by omega), if_pos rfl, if_pos rfl]
    rw [hc, wrap64_id (x := ((l.length * w : Nat) : Int)) (by omega) (by omega), wrap64_id (x := ((l.length * w : Nat) : Int) + 7) (by omega) (by omega), Int.tdiv_eq_ediv_of_nonneg (by omega), wrap64_id (by omega) (by omega)]
    congr 1
  unfold spec_BitsPack.f
  refine Ev.here hN (Ev.neg (by omega) (Ev.pos (by omega) (Ev.pos (by omega) ?_)))
  rw [Int.toNat_natCast]
  refine loop_inv (fun k out i => spec_BitsPack.l0 k l (w : Int) out i) (fun i out => brow l w i out) l.length _ (fun _ out => BOk ((l.length * w + 7) / 8) out) _ ⟨by simp, fun x hx => by obtain rfl := List.eq_of_mem_replicate hx; omega⟩ (fun i out hi ho => brow_ok w ho) (fun i out hi ho hr => ?_) (fun out ho he => ?_)
  · refine Ev.step (fun k => by rw [spec_BitsPack.l0]) ?_
    have hbi : 0 ≤ rd l (i : Int) ∧ shr .i64 (rd l (i : Int)) (w : Int) = 0 := by rw [rd_eq (by simpa using hi)]; exact hb _ (List.getElem_mem _)
    refine Ev.pos (by omega) (Ev.pos (by omega) (Ev.neg (by omega) (Ev.pos (by omega) ?_)))
    refine Ev.step (fun k => by rw [spec_BitsPack.j1]) ?_
    refine Ev.neg (by rw [hbi.2]; decide) ?_
    refine loop_inv (fun n o k => spec_BitsPack.l1 n l (w : Int) o (i : Int) k) (fun k o => bput l w i k o) w _ (fun _ o => BOk ((l.length * w + 7) / 8) o) out ho (fun k o _ h => bput_ok h) (fun k o hk hok hr2 => ?_) (fun o hok he => ?_)
    · obtain ⟨p1, p2, p3⟩ := pos_facts l (by omega) w (by omega) i k hi hk
      refine Ev.step (fun k => by rw [spec_BitsPack.l1]) ?_
      refine Ev.pos (by omega) (Ev.pos (by omega) (Ev.pos (by omega) (Ev.pos (by omega) ?_)))
      rw [wrap64_id (x := (k : Int) + 1) (by omega) (by omega), p1, and_one]
      have hr3 : Ev (fun n => spec_BitsPack.l1 n l (w : Int) (bput l w i k o) (i : Int) ((k : Int) + 1)) (bitsR l w, true) := by simpa using hr2
      by_cases hb : (shr .i64 (rd l (i : Int)) (k : Int)) % 2 = 0
      · refine Ev.neg (by omega) ?_
        rw [bput_skip hok hb (by omega)] at hr3
        exact hr3
      · have hb1 : (shr .i64 (rd l (i : Int)) (k : Int)) % 2 = 1 := by omega
        rw [wrap64_id (x := ((i * w + k : Nat) : Int)) (by omega) (by omega), Int.tdiv_eq_ediv_of_nonneg (by omega), Int.tmod_eq_emod_of_nonneg (by omega)]
        have e1 : wrap64 (((i * w + k : Nat) : Int) / 8) = (((i * w + k) / 8 : Nat) : Int) := by rw [wrap64_id (by omega) (by omega)]; omega
        have e2 : ((i * w + k : Nat) : Int) % 8 = (((i * w + k) % 8 : Nat) : Int) := by omega
        rw [e1, e2]
        have hlen := hok.1
        refine Ev.pos hb1 (Ev.pos (by omega) (Ev.pos (by omega) (Ev.pos (by omega) ?_)))
        unfold bput at hr3
        rw [hb1] at hr3
        rw [Int.toNat_natCast]
        exact hr3
    · refine Ev.step (fun k => by rw [spec_BitsPack.l1]) ?_
      refine Ev.neg (by omega) ?_
      rw [wrap64_id (x := (i : Int) + 1) (by omega) (by omega), he]
      have : (List.range w).foldl (fun o k => bput l w i k o) out = brow l w i out := rfl
      rw [this]
      simpa using hr
  · refine Ev.step (fun k => by rw [spec_BitsPack.l0]) ?_
    refine Ev.neg (by omega) (Ev.const ?_)
    rw [he]; rfl
theorem bitsSize_spec (w : Nat) (hw : w ≤ 24) : spec_BitsSize.f 1 (w : Int) = some (((w + 7) / 8 : Nat) : Int) := by
  unfold spec_BitsSize.f
  simp only [l1In_some, Option.bind_some]
  rw [decide_eq_true (show (0 : Int) ≤ 1 ∧ (1 : Int) ≤ 2000 by omega), decide_eq_true (show (0 : Int) ≤ (w : Int) ∧ (w : Int) ≤ 62 by omega), if_pos rfl, if_pos rfl]
  rw [Int.one_mul, wrap64_id (x := (w : Int)) (by omega) (by omega), wrap64_id (x := (w : Int) + 7) (by omega) (by omega), Int.tdiv_eq_ediv_of_nonneg (by omega), wrap64_id (by omega) (by omega)]
  congr 1
theorem bitsSize_impl (w : Nat) (hw : w ≤ 24) : impl_BitsSize.f 1 (w : Int) = some (((w + 7) / 8 : Nat) : Int) := by
  unfold impl_BitsSize.f
  simp only [within_some, Option.bind_some]
  rw [decide_eq_true (show (0 : Int) ≤ 1 ∧ (1 : Int) ≤ 2000 by omega), decide_eq_true (show (0 : Int) ≤ (w : Int) ∧ (w : Int) ≤ 62 by omega), if_pos rfl, if_pos rfl]
  rw [Int.one_mul, wrap64_id (x := (w : Int)) (by omega) (by omega), wrap64_id (x := (w : Int) + 7) (by omega) (by omega), Int.tdiv_eq_ediv_of_nonneg (by omega), wrap64_id (by omega) (by omega)]
  congr 1
/-- The bytes of a number, the low ones first. -/
def wbytes (x : Int) (n : Nat) : List Int := (List.range n).map fun (k : Nat) => (shr .i64 x (8 * (k : Int))) % 256
theorem wbytes_length (x : Int) (n : Nat) : (wbytes x n).length = n := by simp [wbytes]
theorem spec_WordPut_ev (x : Int) (n : Nat) (hn : n ≤ 8) : Ev (fun k => spec_WordPut.f k x (n : Int)) (wbytes x n) := by
  unfold spec_WordPut.f
  refine append_loop (fun k s i => spec_WordPut.l0 k x (n : Int) s i) (fun (i : Nat) => (shr .i64 x (8 * (i : Int))) % 256) n _ (fun i s hi hl hr => ?_) ?_
  · refine Ev.step (fun k => by rw [spec_WordPut.l0]) ?_
    refine Ev.pos (by omega) (Ev.here (l1In_some _ _ _) (Ev.pos (by simp; omega) ?_))
    rw [wrap64_id (x := 8 * (i : Int)) (by omega) (by omega), wrap64_id (x := (i : Int) + 1) (by omega) (by omega)]
    refine Ev.pos (by omega) (Ev.pos (by omega) ?_)
    simpa using hr
  · exact Ev.step (fun k => by rw [spec_WordPut.l0]) (by exact Ev.neg (by omega) (Ev.now _))
theorem impl_WordPut_ev (x : Int) (n : Nat) (hn : n ≤ 8) : Ev (fun k => impl_WordPut.f k x (n : Int)) (wbytes x n) := by
  unfold impl_WordPut.f
  refine Ev.here (within_some _ _ _) ?_
  by_cases h0 : n = 0
  · subst h0
    exact Ev.neg (by simp) (Ev.now _)
  refine Ev.pos (by simp; omega) ?_
  refine append_loop (fun k s i => impl_WordPut.l0 k x s (n : Int) i) (fun (i : Nat) => (shr .i64 x (8 * (i : Int))) % 256) n _ (fun i s hi hl hr => ?_) ?_
  · refine Ev.step (fun k => by rw [impl_WordPut.l0]) ?_
    rw [wrap64_id (x := 8 * (i : Int)) (by omega) (by omega), wrap64_id (x := (i : Int) + 1) (by omega) (by omega)]
    refine Ev.pos (by omega) (Ev.pos (by omega) (Ev.pos (by omega) ?_))
    simpa using hr
  · exact Ev.step (fun k => by rw [impl_WordPut.l0]) (by exact Ev.neg (by omega) (Ev.now _))
def AllI (d : List Int) : Prop := ∀ x ∈ d, -9223372036854775808 ≤ x ∧ x ≤ 9223372036854775807
theorem rd_I {d : List Int} (h : AllI d) (j : Int) : -9223372036854775808 ≤ rd d j ∧ rd d j ≤ 9223372036854775807 := by
  by_cases hj : j.toNat < d.length
  · rw [rd_eq hj]; exact h _ (List.getElem_mem hj)
  · unfold rd; rw [List.getD_eq_getElem?_getD, List.getElem?_eq_none (by omega)]; simp
theorem flat_snoc_ {α β : Type} (g : α → List β) (T : List α) (i : Nat) (h : i < T.length) : (T.take (i + 1)).flatMap g = (T.take i).flatMap g ++ g T[i] := by
  rw [List.take_succ_eq_append_getElem h, List.flatMap_append]; congr 1; simp
theorem flat_le_ {α β : Type} (g : α → List β) (c : Nat) (T : List α) (hc : ∀ x ∈ T, (g x).length ≤ c) : (T.flatMap g).length ≤ c * T.length := by
  induction T with
  | nil => simp
  | cons s T ih =>
    have h1 := ih (fun x hx => hc x (List.mem_cons_of_mem _ hx))
    have h2 := hc s (List.mem_cons_self)
    rw [List.flatMap_cons, List.length_append, List.length_cons, Nat.mul_add]
    omega
/-- A loop that appends some rows, one behind the other. -/
theorem flat_loop {α β γ : Type} (L : Nat → List β → Int → Option γ) (g : α → List β) (c : Nat) (T : List α) (hc : ∀ x ∈ T, (g x).length ≤ c) (r : γ) (s0 : List β)
    (hL : ∀ (i : Nat) (s : List β) (h : i < T.length), s.length ≤ s0.length + c * i → (g T[i]).length ≤ c → Ev (fun k => L k (s ++ g T[i]) (i + 1 : Nat)) r → Ev (fun k => L k s (i : Int)) r)
    (h : Ev (fun k => L k (s0 ++ T.flatMap g) (T.length : Int)) r) : Ev (fun k => L k s0 0) r := by
  have key : ∀ (d i : Nat), i + d = T.length → Ev (fun k => L k (s0 ++ (T.take i).flatMap g) (i : Int)) r := by
    intro d
    induction d with
    | zero =>
      intro i hi
      obtain rfl : i = T.length := by omega
      rw [List.take_length]; exact h
    | succ d ih =>
      intro i hi
      have h1 := ih (i + 1) (by omega)
      rw [flat_snoc_ g T i (by omega), ← List.append_assoc] at h1
      refine hL i _ (by omega) ?_ (hc _ (List.getElem_mem _)) h1
      have h2 := flat_le_ g c (T.take i) (fun s hs => hc s (List.mem_of_mem_take hs))
      rw [List.length_take] at h2
      have e : min i T.length = i := by omega
      rw [e] at h2
      rw [List.length_append]; omega
  have := key T.length 0 (by omega)
  simpa using this
def pbytes (t : Int) (v : S46) : List Int := if t = 6 then wbytes (v.f1.size : Int) 4 ++ bytesOf v.f1 else wbytes v.f0 (wideB t).toNat
def numsB (l : List S46) : List Int := l.map fun v => v.f0
def plainR (t : Int) (l : List S46) : List Int × Bool := if vsOk t l = true then (if t = 0 then (bitsR (numsB l) 1, true) else (l.flatMap (pbytes t), true)) else ([], false)
theorem pbytes_le (t : Int) (l : List S46) (h : vsOk t l = true) : ∀ v ∈ l, (pbytes t v).length ≤ 44 := by
  intro v hv
  simp only [vsOk, Bool.and_eq_true, decide_eq_true_eq] at h
  have h1 := List.all_eq_true.1 h.2 v hv
  unfold pbytes
  by_cases h6 : t = 6
  · rw [if_pos h6, List.length_append, wbytes_length, bytesOf_length]
    subst h6
    simp [vOk] at h1
    omega
  · rw [if_neg h6, wbytes_length]
    have : wideB t ≤ 8 := by unfold wideB; split <;> (try split) <;> (try split) <;> omega
    omega
theorem vsOk_type {t : Int} {l : List S46} (h : vsOk t l = true) : (t = 0 ∨ t = 1 ∨ t = 2 ∨ t = 5 ∨ t = 6) ∧ l.length ≤ 2000 := by
  simp only [vsOk, Bool.and_eq_true, decide_eq_true_eq, tOk] at h
  exact ⟨h.1.2, by omega⟩
theorem numsB_bits {l : List S46} (h : vsOk 0 l = true) : ∀ x ∈ numsB l, 0 ≤ x ∧ shr .i64 x ((1 : Nat) : Int) = 0 := by
  intro x hx
  obtain ⟨v, hv, rfl⟩ := List.mem_map.1 hx
  simp only [vsOk, Bool.and_eq_true, decide_eq_true_eq] at h
  have h1 := List.all_eq_true.1 h.2 v hv
  simp [vOk] at h1
  refine ⟨h1.1.1, ?_⟩
  have h2 : v.f0 = 0 ∨ v.f0 = 1 := by omega
  rcases h2 with h2 | h2 <;> rw [h2] <;> decide
theorem impl_numsOf_ev (l : List S46) (hl : l.length ≤ 1048576) : Ev (fun k => impl_numsOf.f k l) (numsB l) := by
  unfold impl_numsOf.f
  refine append_loop (fun k s i => impl_numsOf.l0 k s l (l.length : Int) i) (fun i => (rd_T46 l (i : Int)).f0) l.length _ (fun i s hi hls hr => ?_) ?_
  · refine Ev.step (fun k => by rw [impl_numsOf.l0]) ?_
    refine Ev.pos (by omega) (Ev.pos (by omega) (Ev.pos (by omega) (Ev.pos (by omega) ?_)))
    rw [wrap64_id (x := (i : Int) + 1) (by omega) (by omega)]
    simpa using hr
  · refine Ev.step (fun k => by rw [impl_numsOf.l0]) ?_
    refine Ev.neg (by omega) (Ev.const ?_)
    congr 1
    apply List.ext_getElem?
    intro j
    unfold numsB
    by_cases hj : j < l.length
    · have e : rd_T46 l (j : Int) = l[j] := getD_eq (by simpa using hj)
      simp [hj, e]
    · simp [hj]
theorem plainR_le (t : Int) (l : List S46) : (plainR t l).1.length ≤ 100000 := by
  unfold plainR
  by_cases h : vsOk t l = true
  · rw [if_pos h]
    obtain ⟨_, h2⟩ := vsOk_type h
    by_cases h0 : t = 0
    · rw [if_pos h0]
      have := (bitsR_ok (numsB l) 1).1
      have h3 : (numsB l).length = l.length := by simp [numsB]
      show (bitsR (numsB l) 1).length ≤ 100000
      rw [this, h3]; omega
    · rw [if_neg h0]
      have := flat_le_ (pbytes t) 44 l (pbytes_le t l h)
      show (l.flatMap (pbytes t)).length ≤ 100000
      omega
  · rw [if_neg h]; simp
theorem spec_PlainPack_ev (t : Int) (l : List S46) (hl : l.length ≤ 1048576) : Ev (fun k => spec_PlainPack.f k t l) (plainR t l) := by
  unfold spec_PlainPack.f
  refine Ev.here rfl (Ev.bind (spec_l6Vals_ev t l hl) ?_)
  rcases Bool.eq_false_or_eq_true (vsOk t l) with h | h
  case inr =>
    have h : ¬ vsOk t l = true := by rw [h]; decide
    rw [show plainR t l = ([], false) from if_neg h]
    exact Ev.neg h (Ev.now _)
  refine Ev.pos h ?_
  obtain ⟨ht, hl2⟩ := vsOk_type h
  have hle := pbytes_le t l h
  by_cases h0 : t = 0
  · subst h0
    rw [show plainR 0 l = (bitsR (numsB l) 1, true) from by unfold plainR; rw [if_pos h, if_pos rfl]]
    refine append_loop (fun k s i => spec_PlainPack.l0 k 0 l [] s i) (fun i => (rd_T46 l (i : Int)).f0) l.length _ (fun i s hi hls hr => ?_) ?_
    · refine Ev.step (fun k => by rw [spec_PlainPack.l0]) ?_
      refine Ev.pos (by omega) (Ev.pos (by omega) (Ev.pos rfl (Ev.pos (by omega) ?_)))
      rw [wrap64_id (x := (i : Int) + 1) (by omega) (by omega)]
      simpa using hr
    · have e : (List.range l.length).map (fun (i : Nat) => (rd_T46 l (i : Int)).f0) = numsB l := by
        apply List.ext_getElem?
        intro j
        unfold numsB
        by_cases hj : j < l.length
        · have e : rd_T46 l (j : Int) = l[j] := getD_eq (by simpa using hj)
          simp [hj, e]
        · simp [hj]
      rw [e]
      refine Ev.step (fun k => by rw [spec_PlainPack.l0]) ?_
      have hb := spec_BitsPack_ok (numsB l) (by simp [numsB]; exact hl2) 1 (by omega) (numsB_bits h)
      exact Ev.neg (by omega) (Ev.pos rfl (Ev.bind hb (Ev.now _)))
  · rw [show plainR t l = (l.flatMap (pbytes t), true) from by unfold plainR; rw [if_pos h, if_neg h0]]
    refine flat_loop (fun k s i => spec_PlainPack.l0 k t l s [] i) (pbytes t) 44 l hle _ [] (fun i s hi hs hsz hr => ?_) ?_
    · have e : rd_T46 l (i : Int) = l[i] := getD_eq (by simpa using hi)
      have hs2 : s.length ≤ 44 * 2000 := by simp at hs; omega
      refine Ev.step (fun k => by rw [spec_PlainPack.l0]) ?_
      rw [wrap64_id (x := (i : Int) + 1) (by omega) (by omega), e]
      refine Ev.pos (by omega) (Ev.pos (by omega) (Ev.neg h0 ?_))
      by_cases h1 : t = 1
      · have ep : pbytes t l[i] = wbytes (l[i]).f0 4 := by subst h1; rfl
        rw [ep] at hr hsz
        exact Ev.pos h1 (Ev.bind (spec_WordPut_ev _ 4 (by omega)) (Ev.pos (by omega) (by simpa using hr)))
      refine Ev.neg h1 ?_
      by_cases h6 : t = 6
      · have ep : pbytes t l[i] = wbytes ((l[i]).f1.size : Int) 4 ++ bytesOf (l[i]).f1 := by unfold pbytes; rw [if_pos h6]
        have hwl := wbytes_length ((l[i]).f1.size : Int) 4
        rw [ep] at hr hsz
        rw [List.length_append, bytesOf_length] at hsz
        rw [← List.append_assoc] at hr
        exact Ev.pos h6 (Ev.bind (spec_WordPut_ev _ 4 (by omega)) (Ev.pos (by omega) (Ev.here rfl (Ev.pos (by rw [List.length_append]; omega) (by simpa using hr)))))
      · have hw8 : wideB t = 8 := by unfold wideB; rw [if_neg h1]; split; rfl; rw [if_pos (by omega)]
        have ep : pbytes t l[i] = wbytes (l[i]).f0 8 := by unfold pbytes; rw [if_neg h6, hw8]; rfl
        rw [ep] at hr hsz
        exact Ev.neg h6 (Ev.bind (spec_WordPut_ev _ 8 (by omega)) (Ev.pos (by omega) (by simpa using hr)))
    · refine Ev.step (fun k => by rw [spec_PlainPack.l0]) ?_
      exact Ev.neg (by omega) (Ev.neg h0 (Ev.now _))
theorem impl_PlainPack_ev (t : Int) (l : List S46) (hl : l.length ≤ 1048576) : Ev (fun k => impl_PlainPack.f k t l) (plainR t l) := by
  unfold impl_PlainPack.f
  refine Ev.bind (impl_valsOk_ev t l hl) ?_
  rcases Bool.eq_false_or_eq_true (vsOk t l) with h | h
  case inr =>
    have h : ¬ vsOk t l = true := by rw [h]; decide
    rw [show plainR t l = ([], false) from if_neg h]
    exact Ev.neg h (Ev.now _)
  refine Ev.pos h ?_
  obtain ⟨ht, hl2⟩ := vsOk_type h
  have hle := pbytes_le t l h
  by_cases h0 : t = 0
  · subst h0
    rw [show plainR 0 l = (bitsR (numsB l) 1, true) from by unfold plainR; rw [if_pos h, if_pos rfl]]
    exact Ev.pos rfl (Ev.bind (impl_numsOf_ev l hl) (Ev.bind (impl_packed_ev (numsB l) (by simp [numsB]; omega) 1 (by omega)) (Ev.now _)))
  · rw [show plainR t l = (l.flatMap (pbytes t), true) from by unfold plainR; rw [if_pos h, if_neg h0]]
    refine Ev.neg h0 ?_
    refine flat_loop (fun k s i => impl_PlainPack.l0 k t s l (l.length : Int) i) (pbytes t) 44 l hle _ [] (fun i s hi hs hsz hr => ?_) ?_
    · have e : rd_T46 l (i : Int) = l[i] := getD_eq (by simpa using hi)
      have hs2 : s.length ≤ 44 * 2000 := by simp at hs; omega
      refine Ev.step (fun k => by rw [impl_PlainPack.l0]) ?_
      rw [wrap64_id (x := (i : Int) + 1) (by omega) (by omega), e]
      refine Ev.pos (by omega) (Ev.pos (by omega) (Ev.pos (by omega) ?_))
      by_cases h6 : t = 6
      · have ep : pbytes t l[i] = wbytes ((l[i]).f1.size : Int) 4 ++ bytesOf (l[i]).f1 := by unfold pbytes; rw [if_pos h6]
        have hwl := wbytes_length ((l[i]).f1.size : Int) 4
        rw [ep] at hr hsz
        rw [List.length_append, bytesOf_length] at hsz
        rw [← List.append_assoc] at hr
        exact Ev.pos h6 (Ev.bind (impl_WordPut_ev _ 4 (by omega)) (Ev.pos (by omega) (Ev.here rfl (Ev.pos (by rw [List.length_append]; omega) (by simpa using hr)))))
      · have ep : pbytes t l[i] = wbytes (l[i]).f0 (wideB t).toNat := by unfold pbytes; rw [if_neg h6]
        have hwr : 0 ≤ wideB t ∧ wideB t ≤ 8 := by unfold wideB; split <;> (try split) <;> (try split) <;> omega
        have hwn : wideB t = ((wideB t).toNat : Int) := by omega
        have hwl := wbytes_length (l[i]).f0 (wideB t).toNat
        rw [ep] at hr hsz
        refine Ev.neg h6 (Ev.here (wideOf_some t) ?_)
        rw [hwn]
        exact Ev.bind (impl_WordPut_ev _ _ (by omega)) (Ev.pos (by omega) (by simpa using hr))
    · refine Ev.step (fun k => by rw [impl_PlainPack.l0]) ?_
      exact Ev.neg (by omega) (Ev.now _)
def mstepD (d : List Int) (i : Nat) (s : Int) : Int := if rd d ((i : Int) + 1) < s then rd d ((i : Int) + 1) else s
def leastB (d : List Int) : Int := (List.range (d.length - 1)).foldl (fun s (i : Nat) => mstepD d i s) (rd d 0)
theorem leastB_I {d : List Int} (h : AllI d) : -9223372036854775808 ≤ leastB d ∧ leastB d ≤ 9223372036854775807 := by
  unfold leastB
  have : ∀ m : Nat, -9223372036854775808 ≤ (List.range m).foldl (fun s (i : Nat) => mstepD d i s) (rd d 0) ∧ (List.range m).foldl (fun s (i : Nat) => mstepD d i s) (rd d 0) ≤ 9223372036854775807 := by
    intro m
    induction m with
    | zero => exact rd_I h 0
    | succ m ih =>
      rw [List.range_succ, List.foldl_append]
      simp only [List.foldl_cons, List.foldl_nil]
      have := rd_I h ((m : Int) + 1)
      unfold mstepD at ih ⊢
      split
      · exact this
      · exact ih
  exact this _
theorem impl_least_ev (d : List Int) (h0 : 0 < d.length) (hl : d.length ≤ 1048576) : Ev (fun k => slices_Min_int_int.f k d) (leastB d) := by
  unfold slices_Min_int_int.f
  refine Ev.neg (by omega) (Ev.pos (by omega) ?_)
  have := loop_cps (fun k s i => slices_Min_int_int.l0 k d s (i + 1)) (mstepD d) (d.length - 1) (leastB d) (fun i s hi hr => by
    refine Ev.step (fun k => by rw [slices_Min_int_int.l0]) ?_
    refine Ev.pos (by omega) (Ev.pos (by omega) ?_)
    rw [wrap64_id (x := (i : Int) + 1 + 1) (by omega) (by omega)]
    have e : mn s (rd d ((i : Int) + 1)) = mstepD d i s := rfl
    rw [e]
    simpa using hr) (rd d 0) (by
    refine Ev.step (fun k => by rw [slices_Min_int_int.l0]) ?_
    exact Ev.neg (by omega) (Ev.now _))
  simpa using this
/-- The numbers of miniblock m, less the least one; the width of the widest. -/
def nstep (d : List Int) (least : Int) (m j : Nat) (s : List Int × Int) : List Int × Int :=
  (s.1 ++ [wrap64 (rd d ((32 * m + j : Nat) : Int) - least)], if s.2 < widB (wrap64 (rd d ((32 * m + j : Nat) : Int) - least)) then widB (wrap64 (rd d ((32 * m + j : Nat) : Int) - least)) else s.2)
def cntD (d : List Int) (m : Nat) : Nat := min 32 (d.length - 32 * m)
def mini (d : List Int) (least : Int) (m : Nat) : List Int × Int := (List.range (cntD d m)).foldl (fun s j => nstep d least m j s) ([], 0)
def MOk (j : Nat) (s : List Int × Int) : Prop := s.1.length = j ∧ 0 ≤ s.2 ∧ s.2 ≤ 64
theorem nstep_ok {d : List Int} {least : Int} {m j : Nat} {s : List Int × Int} (h : MOk j s) : MOk (j + 1) (nstep d least m j s) := by
  obtain ⟨h1, h2, h3⟩ := h
  have := widB_range (wrap64 (rd d ((32 * m + j : Nat) : Int) - least))
  refine ⟨by simp [nstep, h1], ?_, ?_⟩
  · unfold nstep; dsimp only; split <;> omega
  · unfold nstep; dsimp only; split <;> omega
theorem mini_ok (d : List Int) (least : Int) (m : Nat) : MOk (cntD d m) (mini d least m) := by
  unfold mini
  have : ∀ c, MOk c ((List.range c).foldl (fun s j => nstep d least m j s) ([], 0)) := by
    intro c
    induction c with
    | zero => exact ⟨rfl, by simp, by simp⟩
    | succ c ih => rw [List.range_succ, List.foldl_append]; exact nstep_ok ih
  exact this _
def padL (l : List Int) : List Int := l ++ List.replicate (32 - l.length) 0
def dstep (d : List Int) (least : Int) (m : Nat) (s : List Int × List Int) : List Int × List Int :=
  (s.1 ++ [(mini d least m).2 % 256], if cntD d m = 0 then s.2 else s.2 ++ bitsR (padL (mini d least m).1) (mini d least m).2.toNat)
theorem bits32_length (l : List Int) (w : Nat) (hl : l.length ≤ 32) (hw : w ≤ 64) : (bitsR (padL l) w).length ≤ 256 := by
  have h := (bitsR_ok (padL l) w).1
  have e : (padL l).length = 32 := by unfold padL; simp; omega
  rw [h, e]
  have : 32 * w ≤ 32 * 64 := Nat.mul_le_mul_left _ hw
  omega
def DOk (m : Nat) (s : List Int × List Int) : Prop := s.1.length = m ∧ s.2.length ≤ 256 * m
theorem dstep_ok {d : List Int} {least : Int} {m : Nat} {s : List Int × List Int} (h : DOk m s) : DOk (m + 1) (dstep d least m s) := by
  obtain ⟨h1, h2⟩ := h
  obtain ⟨m1, m2, m3⟩ := mini_ok d least m
  refine ⟨by simp [dstep, h1], ?_⟩
  unfold dstep
  dsimp only
  have hc : cntD d m ≤ 32 := by unfold cntD; omega
  have := bits32_length (mini d least m).1 (mini d least m).2.toNat (by omega) (by omega)
  split
  · omega
  · rw [List.length_append]; omega
theorem pad_loop (d : List Int) (least : Int) (wd da : List Int) (m : Int) (w : Int) (r : List Int) : ∀ (f : Nat) (l : List Int), l.length + f = 32 →
    Ev (fun k => (spec_l9Bits.f k (l ++ List.replicate f 0) w).bind fun t172 => (if da.length + t172.length < 140737488355328 then (spec_l9Block.l1 k d least 32 wd (da ++ t172) (wrap64 (m + 1))) else (none))) r → Ev (fun k => spec_l9Block.l3 k d least 32 wd da m l w) r := by
  intro f
  induction f with
  | zero =>
    intro l hl h
    refine Ev.step (fun k => by rw [spec_l9Block.l3]) ?_
    refine Ev.neg (by omega) ?_
    simpa using h
  | succ f ih =>
    intro l hl h
    refine Ev.step (fun k => by rw [spec_l9Block.l3]) ?_
    refine Ev.pos (by omega) (Ev.pos (by omega) ?_)
    refine ih (l ++ [0]) (by simp; omega) ?_
    rw [List.append_assoc, List.singleton_append, ← List.replicate_succ]
    exact h
theorem spec_block_ev (d : List Int) (hd : AllI d) (h0 : 0 < d.length) (hl : d.length ≤ 128) (z : List Int) (hz : Ev (fun k => spec_ZigPut.f k (leastB d)) z) (hzl : z.length ≤ 10) :
    Ev (fun k => spec_l9Block.f k d) (z ++ ((List.range 4).foldl (fun s m => dstep d (leastB d) m s) ([], [])).1 ++ ((List.range 4).foldl (fun s m => dstep d (leastB d) m s) ([], [])).2) := by
  unfold spec_l9Block.f
  refine Ev.pos (by omega) ?_
  generalize hR : z ++ ((List.range 4).foldl (fun s m => dstep d (leastB d) m s) ([], [])).1 ++ ((List.range 4).foldl (fun s m => dstep d (leastB d) m s) ([], [])).2 = R
  have hleast := leastB_I hd
  have := loop_cps (fun k s i => spec_l9Block.l0 k d s (i + 1)) (mstepD d) (d.length - 1) R (fun i s hi hr => by
    refine Ev.step (fun k => by rw [spec_l9Block.l0]) ?_
    refine Ev.pos (by omega) (Ev.pos (by omega) (Ev.here (a := mstepD d i s) (by unfold spec_l1Min.f mstepD; (repeat' split) <;> first | rfl | (congr 1; omega)) ?_))
    rw [wrap64_id (x := (i : Int) + 1 + 1) (by omega) (by omega)]
    simpa using hr) (rd d 0) (by
    have e : (List.range (d.length - 1)).foldl (fun s i => mstepD d i s) (rd d 0) = leastB d := rfl
    rw [e]
    refine Ev.step (fun k => by rw [spec_l9Block.l0]) ?_
    refine Ev.neg (by omega) ?_
    refine loop_inv (fun k (s : List Int × List Int) m => spec_l9Block.l1 k d (leastB d) 32 s.1 s.2 m) (fun m s => dstep d (leastB d) m s) 4 R DOk ([], []) ⟨rfl, by simp⟩ (fun m s _ h => dstep_ok h) (fun m s hm hs hr => ?_) (fun s hs he => ?_)
    · obtain ⟨wd, da⟩ := s
      obtain ⟨hs1, hs2⟩ := hs
      dsimp only at hs1 hs2
      have hc : cntD d m ≤ 32 := by unfold cntD; omega
      have hc2 : cntD d m = 32 ∨ 32 * m + cntD d m ≥ d.length := by unfold cntD; omega
      have hc3 : ∀ j, j < cntD d m → 32 * m + j < d.length := by unfold cntD; omega
      refine Ev.step (fun k => by rw [spec_l9Block.l1]) ?_
      refine Ev.pos (by omega) ?_
      rw [wrap64_id (x := (m : Int) * 32) (by omega) (by omega)]
      have inner := loop_inv (fun k (s : List Int × Int) j => spec_l9Block.l2 k d (leastB d) 32 wd da (m : Int) s.1 s.2 ((m : Int) * 32 + j)) (fun j s => nstep d (leastB d) m j s) (cntD d m) R MOk ([], 0) ⟨rfl, by simp, by simp⟩ (fun j s _ h => nstep_ok h) (fun j s hj hs hr2 => by
        obtain ⟨nums, w⟩ := s
        obtain ⟨q1, q2, q3⟩ := hs
        dsimp only at q1 q2 q3
        have hlt := hc3 j hj
        refine Ev.step (fun k => by rw [spec_l9Block.l2]) ?_
        rw [wrap64_id (x := (m : Int) + 1) (by omega) (by omega), wrap64_id (x := ((m : Int) + 1) * 32) (by omega) (by omega)]
        refine Ev.pos (by omega) ?_
        refine Ev.step (fun k => by rw [spec_l9Block.j3]) ?_
        rw [wrap64_id (x := (m : Int) * 32 + j + 1) (by omega) (by omega)]
        have ei : (m : Int) * 32 + (j : Int) = ((32 * m + j : Nat) : Int) := by push_cast; omega
        have hw := spec_l9Width_ev (wrap64 (rd d ((32 * m + j : Nat) : Int) - leastB d)) (wrap64_lo _) (wrap64_hi _)
        rw [ei]
        refine Ev.pos (by simp; omega) (Ev.pos (by omega) (Ev.pos (by omega) (Ev.pos (by dsimp only; omega) (Ev.bind hw (Ev.here (a := (nstep d (leastB d) m j (nums, w)).2) (by unfold spec_l1Max.f nstep; dsimp only; (repeat' split) <;> first | rfl | (congr 1; omega)) ?_)))))
        have e2 : ((32 * m + j : Nat) : Int) + 1 = (m : Int) * 32 + ((j + 1 : Nat) : Int) := by push_cast; omega
        rw [e2]
        exact hr2) (fun s hs he => by
        have hs' : s = mini d (leastB d) m := he
        obtain ⟨q1, q2, q3⟩ := hs
        refine Ev.step (fun k => by rw [spec_l9Block.l2]) ?_
        rw [wrap64_id (x := (m : Int) + 1) (by omega) (by omega), wrap64_id (x := ((m : Int) + 1) * 32) (by omega) (by omega)]
        have tail : Ev (fun k => spec_l9Block.j3 k d (leastB d) 32 wd da (m : Int) s.1 s.2 ((m : Int) * 32 + (cntD d m : Int)) false) R := by
          refine Ev.step (fun k => by rw [spec_l9Block.j3]) ?_
          refine Ev.neg (by decide) (Ev.pos (by omega) (Ev.here rfl ?_))
          have e2 : ((m + 1 : Nat) : Int) = (m : Int) + 1 := by push_cast; rfl
          rw [e2] at hr
          unfold dstep at hr
          rw [← hs'] at hr
          dsimp only at hr
          by_cases hz : cntD d m = 0
          · rw [if_pos hz] at hr
            refine Ev.pos (by omega) ?_
            rw [wrap64_id (x := (m : Int) + 1) (by omega) (by omega)]
            exact hr
          · rw [if_neg hz] at hr
            refine Ev.neg (by omega) ?_
            have hb := spec_l9Bits_ev (padL s.1) (by unfold padL; simp; omega) s.2.toNat (by omega)
            have hbl := bits32_length s.1 s.2.toNat (by omega) (by omega)
            rw [Int.toNat_of_nonneg q2] at hb
            refine pad_loop d (leastB d) (wd ++ [s.2 % 256]) da (m : Int) s.2 R (32 - s.1.length) s.1 (by omega) (Ev.bind hb (Ev.pos (by omega) ?_))
            rw [wrap64_id (x := (m : Int) + 1) (by omega) (by omega)]
            exact hr
        by_cases hx : (m : Int) * 32 + (cntD d m : Int) < ((m : Int) + 1) * 32
        · refine Ev.pos hx ?_
          have : decide ((m : Int) * 32 + (cntD d m : Int) < (d.length : Int)) = false := decide_eq_false (by omega)
          rw [this]; exact tail
        · exact Ev.neg hx tail)
      simpa using inner
    · obtain ⟨q1, q2⟩ := hs
      refine Ev.step (fun k => by rw [spec_l9Block.l1]) ?_
      refine Ev.neg (by omega) (Ev.bind hz (Ev.pos (by omega) (Ev.here rfl (Ev.pos (by simp; omega) (Ev.const ?_)))))
      rw [← hR, he])
  simpa using this
theorem impl_block_ev (d : List Int) (hd : AllI d) (h0 : 0 < d.length) (hl : d.length ≤ 128) (z : List Int) (hz : Ev (fun k => impl_ZigPut.f k (leastB d)) z) (hzl : z.length ≤ 10) :
    Ev (fun k => impl_blockOf.f k d) (z ++ ((List.range 4).foldl (fun s m => dstep d (leastB d) m s) ([], [])).1 ++ ((List.range 4).foldl (fun s m => dstep d (leastB d) m s) ([], [])).2) := by
  unfold impl_blockOf.f
  generalize hR : z ++ ((List.range 4).foldl (fun s m => dstep d (leastB d) m s) ([], [])).1 ++ ((List.range 4).foldl (fun s m => dstep d (leastB d) m s) ([], [])).2 = R
  refine Ev.bind (impl_least_ev d h0 (by omega)) (Ev.bind hz ?_)
  have := loop_inv (fun k (s : List Int × List Int) m => impl_blockOf.l0 k d (leastB d) (z ++ s.1) s.2 m) (fun m s => dstep d (leastB d) m s) 4 R DOk ([], []) ⟨rfl, by simp⟩ (fun m s _ h => dstep_ok h) (fun m s hm hs hr => by
    obtain ⟨wd, da⟩ := s
    obtain ⟨hs1, hs2⟩ := hs
    dsimp only at hs1 hs2
    have hc : cntD d m ≤ 32 := by unfold cntD; omega
    have hc2 : cntD d m = 32 ∨ 32 * m + cntD d m ≥ d.length := by unfold cntD; omega
    have hc3 : ∀ j, j < cntD d m → 32 * m + j < d.length := by unfold cntD; omega
    refine Ev.step (fun k => by rw [impl_blockOf.l0]) ?_
    refine Ev.pos (by omega) (Ev.pos (by omega) ?_)
    rw [wrap64_id (x := (m : Int) * 32) (by omega) (by omega)]
    have inner := loop_inv (fun k (s : List Int × Int) j => impl_blockOf.l1 k d (leastB d) (z ++ wd) da (m : Int) (padL s.1) j s.2 ((m : Int) * 32 + j) (m : Int)) (fun j s => nstep d (leastB d) m j s) (cntD d m) R MOk ([], 0) ⟨rfl, by simp, by simp⟩ (fun j s _ h => nstep_ok h) (fun j s hj hs hr2 => by
      obtain ⟨nums, w⟩ := s
      obtain ⟨q1, q2, q3⟩ := hs
      dsimp only at q1 q2 q3
      have hlt := hc3 j hj
      have hpl : (padL nums).length = 32 := by unfold padL; simp; omega
      refine Ev.step (fun k => by rw [impl_blockOf.l1]) ?_
      rw [wrap64_id (x := (m : Int) + 1) (by omega) (by omega), wrap64_id (x := ((m : Int) + 1) * 32) (by omega) (by omega), wrap64_id (x := (m : Int) * 32 + j + 1) (by omega) (by omega), wrap64_id (x := (j : Int) + 1) (by omega) (by omega)]
      have ei : (m : Int) * 32 + (j : Int) = ((32 * m + j : Nat) : Int) := by push_cast; omega
      rw [ei]
      have hset : ∀ v : Int, (padL nums).set j v = padL (nums ++ [v]) := by
        intro v
        unfold padL
        rw [List.set_append_right _ _ (by omega), q1, Nat.sub_self, show 32 - j = (31 - j) + 1 by omega, List.replicate_succ, List.set_cons_zero, List.length_append, List.length_singleton, q1, show 32 - (j + 1) = 31 - j by omega, List.append_assoc, List.singleton_append]
      refine Ev.pos (by omega) (Ev.pos (by omega) (Ev.pos (by omega) (Ev.pos (by omega) (Ev.pos (by dsimp only; omega) (Ev.here rfl ?_)))))
      rw [Int.toNat_natCast, hset]
      have hrd : rd (padL (nums ++ [wrap64 (rd d ((32 * m + j : Nat) : Int) - leastB d)])) (j : Int) = wrap64 (rd d ((32 * m + j : Nat) : Int) - leastB d) := by
        have hpl2 : (padL (nums ++ [wrap64 (rd d ((32 * m + j : Nat) : Int) - leastB d)])).length = 32 := by unfold padL; simp; omega
        rw [rd_eq (by omega)]
        simp only [Int.toNat_natCast]
        unfold padL
        rw [List.getElem_append_left (by simp; omega)]
        simp [← q1]
      rw [hrd]
      refine Ev.bind (impl_widthOf_ev _) ?_
      have e2 : ((32 * m + j : Nat) : Int) + 1 = (m : Int) * 32 + ((j + 1 : Nat) : Int) := by push_cast; omega
      rw [e2]
      exact hr2) (fun s hs he => by
      have hs' : s = mini d (leastB d) m := he
      obtain ⟨q1, q2, q3⟩ := hs
      have e2 : ((m + 1 : Nat) : Int) = (m : Int) + 1 := by push_cast; rfl
      rw [e2] at hr
      unfold dstep at hr
      rw [← hs'] at hr
      dsimp only at hr
      rw [← List.append_assoc] at hr
      refine Ev.step (fun k => by rw [impl_blockOf.l1]) ?_
      rw [wrap64_id (x := (m : Int) + 1) (by omega) (by omega), wrap64_id (x := ((m : Int) + 1) * 32) (by omega) (by omega)]
      have hb := impl_packed_ev (padL s.1) (by unfold padL; simp; omega) s.2.toNat (by omega)
      have hbl := bits32_length s.1 s.2.toNat (by omega) (by omega)
      rw [Int.toNat_of_nonneg q2] at hb
      have fin : Ev (fun k => if (z ++ wd).length < 140737488355328 then ((some (z ++ wd ++ [s.2 % 256] : List Int)).bind fun y278 => (if (cntD d m : Int) > 0 then ((impl_packed.f k (padL s.1) s.2).bind fun t281 => (if da.length + t281.length < 140737488355328 then (impl_blockOf.l0 k d (leastB d) y278 (da ++ t281) ((m : Int) + 1)) else (none))) else (impl_blockOf.l0 k d (leastB d) y278 da ((m : Int) + 1)))) else (none)) R := by
        refine Ev.pos (by simp; omega) (Ev.here rfl ?_)
        by_cases hz0 : cntD d m = 0
        · rw [if_pos hz0] at hr
          exact Ev.neg (by omega) hr
        · rw [if_neg hz0] at hr
          exact Ev.pos (by omega) (Ev.bind hb (Ev.pos (by omega) hr))
      by_cases hx : (m : Int) * 32 + (cntD d m : Int) < ((m : Int) + 1) * 32
      · exact Ev.pos hx (Ev.neg (by omega) fin)
      · exact Ev.neg hx fin)
    have e0 : (m : Int) * 32 + 0 = (m : Int) * 32 := by omega
    rw [← e0]
    exact inner) (fun s hs he => by
    obtain ⟨q1, q2⟩ := hs
    refine Ev.step (fun k => by rw [impl_blockOf.l0]) ?_
    refine Ev.neg (by omega) (Ev.pos (by simp; omega) (Ev.const ?_))
    rw [← hR, he])
  simpa using this
theorem block_both (d : List Int) (hd : AllI d) (h0 : 0 < d.length) (hl : d.length ≤ 128) : ∃ r : List Int, Ev (fun k => spec_l9Block.f k d) r ∧ Ev (fun k => impl_blockOf.f k d) r ∧ r.length ≤ 2000 := by
  have hb := leastB_I hd
  obtain ⟨z, z1, z2, z3, _⟩ := ZigPut_ev (leastB d) hb.1 hb.2
  refine ⟨_, spec_block_ev d hd h0 hl z z1 z3, impl_block_ev d hd h0 hl z z2 z3, ?_⟩
  have : ∀ m, DOk m ((List.range m).foldl (fun s m => dstep d (leastB d) m s) ([], [])) := by
    intro m
    induction m with
    | zero => exact ⟨rfl, by simp⟩
    | succ m ih => rw [List.range_succ, List.foldl_append]; exact dstep_ok ih
  obtain ⟨q1, q2⟩ := this 4
  rw [List.length_append, List.length_append]; omega
theorem delta_loop (D : List Int) (hD : AllI D) (hl : D.length ≤ 1048576) : ∀ (f : Nat) (at_ : Nat) (out : List Int), D.length ≤ at_ + 128 * f → out.length ≤ 2000 * at_ + 100000 → at_ ≤ 2000000 →
    ∃ r : List Int × Bool, Ev (fun k => spec_DeltaPack.l0 k out D (at_ : Int)) r ∧ Ev (fun k => impl_DeltaPack.l0 k out (D.drop at_)) r ∧ r.1.length ≤ out.length + 2000 * f := by
  intro f
  induction f with
  | zero =>
    intro at_ out h ho ha
    refine ⟨(out, true), Ev.step (fun k => by rw [spec_DeltaPack.l0]) (by exact Ev.neg (by omega) (Ev.now _)), Ev.step (fun k => by rw [impl_DeltaPack.l0]) (by exact Ev.neg (by simp; omega) (Ev.now _)), by simp⟩
  | succ f ih =>
    intro at_ out h ho ha
    by_cases hx : D.length ≤ at_
    · exact ⟨(out, true), Ev.step (fun k => by rw [spec_DeltaPack.l0]) (by exact Ev.neg (by omega) (Ev.now _)), Ev.step (fun k => by rw [impl_DeltaPack.l0]) (by exact Ev.neg (by simp; omega) (Ev.now _)), by simp⟩
    · have hdl : (D.drop at_).length = D.length - at_ := by simp
      generalize hn : min 128 (D.length - at_) = n
      have hn1 : 0 < n := by omega
      have hn2 : n ≤ 128 := by omega
      have hn3 : at_ + n ≤ D.length := by omega
      have hch : ((D.drop at_).take n).length = n := by rw [List.length_take]; omega
      obtain ⟨b, b1, b2, b3⟩ := block_both ((D.drop at_).take n) (fun x hx => hD x (List.mem_of_mem_drop (List.mem_of_mem_take hx))) (by omega) (by omega)
      obtain ⟨r, r1, r2, r3⟩ := ih (at_ + 128) (out ++ b) (by omega) (by simp; omega) (by omega)
      refine ⟨r, ?_, ?_, by simp at r3; omega⟩
      · refine Ev.step (fun k => by rw [spec_DeltaPack.l0]) ?_
        have hm : spec_l1Min.f (wrap64 ((at_ : Int) + 128)) (D.length : Int) = some ((at_ + n : Nat) : Int) := by
          rw [wrap64_id (by omega) (by omega)]
          unfold spec_l1Min.f
          split <;> (congr 1; omega)
        refine Ev.pos (by omega) (Ev.here hm (Ev.pos (by omega) (Ev.pos (by omega) (Ev.pos (by omega) ?_))))
        rw [wrap64_id (x := (at_ : Int) + 128) (by omega) (by omega), Int.toNat_natCast, Int.toNat_natCast]
        have e : (D.take (at_ + n)).drop at_ = (D.drop at_).take n := by rw [List.drop_take, Nat.add_sub_cancel_left]
        rw [e]
        refine Ev.bind b1 (Ev.pos (by omega) ?_)
        have e2 : ((at_ + 128 : Nat) : Int) = (at_ : Int) + 128 := by omega
        rw [e2] at r1
        exact r1
      · refine Ev.step (fun k => by rw [impl_DeltaPack.l0]) ?_
        have hm : mn 128 ((D.drop at_).length : Int) = (n : Int) := by
          unfold mn; split <;> omega
        rw [hm, Int.toNat_natCast]
        refine Ev.pos (by omega) (Ev.pos (by omega) (Ev.pos (by omega) (Ev.bind b2 (Ev.pos (by omega) ?_))))
        rw [List.drop_drop]
        by_cases h128 : n = 128
        · subst h128; exact r2
        · have e3 : D.drop (at_ + n) = D.drop (at_ + 128) := by
            rw [List.drop_eq_nil_of_le (by omega), List.drop_eq_nil_of_le (by omega)]
          rw [e3]; exact r2
theorem DeltaPack_both (l : List Int) (hI : AllI l) (hl : l.length ≤ 1048576) : ∃ r : List Int × Bool, Ev (fun k => spec_DeltaPack.f k l) r ∧ Ev (fun k => impl_DeltaPack.f k l) r ∧ r.1.length ≤ 1000000 := by
  unfold spec_DeltaPack.f impl_DeltaPack.f
  by_cases hb : (l.length : Int) > 2000
  · exact ⟨([], false), Ev.pos hb (Ev.now _), Ev.pos hb (Ev.now _), by simp⟩
  have hdl := diffs_length l
  have hdI : AllI (diffs l) := by
    intro x hx
    unfold diffs at hx
    obtain ⟨i, _, rfl⟩ := List.mem_map.1 hx
    exact ⟨wrap64_lo _, wrap64_hi _⟩
  have rest : ∀ x : Int, -9223372036854775808 ≤ x → x ≤ 9223372036854775807 → ∃ r : List Int × Bool, Ev (fun k => spec_DeltaPack.j0 k l x) r ∧ Ev (fun k => impl_DeltaPack.j0 k l x) r ∧ r.1.length ≤ 1000000 := by
    intro x x0 x1
    obtain ⟨a, a1, a2, a3, _⟩ := UvarPut_ev 128
    obtain ⟨b, b1, b2, b3, _⟩ := UvarPut_ev 4
    obtain ⟨c, c1, c2, c3, _⟩ := UvarPut_ev (l.length : Int)
    obtain ⟨z, z1, z2, z3, _⟩ := ZigPut_ev x x0 x1
    obtain ⟨r, r1, r2, r3⟩ := delta_loop (diffs l) hdI (by omega) 16 0 (a ++ b ++ c ++ z) (by omega) (by simp; omega) (by omega)
    refine ⟨r, ?_, ?_, by simp at r3; omega⟩
    · refine Ev.step (fun k => by rw [spec_DeltaPack.j0]) ?_
      exact Ev.bind a1 (Ev.bind b1 (Ev.pos (by omega) (Ev.here rfl (Ev.bind c1 (Ev.pos (by simp; omega) (Ev.here rfl (Ev.bind z1 (Ev.pos (by simp; omega) (Ev.bind (spec_Differences_ev l hl) r1)))))))))
    · refine Ev.step (fun k => by rw [impl_DeltaPack.j0]) ?_
      exact Ev.bind a2 (Ev.bind b2 (Ev.pos (by omega) (Ev.here rfl (Ev.bind c2 (Ev.pos (by simp; omega) (Ev.here rfl (Ev.bind z2 (Ev.pos (by simp; omega) (Ev.bind (impl_Differences_ev l hl) (by simpa using r2))))))))))
  by_cases h0 : (l.length : Int) > 0
  · obtain ⟨r, r1, r2, r3⟩ := rest (rd l 0) (rd_I hI 0).1 (rd_I hI 0).2
    exact ⟨r, Ev.neg hb (Ev.pos h0 (Ev.pos h0 r1)), Ev.neg hb (Ev.pos h0 (Ev.pos h0 r2)), r3⟩
  · obtain ⟨r, r1, r2, r3⟩ := rest 0 (by omega) (by omega)
    exact ⟨r, Ev.neg hb (Ev.neg h0 r1), Ev.neg hb (Ev.neg h0 r2), r3⟩
/-- The sizes of texts, and their bytes one behind the other. -/
def lens (T : List ByteArray) : List Int := T.map fun s => (s.size : Int)
def flatB (T : List ByteArray) : List Int := T.flatMap bytesOf
theorem lens_length (T : List ByteArray) : (lens T).length = T.length := by simp [lens]
theorem take_snoc_ {α : Type} (T : List α) (i : Nat) (h : i < T.length) : T.take (i + 1) = T.take i ++ [T[i]] := List.take_succ_eq_append_getElem h
theorem flatB_snoc (T : List ByteArray) (i : Nat) (h : i < T.length) : flatB (T.take (i + 1)) = flatB (T.take i) ++ bytesOf T[i] := by
  unfold flatB; rw [take_snoc_ T i h, List.flatMap_append]; congr 1; simp
theorem lens_snoc (T : List ByteArray) (i : Nat) (h : i < T.length) : lens (T.take (i + 1)) = lens (T.take i) ++ [(T[i].size : Int)] := by
  unfold lens; rw [take_snoc_ T i h, List.map_append]; rfl
theorem flatB_le (T : List ByteArray) (hs : ∀ s ∈ T, s.size ≤ 40) : (flatB T).length ≤ 40 * T.length := by
  induction T with
  | nil => simp [flatB]
  | cons s T ih =>
    have h1 := ih (fun x hx => hs x (List.mem_cons_of_mem _ hx))
    have h2 := hs s (List.mem_cons_self)
    have e : flatB (s :: T) = bytesOf s ++ flatB T := by simp [flatB]
    rw [e, List.length_append, bytesOf_length, List.length_cons]
    omega
theorem flatB_take_le (T : List ByteArray) (hs : ∀ s ∈ T, s.size ≤ 40) (i : Nat) (hi : i ≤ T.length) : (flatB (T.take i)).length ≤ 40 * i := by
  have := flatB_le (T.take i) (fun s h => hs s (List.mem_of_mem_take h))
  rw [List.length_take] at this
  have e : min i T.length = i := by omega
  rwa [e] at this
theorem texts_loop {γ : Type} (L : Nat → List Int → Int → Option γ) (T : List ByteArray) (hs : ∀ s ∈ T, s.size ≤ 40) (r : γ) (s0 : List Int)
    (hL : ∀ (i : Nat) (s : List Int) (h : i < T.length), s.length ≤ s0.length + 40 * i → T[i].size ≤ 40 → Ev (fun k => L k (s ++ bytesOf T[i]) (i + 1 : Nat)) r → Ev (fun k => L k s (i : Int)) r)
    (h : Ev (fun k => L k (s0 ++ flatB T) (T.length : Int)) r) : Ev (fun k => L k s0 0) r := by
  have key : ∀ (d i : Nat), i + d = T.length → Ev (fun k => L k (s0 ++ flatB (T.take i)) (i : Int)) r := by
    intro d
    induction d with
    | zero =>
      intro i hi
      obtain rfl : i = T.length := by omega
      rw [List.take_length]; exact h
    | succ d ih =>
      intro i hi
      have h1 := ih (i + 1) (by omega)
      rw [flatB_snoc T i (by omega), ← List.append_assoc] at h1
      exact hL i _ (by omega) (by rw [List.length_append]; have := flatB_take_le T hs i (by omega); omega) (hs _ (List.getElem_mem _)) h1
  have := key T.length 0 (by omega)
  simpa [flatB] using this
def lpR (d : List Int × Bool) (T : List ByteArray) : List Int × Bool := if d.2 = true then (d.1 ++ flatB T, true) else ([], false)
theorem l10Pack_ev (T : List ByteArray) (hn : T.length ≤ 2000) (hs : ∀ s ∈ T, s.size ≤ 40) (d : List Int × Bool) (hd : Ev (fun k => spec_DeltaPack.f k (lens T)) d) (hdl : d.1.length ≤ 1000000) : Ev (fun k => spec_l10Pack.f k T) (lpR d T) := by
  unfold spec_l10Pack.f
  refine append_loop (fun k s i => spec_l10Pack.l0 k T s i) (fun i => ((T.getD i ByteArray.empty).size : Int)) T.length _ (fun i s hi hl hr => ?_) ?_
  · refine Ev.step (fun k => by rw [spec_l10Pack.l0]) ?_
    refine Ev.pos (by omega) (Ev.pos (by omega) (Ev.pos (by omega) ?_))
    rw [wrap64_id (x := (i : Int) + 1) (by omega) (by omega)]
    simpa [rdOf] using hr
  · refine Ev.step (fun k => by rw [spec_l10Pack.l0]) ?_
    refine Ev.neg (by omega) ?_
    have e : (List.range T.length).map (fun i => ((T.getD i ByteArray.empty).size : Int)) = lens T := by
      apply List.ext_getElem?
      intro j
      by_cases hj : j < T.length
      · simp [lens, hj, List.getD]
      · simp [lens, hj]
    rw [e]
    refine Ev.bind hd ?_
    by_cases h2 : d.2 = true
    · rw [show lpR d T = (d.1 ++ flatB T, true) from if_pos h2]
      refine Ev.pos h2 ?_
      refine texts_loop (fun k s i => spec_l10Pack.l1 k T s i) T hs _ d.1 (fun i s hi hl hsz hr => ?_) ?_
      · refine Ev.step (fun k => by rw [spec_l10Pack.l1]) ?_
        have e2 : rdOf ByteArray.empty T (i : Int) = T[i] := rdOf_eq (by simpa using hi)
        refine Ev.pos (by omega) (Ev.pos (by omega) ?_)
        rw [e2]
        refine Ev.pos (by omega) ?_
        rw [wrap64_id (x := (i : Int) + 1) (by omega) (by omega)]
        simpa using hr
      · exact Ev.step (fun k => by rw [spec_l10Pack.l1]) (by exact Ev.neg (by omega) (Ev.now _))
    · rw [show lpR d T = ([], false) from if_neg h2]
      exact Ev.neg h2 (Ev.now _)
def textsOf (l : List S46) : List ByteArray := l.map fun v => v.f1
theorem textsOf_length (l : List S46) : (textsOf l).length = l.length := by simp [textsOf]
theorem textsOf_at (l : List S46) (i : Nat) (h : i < l.length) : (textsOf l)[i]'(by rw [textsOf_length]; exact h) = (rd_T46 l (i : Int)).f1 := by
  have e : rd_T46 l (i : Int) = l[i] := getD_eq (by simpa using h)
  rw [e]; simp [textsOf]
theorem vsOk_texts {l : List S46} (h : vsOk 6 l = true) : l.length ≤ 2000 ∧ ∀ s ∈ textsOf l, s.size ≤ 40 := by
  simp only [vsOk, Bool.and_eq_true, decide_eq_true_eq] at h
  refine ⟨by omega, fun s hs => ?_⟩
  obtain ⟨v, hv, rfl⟩ := List.mem_map.1 hs
  have h1 := List.all_eq_true.1 h.2 v hv
  simp [vOk] at h1
  omega
def lengthR (l : List S46) (d : List Int × Bool) : List Int × Bool := if vsOk 6 l = true then lpR d (textsOf l) else ([], false)
theorem impl_LengthPack_ev (l : List S46) (hl : l.length ≤ 1048576) (d : List Int × Bool) (hd : Ev (fun k => impl_DeltaPack.f k (lens (textsOf l))) d) (hdl : d.1.length ≤ 1000000) : Ev (fun k => impl_LengthPack.f k l) (lengthR l d) := by
  unfold impl_LengthPack.f lengthR
  refine Ev.bind (impl_valsOk_ev 6 l hl) ?_
  by_cases h : vsOk 6 l = true
  · rw [if_pos h]
    obtain ⟨h1, h2⟩ := vsOk_texts h
    refine Ev.pos h ?_
    have hT := textsOf_length l
    have key : ∀ (n i : Nat), i + n = l.length → Ev (fun k => impl_LengthPack.l0 k (lens ((textsOf l).take i)) (flatB ((textsOf l).take i)) l (l.length : Int) (i : Int)) (lpR d (textsOf l)) := by
      intro n
      induction n with
      | zero =>
        intro i hi
        obtain rfl : i = l.length := by omega
        refine Ev.step (fun k => by rw [impl_LengthPack.l0]) ?_
        have ht : (textsOf l).take l.length = textsOf l := by rw [← hT]; exact List.take_length
        rw [ht]
        refine Ev.neg (by omega) (Ev.bind hd ?_)
        have hf := flatB_le (textsOf l) h2
        by_cases h3 : d.2 = true
        · rw [show lpR d (textsOf l) = (d.1 ++ flatB (textsOf l), true) from if_pos h3]
          exact Ev.pos h3 (Ev.pos (by omega) (Ev.now _))
        · rw [show lpR d (textsOf l) = ([], false) from if_neg h3]
          exact Ev.neg h3 (Ev.now _)
      | succ n ih =>
        intro i hi
        have hlt : i < l.length := by omega
        have h3 := ih (i + 1) (by omega)
        have hat := textsOf_at l i hlt
        rw [flatB_snoc _ i (by omega), lens_snoc _ i (by omega), hat] at h3
        have hf := flatB_take_le (textsOf l) h2 i (by omega)
        have hz : (rd_T46 l (i : Int)).f1.size ≤ 40 := by rw [← hat]; exact h2 _ (List.getElem_mem _)
        have hn : (lens ((textsOf l).take i)).length = i := by rw [lens_length, List.length_take]; omega
        refine Ev.step (fun k => by rw [impl_LengthPack.l0]) ?_
        refine Ev.pos (by omega) (Ev.pos (by omega) (Ev.pos (by omega) (Ev.pos (by omega) (Ev.pos (by omega) ?_))))
        rw [wrap64_id (x := (i : Int) + 1) (by omega) (by omega)]
        simpa using h3
    have := key l.length 0 (by omega)
    simpa [lens, flatB] using this
  · rw [if_neg h]
    exact Ev.neg h (Ev.now _)
theorem l10Texts_ev (l : List S46) (hl : l.length ≤ 1048576) : Ev (fun k => spec_l10Texts.f k l) (textsOf l) := by
  unfold spec_l10Texts.f
  refine append_loop (fun k s i => spec_l10Texts.l0 k l s i) (fun i => (rd_T46 l (i : Int)).f1) l.length _ (fun i s hi hls hr => ?_) ?_
  · refine Ev.step (fun k => by rw [spec_l10Texts.l0]) ?_
    refine Ev.pos (by omega) (Ev.pos (by omega) (Ev.pos (by omega) ?_))
    rw [wrap64_id (x := (i : Int) + 1) (by omega) (by omega)]
    simpa using hr
  · refine Ev.step (fun k => by rw [spec_l10Texts.l0]) ?_
    refine Ev.neg (by omega) (Ev.const ?_)
    congr 1
    apply List.ext_getElem?
    intro j
    by_cases hj : j < l.length
    · have h2 := textsOf_at l j hj
      have h3 : (textsOf l)[j]? = some ((rd_T46 l (j : Int)).f1) := by rw [List.getElem?_eq_getElem (by rw [textsOf_length]; exact hj), h2]
      rw [h3]
      simp [hj]
    · have h3 : (textsOf l)[j]? = none := List.getElem?_eq_none (by rw [textsOf_length]; omega)
      rw [h3]
      simp [hj]
theorem spec_LengthPack_ev (l : List S46) (hl : l.length ≤ 1048576) (d : List Int × Bool) (hd : Ev (fun k => spec_DeltaPack.f k (lens (textsOf l))) d) (hdl : d.1.length ≤ 1000000) : Ev (fun k => spec_LengthPack.f k l) (lengthR l d) := by
  unfold spec_LengthPack.f lengthR
  refine Ev.bind (spec_l6Vals_ev 6 l hl) ?_
  by_cases h : vsOk 6 l = true
  · rw [if_pos h]
    obtain ⟨h1, h2⟩ := vsOk_texts h
    exact Ev.pos h (Ev.bind (l10Texts_ev l hl) (Ev.bind (l10Pack_ev (textsOf l) (by rw [textsOf_length]; exact h1) h2 d hd hdl) (Ev.now _)))
  · rw [if_neg h]
    exact Ev.neg h (Ev.now _)
theorem LengthPack_both (l : List S46) (hl : l.length ≤ 1048576) : ∃ r : List Int × Bool, Ev (fun k => spec_LengthPack.f k l) r ∧ Ev (fun k => impl_LengthPack.f k l) r ∧ r.1.length ≤ 2000000 := by
  have hI : AllI (lens (textsOf l)) ∨ vsOk 6 l = false := by
    by_cases h : vsOk 6 l = true
    · left
      obtain ⟨h1, h2⟩ := vsOk_texts h
      intro x hx
      obtain ⟨s, hs, rfl⟩ := List.mem_map.1 hx
      have := h2 s hs
      exact ⟨by omega, by omega⟩
    · right; simpa using h
  rcases hI with hI | hI
  · obtain ⟨d, e1, e2, e3⟩ := DeltaPack_both (lens (textsOf l)) hI (by rw [lens_length, textsOf_length]; exact hl)
    refine ⟨lengthR l d, spec_LengthPack_ev l hl d e1 e3, impl_LengthPack_ev l hl d e2 e3, ?_⟩
    unfold lengthR lpR
    by_cases h : vsOk 6 l = true
    · rw [if_pos h]
      obtain ⟨h1, h2⟩ := vsOk_texts h
      have hf := flatB_le (textsOf l) h2
      have hT := textsOf_length l
      split
      · simp only [List.length_append]; omega
      · simp
    · rw [if_neg h]; simp
  · refine ⟨([], false), ?_, ?_, by simp⟩
    · unfold spec_LengthPack.f
      exact Ev.bind (spec_l6Vals_ev 6 l hl) (Ev.neg (by rw [hI]; decide) (Ev.now _))
    · unfold impl_LengthPack.f
      exact Ev.bind (impl_valsOk_ev 6 l hl) (Ev.neg (by rw [hI]; decide) (Ev.now _))
/-- How many bytes two texts have in common at their begin. -/
def comF (a b : ByteArray) : Nat → Nat → Nat
  | 0, n => n
  | f + 1, n => if n < a.size ∧ n < b.size ∧ bt a (n : Int) = bt b (n : Int) then comF a b f (n + 1) else n
theorem comF_le (a b : ByteArray) : ∀ f n, n ≤ b.size → comF a b f n ≤ b.size
  | 0, n, h => h
  | f + 1, n, h => by
    unfold comF
    split
    · exact comF_le a b f (n + 1) (by omega)
    · exact h
def com (a b : ByteArray) : Nat := comF a b b.size 0
theorem com_le (a b : ByteArray) : com a b ≤ b.size := comF_le a b _ _ (Nat.zero_le _)
theorem impl_Common_ev (a b : ByteArray) (hb : b.size ≤ 1048576) : Ev (fun k => impl_Common.f k a b) (com a b : Int) := by
  unfold impl_Common.f com
  have key : ∀ f n : Nat, n ≤ b.size → b.size - n ≤ f → Ev (fun k => impl_Common.l0 k a b (n : Int)) (comF a b f n : Int) := by
    intro f
    induction f with
    | zero =>
      intro n h1 h2
      refine Ev.step (fun k => by rw [impl_Common.l0]) ?_
      by_cases ha : (n : Int) < (a.size : Int)
      · exact Ev.pos ha (Ev.neg (by omega) (Ev.now _))
      · exact Ev.neg ha (Ev.now _)
    | succ f ih =>
      intro n h1 h2
      refine Ev.step (fun k => by rw [impl_Common.l0]) ?_
      unfold comF
      by_cases ha : n < a.size
      · refine Ev.pos (by omega) ?_
        by_cases hb' : n < b.size
        · refine Ev.pos (by omega) (Ev.pos (by omega) ?_)
          by_cases he : bt a (n : Int) = bt b (n : Int)
          · rw [if_pos ⟨ha, hb', he⟩]
            refine Ev.pos he ?_
            rw [wrap64_id (x := (n : Int) + 1) (by omega) (by omega)]
            simpa using ih (n + 1) (by omega) (by omega)
          · rw [if_neg (fun h => he h.2.2)]
            exact Ev.neg he (Ev.now _)
        · rw [if_neg (fun h => hb' h.2.1)]
          exact Ev.neg (by omega) (Ev.now _)
      · rw [if_neg (fun h => ha h.1)]
        exact Ev.neg (by omega) (Ev.now _)
  simpa using key b.size 0 (by omega) (by omega)
theorem common_same : ∀ (k : Nat) (a b : ByteArray) (i : Int), spec_Common.l0 k a b i = impl_Common.l0 k a b i
  | 0, _, _, _ => by rw [spec_Common.l0, impl_Common.l0]
  | k + 1, a, b, i => by rw [spec_Common.l0, impl_Common.l0]; simp only [common_same k]
theorem spec_Common_ev (a b : ByteArray) (hb : b.size ≤ 1048576) : Ev (fun k => spec_Common.f k a b) (com a b : Int) :=
  Ev.congr (fun k => by unfold spec_Common.f impl_Common.f; exact common_same k _ _ _) (impl_Common_ev a b hb)
def FSt : Type := List Int × List ByteArray × ByteArray
def fstep (l : List S46) (i : Nat) (s : FSt) : FSt :=
  (s.1 ++ [(com s.2.2 (rd_T46 l (i : Int)).f1 : Int)], s.2.1 ++ [((rd_T46 l (i : Int)).f1).extract (com s.2.2 (rd_T46 l (i : Int)).f1) ((rd_T46 l (i : Int)).f1).size], (rd_T46 l (i : Int)).f1)
def fz : FSt := (([] : List Int), ([] : List ByteArray), (⟨#[]⟩ : ByteArray))
def fAll (l : List S46) : FSt := (List.range l.length).foldl (fun s i => fstep l i s) fz
def FOk (i : Nat) (s : FSt) : Prop := s.1.length = i ∧ s.2.1.length = i ∧ (∀ x ∈ s.1, (0 : Int) ≤ x ∧ x ≤ 40) ∧ ∀ t ∈ s.2.1, t.size ≤ 40
def mkV (t : ByteArray) : S46 := ⟨0, t⟩
theorem rd_size (l : List S46) (h : ∀ s ∈ textsOf l, s.size ≤ 40) (i : Nat) (hi : i < l.length) : (rd_T46 l (i : Int)).f1.size ≤ 40 := by
  rw [← textsOf_at l i hi]; exact h _ (List.getElem_mem _)
theorem fstep_ok (l : List S46) (h : ∀ s ∈ textsOf l, s.size ≤ 40) (i : Nat) (s : FSt) (hi : i < l.length) (hs : FOk i s) : FOk (i + 1) (fstep l i s) := by
  have hz := rd_size l h i hi
  have hc := com_le s.2.2 (rd_T46 l (i : Int)).f1
  refine ⟨by simp [fstep, hs.1], by simp [fstep, hs.2.1], fun x hx => ?_, fun t ht => ?_⟩
  · simp only [fstep, List.mem_append, List.mem_singleton] at hx
    rcases hx with hx | rfl
    · exact hs.2.2.1 x hx
    · omega
  · simp only [fstep, List.mem_append, List.mem_singleton] at ht
    rcases ht with ht | rfl
    · exact hs.2.2.2 t ht
    · rw [ByteArray.size_extract]; omega
theorem fz_ok : FOk 0 fz := ⟨rfl, rfl, fun x hx => absurd hx (by simp [fz]), fun x hx => absurd hx (by simp [fz])⟩
theorem fAll_ok (l : List S46) (h : ∀ s ∈ textsOf l, s.size ≤ 40) : FOk l.length (fAll l) := by
  unfold fAll
  have : ∀ m, m ≤ l.length → FOk m ((List.range m).foldl (fun s i => fstep l i s) fz) := by
    intro m
    induction m with
    | zero => intro _; exact fz_ok
    | succ m ih => intro hm; rw [List.range_succ, List.foldl_append]; exact fstep_ok l h m _ (by omega) (ih (by omega))
  exact this _ (Nat.le_refl _)
theorem mkV_texts (T : List ByteArray) : textsOf (T.map mkV) = T := by
  unfold textsOf
  rw [List.map_map]
  have : ((fun v => v.f1) ∘ mkV : ByteArray → ByteArray) = id := rfl
  rw [this, List.map_id]
theorem mkV_ok (T : List ByteArray) (hn : T.length ≤ 2000) (h : ∀ t ∈ T, t.size ≤ 40) : vsOk 6 (T.map mkV) = true := by
  have h1 : (T.map mkV).all (vOk 6) = true := by
    rw [List.all_eq_true]
    intro v hv
    obtain ⟨t, ht, rfl⟩ := List.mem_map.1 hv
    have := h t ht
    simp [vOk, mkV]; exact decide_eq_true (by omega)
  simp only [vsOk, h1, List.length_map]
  rw [decide_eq_true (by omega)]
  rfl
def frontR (d e : List Int × Bool) : List Int × Bool := if d.2 = true then (if e.2 = true then (d.1 ++ e.1, true) else ([], false)) else ([], false)
theorem FrontPack_both (l : List S46) (hl : l.length ≤ 1048576) : ∃ r : List Int × Bool, Ev (fun k => spec_FrontPack.f k l) r ∧ Ev (fun k => impl_FrontPack.f k l) r ∧ r.1.length ≤ 4000000 := by
  unfold spec_FrontPack.f impl_FrontPack.f
  cases hv : vsOk 6 l with
  | false =>
    refine ⟨([], false), ?_, ?_, by simp⟩
    · exact Ev.bind (spec_l6Vals_ev 6 l hl) (Ev.neg (by rw [hv]; decide) (Ev.now _))
    · exact Ev.bind (impl_valsOk_ev 6 l hl) (Ev.neg (by rw [hv]; decide) (Ev.now _))
  | true =>
    obtain ⟨hn, hz⟩ := vsOk_texts hv
    have hF := fAll_ok l hz
    have hI1 : AllI (fAll l).1 := fun x hx => by have := hF.2.2.1 x hx; omega
    have hI2 : AllI (lens (fAll l).2.1) := fun x hx => by
      obtain ⟨t, ht, rfl⟩ := List.mem_map.1 hx
      have := hF.2.2.2 t ht
      omega
    have h21 := hF.2.1
    obtain ⟨d, d1, d2, d3⟩ := DeltaPack_both (fAll l).1 hI1 (by rw [hF.1]; exact hl)
    obtain ⟨e0, e1, e2, e3⟩ := DeltaPack_both (lens (fAll l).2.1) hI2 (by rw [lens_length, h21]; exact hl)
    have f1 := l10Pack_ev (fAll l).2.1 (by omega) hF.2.2.2 e0 e1 e3
    have f2 := impl_LengthPack_ev ((fAll l).2.1.map mkV) (by rw [List.length_map]; omega) e0 (by rw [mkV_texts]; exact e2) e3
    have fe : lengthR ((fAll l).2.1.map mkV) e0 = lpR e0 (fAll l).2.1 := by
      unfold lengthR
      rw [if_pos (mkV_ok _ (by omega) hF.2.2.2), mkV_texts]
    rw [fe] at f2
    have hfl : (lpR e0 (fAll l).2.1).1.length ≤ 1080000 := by
      have := flatB_le (fAll l).2.1 hF.2.2.2
      unfold lpR
      split
      · simp only [List.length_append]; omega
      · simp
    generalize hfe : lpR e0 (fAll l).2.1 = e at f1 f2 hfl
    have hrl : (frontR d e).1.length ≤ 4000000 := by
      unfold frontR
      split
      · split
        · simp only [List.length_append]; omega
        · simp
      · simp
    have ite2 : ∀ (x : List Int × Bool), x = frontR d e → Ev (fun _ => if d.2 = true then (if e.2 = true then (if d.1.length + e.1.length < 140737488355328 then (some ((d.1 ++ e.1), true)) else (none)) else (some (([] : List Int), false))) else (some (([] : List Int), false))) x := by
      intro x hx
      refine Ev.const ?_
      rw [hx]
      unfold frontR
      by_cases h1 : d.2 = true
      · by_cases h2 : e.2 = true
        · simp only [if_pos h1, if_pos h2]; rw [if_pos (by omega)]
        · simp only [if_pos h1, if_neg h2]
      · simp only [if_neg h1]
    refine ⟨frontR d e, ?_, ?_, hrl⟩
    · refine Ev.bind (spec_l6Vals_ev 6 l hl) (Ev.pos hv ?_)
      refine loop_inv (fun k (s : FSt) i => spec_FrontPack.l0 k l s.1 s.2.1 s.2.2 i) (fun i s => fstep l i s) l.length _ FOk fz ⟨rfl, rfl, fun x hx => absurd hx (by simp [fz]), fun x hx => absurd hx (by simp [fz])⟩ (fun i s hi hs => fstep_ok l hz i s hi hs) (fun i s hi hs hr => ?_) (fun s hs he => ?_)
      · have hsz := rd_size l hz i hi
        have hc := com_le s.2.2 (rd_T46 l (i : Int)).f1
        have hs1 := hs.1
        have hs2 := hs.2.1
        refine Ev.step (fun k => by rw [spec_FrontPack.l0]) ?_
        refine Ev.pos (by omega) (Ev.pos (by omega) (Ev.bind (spec_Common_ev _ _ (by omega)) (Ev.pos (by omega) (Ev.pos (by omega) (Ev.pos (by omega) (Ev.pos (by omega) ?_))))))
        rw [wrap64_id (x := (i : Int) + 1) (by omega) (by omega)]
        simpa [fstep] using hr
      · have he2 : s = fAll l := he
        subst he2
        refine Ev.step (fun k => by rw [spec_FrontPack.l0]) ?_
        exact Ev.neg (by omega) (Ev.bind d1 (Ev.bind f1 (ite2 _ rfl)))
    · refine Ev.bind (impl_valsOk_ev 6 l hl) (Ev.pos hv ?_)
      refine loop_inv (fun k (s : FSt) i => impl_FrontPack.l0 k s.1 (s.2.1.map mkV) s.2.2 l (l.length : Int) i) (fun i s => fstep l i s) l.length _ FOk fz ⟨rfl, rfl, fun x hx => absurd hx (by simp [fz]), fun x hx => absurd hx (by simp [fz])⟩ (fun i s hi hs => fstep_ok l hz i s hi hs) (fun i s hi hs hr => ?_) (fun s hs he => ?_)
      · have hsz := rd_size l hz i hi
        have hc := com_le s.2.2 (rd_T46 l (i : Int)).f1
        have hs1 := hs.1
        have hs2 := hs.2.1
        refine Ev.step (fun k => by rw [impl_FrontPack.l0]) ?_
        refine Ev.pos (by omega) (Ev.pos (by omega) (Ev.pos (by omega) (Ev.bind (impl_Common_ev _ _ (by omega)) (Ev.pos (by omega) (Ev.pos (by omega) (Ev.pos (by omega) (Ev.pos (by rw [List.length_map]; omega) ?_)))))))
        rw [wrap64_id (x := (i : Int) + 1) (by omega) (by omega)]
        simpa [fstep, mkV] using hr
      · have he2 : s = fAll l := he
        subst he2
        refine Ev.step (fun k => by rw [impl_FrontPack.l0]) ?_
        exact Ev.neg (by omega) (Ev.bind d2 (Ev.bind f2 (ite2 _ rfl)))
/-- Byte number k of value number i. -/
def sb (l : List S46) (k i : Nat) : Int := (shr .i64 ((rd_T46 l (i : Int)).f0) (wrap64 (8 * (k : Int)))) % 256
def splitBytes (l : List S46) (w : Nat) : List Int := (List.range (w * l.length)).map fun (j : Nat) => sb l (j / l.length) (j % l.length)
theorem splitBytes_length (l : List S46) (w : Nat) : (splitBytes l w).length = w * l.length := by simp [splitBytes]
theorem impl_split_row (l : List S46) (hl : l.length ≤ 2000) (w k : Nat) (hk : k < w) (hw : w ≤ 8) (r)
    (h : Ev (fun n => impl_SplitPack.l0 n l (splitBytes l (k + 1)) (w : Int) (k + 1 : Nat)) r) : Ev (fun n => impl_SplitPack.l1 n l (splitBytes l k) (k : Int) (w : Int) (k : Int) l (l.length : Int) 0) r := by
  have e : splitBytes l (k + 1) = splitBytes l k ++ (List.range l.length).map (fun (i : Nat) => sb l k i) := by
    unfold splitBytes
    rw [Nat.add_mul, Nat.one_mul, List.range_add, List.map_append, List.map_map]
    congr 1
    apply List.map_congr_left
    intro i hi
    have hlt := List.mem_range.1 hi
    simp only [Function.comp]
    rw [Nat.add_comm, Nat.add_mul_div_right _ _ (by omega), Nat.div_eq_of_lt hlt, Nat.add_mul_mod_self_right, Nat.mod_eq_of_lt hlt, Nat.zero_add]
  have hb := splitBytes_length l k
  have hkl : k * l.length ≤ 8 * 2000 := Nat.mul_le_mul (by omega) hl
  refine append_from (fun n out i => impl_SplitPack.l1 n l out (k : Int) (w : Int) (k : Int) l (l.length : Int) i) (fun (i : Nat) => sb l k i) l.length r (splitBytes l k) (fun i s hi hs hr => ?_) ?_
  · refine Ev.step (fun k => by rw [impl_SplitPack.l1]) ?_
    refine Ev.pos (by omega) (Ev.pos (by omega) (Ev.pos (by omega) (Ev.pos (by rw [wrap64_id (by omega) (by omega)]; omega) (Ev.pos (by omega) ?_))))
    rw [wrap64_id (x := (i : Int) + 1) (by omega) (by omega)]
    simpa [sb] using hr
  · refine Ev.step (fun k => by rw [impl_SplitPack.l1]) ?_
    refine Ev.neg (by omega) ?_
    rw [wrap64_id (x := (k : Int) + 1) (by omega) (by omega), ← e]
    simpa using h
theorem impl_split_all (l : List S46) (hl : l.length ≤ 2000) (w : Nat) (hw : w ≤ 8) : Ev (fun n => impl_SplitPack.l0 n l [] (w : Int) 0) (splitBytes l w, true) := by
  have key : ∀ (d k : Nat), k + d = w → Ev (fun n => impl_SplitPack.l0 n l (splitBytes l k) (w : Int) (k : Int)) (splitBytes l w, true) := by
    intro d
    induction d with
    | zero =>
      intro k hk
      obtain rfl : k = w := by omega
      exact Ev.step (fun k => by rw [impl_SplitPack.l0]) (by exact Ev.neg (by omega) (Ev.now _))
    | succ d ih =>
      intro k hk
      exact Ev.step (fun k => by rw [impl_SplitPack.l0]) (by exact Ev.pos (by omega) (impl_split_row l hl w k (by omega) hw _ (ih (k + 1) (by omega))))
  have := key w 0 (by omega)
  simpa [splitBytes] using this
theorem spec_split_all (l : List S46) (hl : l.length ≤ 2000) (w : Nat) (hw : w ≤ 8) : Ev (fun n => spec_SplitPack.l0 n l (w : Int) (l.length : Int) (List.replicate (w * l.length) 0) 0) (splitBytes l w, true) := by
  have hwl : w * l.length ≤ 8 * 2000 := Nat.mul_le_mul hw hl
  refine loop_inv (fun n out i => spec_SplitPack.l0 n l (w : Int) (l.length : Int) out i) (fun i out => (List.range w).foldl (fun (out : List Int) (k : Nat) => out.set (k * l.length + i) (sb l k i)) out) l.length _
    (fun i out => out.length = w * l.length ∧ ∀ k i', k < w → i' < i → out[k * l.length + i']? = some (sb l k i')) _ ⟨by simp, fun k i' _ h => absurd h (by omega)⟩ (fun i out hi ⟨ho, hp⟩ => ?_) (fun i out hi ⟨ho, hp⟩ hr => ?_) (fun out ⟨ho, hp⟩ _ => ?_)
  · have inner : ∀ m, m ≤ w → ((List.range m).foldl (fun (out : List Int) (k : Nat) => out.set (k * l.length + i) (sb l k i)) out).length = w * l.length ∧ ∀ k i', k < w → i' ≤ i → (i' < i ∨ k < m) → ((List.range m).foldl (fun (out : List Int) (k : Nat) => out.set (k * l.length + i) (sb l k i)) out)[k * l.length + i']? = some (sb l k i') := by
      intro m
      induction m with
      | zero => intro _; exact ⟨ho, fun k i' hk _ h => hp k i' hk (by omega)⟩
      | succ m ih =>
        intro hm
        obtain ⟨h1, h2⟩ := ih (by omega)
        rw [List.range_succ, List.foldl_append]
        simp only [List.foldl_cons, List.foldl_nil]
        refine ⟨by simpa using h1, fun k i' hk hle h => ?_⟩
        have hmw : (m + 1) * l.length ≤ w * l.length := Nat.mul_le_mul_right _ (by omega)
        rw [Nat.add_mul, Nat.one_mul] at hmw
        by_cases e : k = m ∧ i' = i
        · obtain ⟨rfl, rfl⟩ := e
          rw [List.getElem?_set_self (by omega)]
        · rw [List.getElem?_set_ne ?_]
          · exact h2 k i' hk hle (by omega)
          · intro he
            apply e
            rcases Nat.lt_trichotomy k m with hlt | heq | hgt
            · have : (k + 1) * l.length ≤ m * l.length := Nat.mul_le_mul_right _ hlt
              rw [Nat.add_mul, Nat.one_mul] at this; omega
            · subst heq; omega
            · have : (m + 1) * l.length ≤ k * l.length := Nat.mul_le_mul_right _ hgt
              rw [Nat.add_mul, Nat.one_mul] at this; omega
    obtain ⟨h1, h2⟩ := inner w (Nat.le_refl _)
    exact ⟨h1, fun k i' hk hi' => h2 k i' hk (by omega) (.inr hk)⟩
  · refine Ev.step (fun k => by rw [spec_SplitPack.l0]) ?_
    refine Ev.pos (by omega) ?_
    refine loop_inv (fun n out k => spec_SplitPack.l1 n l (w : Int) (l.length : Int) out (i : Int) k) (fun k out => out.set (k * l.length + i) (sb l k i)) w _ (fun _ out => out.length = w * l.length) out ho (fun k s _ h => by simpa using h) (fun k s hk hs hr2 => ?_) (fun s hs he => ?_)
    · have hmw : (k + 1) * l.length ≤ w * l.length := Nat.mul_le_mul_right _ (by omega)
      rw [Nat.add_mul, Nat.one_mul] at hmw
      have hc : ((k : Int) * (l.length : Int)) = ((k * l.length : Nat) : Int) := by push_cast; rfl
      refine Ev.step (fun k => by rw [spec_SplitPack.l1]) ?_
      rw [wrap64_id (x := (k : Int) * (l.length : Int)) (by omega) (by omega), hc, wrap64_id (x := ((k * l.length : Nat) : Int) + i) (by omega) (by omega)]
      refine Ev.pos (by omega) (Ev.pos (by omega) (Ev.pos (by omega) (Ev.pos (by rw [wrap64_id (by omega) (by omega)]; omega) (Ev.pos (by omega) (Ev.pos (by omega) ?_)))))
      rw [wrap64_id (x := (k : Int) + 1) (by omega) (by omega)]
      have e : (((k * l.length : Nat) : Int) + (i : Int)).toNat = k * l.length + i := by omega
      rw [e]
      simpa [sb] using hr2
    · refine Ev.step (fun k => by rw [spec_SplitPack.l1]) ?_
      refine Ev.neg (by omega) ?_
      rw [wrap64_id (x := (i : Int) + 1) (by omega) (by omega), he]
      simpa using hr
  · refine Ev.step (fun k => by rw [spec_SplitPack.l0]) ?_
    refine Ev.neg (by omega) (Ev.const ?_)
    congr 2
    apply List.ext_getElem?
    intro j
    by_cases hj : j < w * l.length
    · have hpos : 0 < l.length := by
        rcases Nat.eq_zero_or_pos l.length with h | h
        · rw [h] at hj; omega
        · exact h
      have h1 := hp (j / l.length) (j % l.length) (Nat.div_lt_of_lt_mul (by rw [Nat.mul_comm]; exact hj)) (Nat.mod_lt _ hpos)
      rw [Nat.mul_comm, Nat.div_add_mod] at h1
      rw [h1]
      unfold splitBytes
      rw [List.getElem?_map, List.getElem?_range hj]
      rfl
    · rw [List.getElem?_eq_none (by omega), List.getElem?_eq_none (by rw [splitBytes_length]; omega)]
def splitR (t : Int) (l : List S46) : List Int × Bool := if wideB t ≠ 0 ∧ vsOk t l = true then (splitBytes l (wideB t).toNat, true) else ([], false)
theorem wideB_range (t : Int) : wideB t = 0 ∨ wideB t = 4 ∨ wideB t = 8 := by
  unfold wideB; split
  · simp
  · split
    · simp
    · split <;> simp
theorem vsOk_length {t : Int} {l : List S46} (h : vsOk t l = true) : l.length ≤ 2000 := by
  simp [vsOk] at h; omega
theorem spec_SplitPack_ev (t : Int) (l : List S46) (hl : l.length ≤ 1048576) : Ev (fun k => spec_SplitPack.f k t l) (splitR t l) := by
  unfold spec_SplitPack.f splitR
  refine Ev.here (splitWide_some t) ?_
  by_cases h0 : wideB t = 0
  · refine Ev.pos h0 ?_
    rw [if_neg (by simp [h0])]
    exact Ev.step (fun k => by rw [spec_SplitPack.j0]) (by exact Ev.pos rfl (Ev.now _))
  refine Ev.neg h0 (Ev.bind (spec_l6Vals_ev t l hl) ?_)
  cases hv : vsOk t l with
  | false =>
    rw [if_neg (by simp)]
    exact Ev.step (fun k => by rw [spec_SplitPack.j0]) (by exact Ev.pos rfl (Ev.now _))
  | true =>
    rw [if_pos ⟨h0, rfl⟩]
    have hl2 := vsOk_length hv
    obtain ⟨w, hw, hw8⟩ : ∃ w : Nat, wideB t = (w : Int) ∧ w ≤ 8 := ⟨(wideB t).toNat, by have := wideB_range t; omega, by have := wideB_range t; omega⟩
    have hwl : w * l.length ≤ 8 * 2000 := Nat.mul_le_mul hw8 hl2
    have hc : ((w : Int) * (l.length : Int)) = ((w * l.length : Nat) : Int) := by push_cast; rfl
    rw [hw]
    refine Ev.step (fun k => by rw [spec_SplitPack.j0]) ?_
    rw [hc, wrap64_id (x := ((w * l.length : Nat) : Int)) (by omega) (by omega)]
    refine Ev.neg (by decide) (Ev.pos (by omega) (Ev.pos (by omega) ?_))
    rw [Int.toNat_natCast]; exact spec_split_all l hl2 w hw8
theorem impl_SplitPack_ev (t : Int) (l : List S46) (hl : l.length ≤ 1048576) : Ev (fun k => impl_SplitPack.f k t l) (splitR t l) := by
  unfold impl_SplitPack.f impl_SplitWide.f splitR
  rw [wideOf_some]
  refine Ev.here rfl ?_
  by_cases h0 : wideB t = 0
  · refine Ev.pos h0 ?_
    rw [if_neg (by simp [h0])]
    exact Ev.step (fun k => by rw [impl_SplitPack.j0]) (by exact Ev.pos rfl (Ev.now _))
  refine Ev.neg h0 (Ev.bind (impl_valsOk_ev t l hl) ?_)
  cases hv : vsOk t l with
  | false =>
    rw [if_neg (by simp)]
    exact Ev.step (fun k => by rw [impl_SplitPack.j0]) (by exact Ev.pos rfl (Ev.now _))
  | true =>
    rw [if_pos ⟨h0, rfl⟩]
    have hl2 := vsOk_length hv
    obtain ⟨w, hw, hw8⟩ : ∃ w : Nat, wideB t = (w : Int) ∧ w ≤ 8 := ⟨(wideB t).toNat, by have := wideB_range t; omega, by have := wideB_range t; omega⟩
    rw [hw]
    refine Ev.step (fun k => by rw [impl_SplitPack.j0]) ?_
    refine Ev.neg (by decide) ?_
    simpa using impl_split_all l hl2 w hw8
theorem splitR_length (t : Int) (l : List S46) : (splitR t l).1.length ≤ 16000 := by
  unfold splitR
  split
  · rename_i h
    have hl2 := vsOk_length h.2
    rw [splitBytes_length]
    have := wideB_range t
    calc (wideB t).toNat * l.length ≤ 8 * 2000 := Nat.mul_le_mul (by omega) hl2
      _ = 16000 := rfl
  · simp
/-- How many numbers alike follow from a place on. -/
def alkF (l : List Int) (a : Nat) : Nat → Nat → Nat
  | 0, n => n
  | f + 1, n => if a + n < l.length ∧ rd l ((a + n : Nat) : Int) = rd l (a : Int) then alkF l a f (n + 1) else n
theorem alkF_le (l : List Int) (a : Nat) : ∀ f n, a + n ≤ l.length → n ≤ alkF l a f n ∧ a + alkF l a f n ≤ l.length
  | 0, n, h => ⟨Nat.le_refl _, h⟩
  | f + 1, n, h => by
    unfold alkF
    split
    · rename_i hc
      have := alkF_le l a f (n + 1) (by omega)
      omega
    · exact ⟨Nat.le_refl _, h⟩
def alk (l : List Int) (a : Nat) : Nat := alkF l a (l.length - a) 0
theorem alk_le (l : List Int) (a : Nat) (h : a < l.length) : 1 ≤ alk l a ∧ a + alk l a ≤ l.length := by
  unfold alk
  obtain ⟨f, hf⟩ : ∃ f, l.length - a = f + 1 := ⟨l.length - a - 1, by omega⟩
  rw [hf]
  unfold alkF
  rw [if_pos ⟨by omega, by simp⟩]
  have := alkF_le l a f 1 (by omega)
  omega
theorem impl_alike_ev (l : List Int) (hl : l.length ≤ 1048576) (a : Nat) (h : a < l.length) : Ev (fun k => impl_alikeFrom.f k l (a : Int)) (alk l a : Int) := by
  unfold impl_alikeFrom.f alk
  have key : ∀ f n : Nat, a + n ≤ l.length → l.length - (a + n) ≤ f → Ev (fun k => impl_alikeFrom.l0 k l (a : Int) (n : Int)) (alkF l a f n : Int) := by
    intro f
    induction f with
    | zero =>
      intro n h1 h2
      refine Ev.step (fun k => by rw [impl_alikeFrom.l0]) ?_
      rw [wrap64_id (x := (a : Int) + n) (by omega) (by omega)]
      exact Ev.neg (by omega) (Ev.now _)
    | succ f ih =>
      intro n h1 h2
      refine Ev.step (fun k => by rw [impl_alikeFrom.l0]) ?_
      rw [wrap64_id (x := (a : Int) + n) (by omega) (by omega)]
      unfold alkF
      have e : ((a + n : Nat) : Int) = (a : Int) + n := by omega
      by_cases hlt : a + n < l.length
      · by_cases he : rd l ((a : Int) + n) = rd l (a : Int)
        · rw [if_pos ⟨hlt, by rw [e]; exact he⟩]
          refine Ev.pos (by omega) (Ev.pos (by omega) (Ev.pos (by omega) (Ev.pos (by omega) (Ev.pos he ?_))))
          rw [wrap64_id (x := (n : Int) + 1) (by omega) (by omega)]
          simpa using ih (n + 1) (by omega) (by omega)
        · rw [if_neg (by rw [e]; exact fun h => he h.2)]
          exact Ev.pos (by omega) (Ev.pos (by omega) (Ev.pos (by omega) (Ev.pos (by omega) (Ev.neg he (Ev.now _)))))
      · rw [if_neg (fun h => hlt h.1)]
        exact Ev.neg (by omega) (Ev.now _)
  simpa using key (l.length - a) 0 (by omega) (by omega)
theorem alike_same : ∀ (k : Nat) (l : List Int) (a i : Int), spec_l8Alike.l0 k l a i = impl_alikeFrom.l0 k l a i
  | 0, _, _, _ => by rw [spec_l8Alike.l0, impl_alikeFrom.l0]
  | k + 1, l, a, i => by rw [spec_l8Alike.l0, impl_alikeFrom.l0]; simp only [alike_same k]
theorem spec_alike_ev (l : List Int) (hl : l.length ≤ 1048576) (a : Nat) (h : a < l.length) : Ev (fun k => spec_l8Alike.f k l (a : Int)) (alk l a : Int) :=
  Ev.congr (fun k => by unfold spec_l8Alike.f impl_alikeFrom.f; exact alike_same k _ _ _) (impl_alike_ev l hl a h)
/-- How many groups are taken from a place on. -/
def grpF (l : List Int) (a : Nat) : Nat → Nat → Nat
  | 0, g => g
  | f + 1, g => if a + 8 * g < l.length ∧ alk l (a + 8 * g) < 8 then grpF l a f (g + 1) else g
theorem grpF_le (l : List Int) (a : Nat) : ∀ f g, 1 ≤ g → a + 8 * (g - 1) < l.length → 1 ≤ grpF l a f g ∧ a + 8 * (grpF l a f g - 1) < l.length
  | 0, g, h, h2 => ⟨h, h2⟩
  | f + 1, g, h, h2 => by
    unfold grpF
    split
    · exact grpF_le l a f (g + 1) (by omega) (by rw [Nat.add_sub_cancel]; omega)
    · exact ⟨h, h2⟩
theorem impl_groups_ev (l : List Int) (hl : l.length ≤ 1048576) (a : Nat) : ∀ f g : Nat, 1 ≤ g → a + 8 * (g - 1) < l.length → l.length - (a + 8 * g) ≤ f → Ev (fun k => impl_groupsFrom.l0 k l (a : Int) (g : Int)) (grpF l a f g : Int) := by
  intro f
  induction f with
  | zero =>
    intro g h1 h2 h3
    refine Ev.step (fun k => by rw [impl_groupsFrom.l0]) ?_
    rw [wrap64_id (x := 8 * (g : Int)) (by omega) (by omega), wrap64_id (x := (a : Int) + 8 * (g : Int)) (by omega) (by omega)]
    exact Ev.neg (by omega) (Ev.now _)
  | succ f ih =>
    intro g h1 h2 h3
    refine Ev.step (fun k => by rw [impl_groupsFrom.l0]) ?_
    rw [wrap64_id (x := 8 * (g : Int)) (by omega) (by omega), wrap64_id (x := (a : Int) + 8 * (g : Int)) (by omega) (by omega)]
    unfold grpF
    by_cases hlt : a + 8 * g < l.length
    · have e : (a : Int) + 8 * (g : Int) = ((a + 8 * g : Nat) : Int) := by omega
      refine Ev.pos (by omega) ?_
      rw [e]
      refine Ev.bind (impl_alike_ev l hl _ hlt) ?_
      by_cases h8 : alk l (a + 8 * g) < 8
      · rw [if_pos ⟨hlt, h8⟩]
        refine Ev.pos (by omega) ?_
        rw [wrap64_id (x := (g : Int) + 1) (by omega) (by omega)]
        simpa using ih (g + 1) (by omega) (by rw [Nat.add_sub_cancel]; omega) (by omega)
      · rw [if_neg (fun h => h8 h.2)]
        exact Ev.neg (by omega) (Ev.now _)
    · rw [if_neg (fun h => hlt h.1)]
      exact Ev.neg (by omega) (Ev.now _)
/-- The numbers of m places from a place on, zeros behind the end. -/
def padAt (l : List Int) (a j : Nat) : Int := if a + j < l.length then rd l ((a + j : Nat) : Int) else 0
def numsAt (l : List Int) (a m : Nat) : List Int := (List.range m).map fun (j : Nat) => padAt l a j
theorem numsAt_length (l : List Int) (a m : Nat) : (numsAt l a m).length = m := by simp [numsAt]
theorem numsAt_copy (l : List Int) (a m : Nat) : copyL (List.replicate m 0) (l.drop a) = numsAt l a m := by
  apply List.ext_getElem?
  intro j
  unfold copyL numsAt padAt
  simp only [List.length_replicate, List.length_drop]
  by_cases hm : j < m
  · by_cases hj : a + j < l.length
    · have e : rd l ((a : Int) + (j : Int)) = l[a + j] := by
        have h1 : (a : Int) + (j : Int) = ((a + j : Nat) : Int) := by omega
        rw [h1]; exact rd_eq (by rw [Int.toNat_natCast]; exact hj)
      rw [List.getElem?_append_left (by simp; omega), List.getElem?_take, if_pos hm, List.getElem?_drop, List.getElem?_eq_getElem hj]
      simp [hm, hj, e]
    · rw [List.getElem?_append_right (by simp; omega)]
      simp [hm, hj, List.getElem?_replicate]
      omega
  · rw [List.getElem?_eq_none (by simp; omega), List.getElem?_eq_none (by simp; omega)]
/-- Eight numbers more. -/
theorem spec_group_step (l : List Int) (hl : l.length ≤ 1048576) (w : Int) (out : List Int) (a g : Nat) (hg : a + 8 * g < l.length) (r)
    (h : Ev (fun k => spec_RunPack.l2 k l w out ((a + 8 * (g + 1) : Nat) : Int) (numsAt l a (8 * (g + 1)))) r) : Ev (fun k => spec_RunPack.l3 k l w out ((a + 8 * g : Nat) : Int) (numsAt l a (8 * g)) 0) r := by
  refine append_from (fun k s i => spec_RunPack.l3 k l w out ((a + 8 * g : Nat) : Int) s i) (fun (j : Nat) => padAt l a (8 * g + j)) 8 r (numsAt l a (8 * g)) (fun i s hi hs hr => ?_) ?_
  · rw [numsAt_length] at hs
    refine Ev.step (fun k => by rw [spec_RunPack.l3]) ?_
    rw [wrap64_id (x := ((a + 8 * g : Nat) : Int) + (i : Int)) (by omega) (by omega), wrap64_id (x := (i : Int) + 1) (by omega) (by omega)]
    have e : ((a + 8 * g : Nat) : Int) + (i : Int) = ((a + (8 * g + i) : Nat) : Int) := by omega
    rw [e]
    by_cases hlt : a + (8 * g + i) < l.length
    · refine Ev.pos (by omega) (Ev.pos (by omega) (Ev.pos (by omega) (Ev.pos (by omega) ?_)))
      simpa [padAt, hlt] using hr
    · refine Ev.pos (by omega) (Ev.neg (by omega) (Ev.pos (by omega) ?_))
      simpa [padAt, hlt] using hr
  · refine Ev.step (fun k => by rw [spec_RunPack.l3]) ?_
    refine Ev.neg (by decide) ?_
    rw [wrap64_id (x := ((a + 8 * g : Nat) : Int) + 8) (by omega) (by omega)]
    have e : ((a + 8 * g : Nat) : Int) + 8 = ((a + 8 * (g + 1) : Nat) : Int) := by omega
    have e2 : numsAt l a (8 * g) ++ (List.range 8).map (fun (j : Nat) => padAt l a (8 * g + j)) = numsAt l a (8 * (g + 1)) := by
      unfold numsAt
      rw [show 8 * (g + 1) = 8 * g + 8 by omega, List.range_add, List.map_append, List.map_map]; rfl
    rw [e, e2]; exact h
theorem spec_groups (l : List Int) (hl : l.length ≤ 1048576) (w : Int) (out : List Int) (a : Nat) (r) : ∀ f g : Nat, 1 ≤ g → a + 8 * (g - 1) < l.length → l.length - (a + 8 * g) ≤ f →
    Ev (fun k => spec_RunPack.j4 k l w out ((a + 8 * grpF l a f g : Nat) : Int) (numsAt l a (8 * grpF l a f g)) false) r → Ev (fun k => spec_RunPack.l2 k l w out ((a + 8 * g : Nat) : Int) (numsAt l a (8 * g))) r := by
  intro f
  induction f with
  | zero =>
    intro g h1 h2 h3 h
    refine Ev.step (fun k => by rw [spec_RunPack.l2]) ?_
    exact Ev.neg (by omega) h
  | succ f ih =>
    intro g h1 h2 h3 h
    refine Ev.step (fun k => by rw [spec_RunPack.l2]) ?_
    unfold grpF at h
    by_cases hlt : a + 8 * g < l.length
    · refine Ev.pos (by omega) (Ev.neg (by rw [numsAt_length]; omega) (Ev.bind (spec_alike_ev l hl _ hlt) ?_))
      by_cases h8 : alk l (a + 8 * g) < 8
      · rw [if_pos ⟨hlt, h8⟩] at h
        rw [decide_eq_true (show ((alk l (a + 8 * g) : Nat) : Int) < 8 by omega)]
        refine Ev.step (fun k => by rw [spec_RunPack.j4]) ?_
        exact Ev.pos rfl (spec_group_step l hl w out a g hlt r (ih (g + 1) (by omega) (by rw [Nat.add_sub_cancel]; omega) (by omega) h))
      · rw [if_neg (fun h => h8 h.2)] at h
        rw [decide_eq_false (show ¬ ((alk l (a + 8 * g) : Nat) : Int) < 8 by omega)]
        exact h
    · rw [if_neg (fun h => hlt h.1)] at h
      exact Ev.neg (by omega) h
theorem bitsR_le (l : List Int) (w : Nat) : (bitsR l w).length = (l.length * w + 7) / 8 := (bitsR_ok l w).1
theorem runpack_loop (l : List Int) (hl : l.length ≤ 2000) (w : Nat) (hw : w ≤ 24) : ∀ (n a : Nat) (out : List Int), l.length - a ≤ n → a ≤ l.length → out.length + 40 * (l.length - a) ≤ 1000000 → ∀ s : Nat, (s = a ∨ (a = l.length ∧ l.length ≤ s)) →
    ∃ r : List Int, Ev (fun k => spec_RunPack.l1 k l (w : Int) out (s : Int)) (r, true) ∧ Ev (fun k => impl_RunPack.l0 k l (w : Int) out (a : Int)) (r, true) ∧ r.length ≤ out.length + 40 * (l.length - a) := by
  intro n
  induction n with
  | zero =>
    intro a out hn ha ho s hs
    refine ⟨out, ?_, ?_, by omega⟩
    · exact Ev.step (fun k => by rw [spec_RunPack.l1]) (by exact Ev.neg (by omega) (Ev.now _))
    · exact Ev.step (fun k => by rw [impl_RunPack.l0]) (by exact Ev.neg (by omega) (Ev.now _))
  | succ n ih =>
    intro a out hn ha ho s hs
    by_cases hlt : a < l.length
    · obtain rfl : s = a := by omega
      have hk := alk_le l s hlt
      by_cases h8 : 8 ≤ alk l s
      · obtain ⟨u, u1, u2, u3, _⟩ := UvarPut_ev (2 * (alk l s : Int))
        have hb : (w + 7) / 8 ≤ 3 := by omega
        have w1 := spec_WordPut_ev (rd l (s : Int)) ((w + 7) / 8) (by omega)
        have w2 := impl_WordPut_ev (rd l (s : Int)) ((w + 7) / 8) (by omega)
        have wl := wbytes_length (rd l (s : Int)) ((w + 7) / 8)
        obtain ⟨r, r1, r2, r3⟩ := ih (s + alk l s) (out ++ u ++ wbytes (rd l (s : Int)) ((w + 7) / 8)) (by omega) (by omega) (by simp only [List.length_append]; omega) (s + alk l s) (.inl rfl)
        have hlen : (out ++ u).length ≤ out.length + 10 := by simp only [List.length_append]; omega
        have hlen2 : (out ++ u ++ wbytes (rd l (s : Int)) ((w + 7) / 8)).length ≤ out.length + 13 := by simp only [List.length_append]; omega
        refine ⟨r, ?_, ?_, by omega⟩
        · refine Ev.step (fun k => by rw [spec_RunPack.l1]) ?_
          refine Ev.pos (by omega) (Ev.bind (spec_alike_ev l (by omega) s hlt) (Ev.pos (by omega) ?_))
          rw [wrap64_id (x := 2 * ((alk l s : Nat) : Int)) (by omega) (by omega), wrap64_id (x := (s : Int) + ((alk l s : Nat) : Int)) (by omega) (by omega)]
          refine Ev.bind u1 (Ev.pos (by omega) (Ev.here rfl ?_))
          have e : (s : Int) + ((alk l s : Nat) : Int) = ((s + alk l s : Nat) : Int) := by omega
          rw [e]
          by_cases h0 : 0 < w
          · exact Ev.pos (by omega) (Ev.pos (by omega) (Ev.here (bitsSize_spec w hw) (Ev.bind w1 (Ev.pos (by omega) r1))))
          · obtain rfl : w = 0 := by omega
            refine Ev.neg (by omega) ?_
            have e0 : wbytes (rd l (s : Int)) ((0 + 7) / 8) = [] := rfl
            rw [e0, List.append_nil] at r1
            exact r1
        · refine Ev.step (fun k => by rw [impl_RunPack.l0]) ?_
          refine Ev.pos (by omega) (Ev.bind (impl_alike_ev l (by omega) s hlt) (Ev.pos (by omega) ?_))
          rw [wrap64_id (x := 2 * ((alk l s : Nat) : Int)) (by omega) (by omega), wrap64_id (x := (s : Int) + ((alk l s : Nat) : Int)) (by omega) (by omega)]
          have e : (s : Int) + ((alk l s : Nat) : Int) = ((s + alk l s : Nat) : Int) := by omega
          rw [e]
          exact Ev.bind u2 (Ev.pos (by omega) (Ev.here rfl (Ev.pos (by omega) (Ev.here (bitsSize_impl w hw) (Ev.bind w2 (Ev.pos (by omega) r2))))))
      · obtain ⟨G, hG⟩ : ∃ G, G = grpF l s (l.length - (s + 8 * 1)) 1 := ⟨_, rfl⟩
        have hgl := grpF_le l s (l.length - (s + 8 * 1)) 1 (by omega) (by omega)
        rw [← hG] at hgl
        obtain ⟨u, u1, u2, u3, _⟩ := UvarPut_ev (2 * (G : Int) + 1)
        have hnl := numsAt_length l s (8 * G)
        have b1 := spec_l8Bits_ev (numsAt l s (8 * G)) (by omega) w (by omega)
        have b2 := impl_packed_ev (numsAt l s (8 * G)) (by omega) w (by omega)
        have bl := bitsR_le (numsAt l s (8 * G)) w
        rw [hnl] at bl
        have hbl : (bitsR (numsAt l s (8 * G)) w).length ≤ 24 * G := by
          have h1 : 8 * G * w ≤ 8 * G * 24 := Nat.mul_le_mul_left _ hw
          omega
        have hlen : (out ++ u).length ≤ out.length + 10 := by simp only [List.length_append]; omega
        have hlen2 : (out ++ u ++ bitsR (numsAt l s (8 * G)) w).length ≤ out.length + 10 + 24 * G := by simp only [List.length_append]; omega
        obtain ⟨r, r1, r2, r3⟩ := ih (min (s + 8 * G) l.length) (out ++ u ++ bitsR (numsAt l s (8 * G)) w) (by omega) (by omega) (by omega) (s + 8 * G) (by omega)
        refine ⟨r, ?_, ?_, by omega⟩
        · refine Ev.step (fun k => by rw [spec_RunPack.l1]) ?_
          refine Ev.pos (by omega) (Ev.bind (spec_alike_ev l (by omega) s hlt) (Ev.neg (by omega) ?_))
          refine Ev.step (fun k => by rw [spec_RunPack.l2]) ?_
          refine Ev.pos (by omega) (Ev.pos rfl ?_)
          refine Ev.step (fun k => by rw [spec_RunPack.j4]) ?_
          refine Ev.pos rfl ?_
          have h1 := spec_group_step l (by omega) (w : Int) out s 0 (by omega) (r, true) (spec_groups l (by omega) (w : Int) out s (r, true) (l.length - (s + 8 * 1)) 1 (by omega) (by omega) (by omega) (by
            rw [← hG]
            refine Ev.step (fun k => by rw [spec_RunPack.j4]) ?_
            refine Ev.neg (by decide) ?_
            rw [hnl]
            have e1 : ((8 * G : Nat) : Int) / 8 = (G : Int) := by omega
            rw [e1, wrap64_id (x := (G : Int)) (by omega) (by omega), wrap64_id (x := 2 * (G : Int)) (by omega) (by omega), wrap64_id (x := 2 * (G : Int) + 1) (by omega) (by omega)]
            exact Ev.bind u1 (Ev.pos (by omega) (Ev.here rfl (Ev.bind b1 (Ev.pos (by omega) r1))))))
          simpa [numsAt] using h1
        · refine Ev.step (fun k => by rw [impl_RunPack.l0]) ?_
          refine Ev.pos (by omega) (Ev.bind (impl_alike_ev l (by omega) s hlt) (Ev.neg (by omega) ?_))
          have hg := impl_groups_ev l (by omega) s (l.length - (s + 8 * 1)) 1 (by omega) (by omega) (by omega)
          rw [← hG] at hg
          refine Ev.bind (a := (G : Int)) (by unfold impl_groupsFrom.f; simpa using hg) ?_
          rw [wrap64_id (x := 8 * (G : Int)) (by omega) (by omega), wrap64_id (x := 2 * (G : Int)) (by omega) (by omega), wrap64_id (x := 2 * (G : Int) + 1) (by omega) (by omega), wrap64_id (x := (s : Int) + 8 * (G : Int)) (by omega) (by omega)]
          have e1 : (8 * (G : Int)).toNat = 8 * G := by omega
          have e2 : mn ((s : Int) + 8 * (G : Int)) (l.length : Int) = ((min (s + 8 * G) l.length : Nat) : Int) := by unfold mn; split <;> omega
          rw [e1, e2, Int.toNat_natCast, numsAt_copy]
          exact Ev.pos (by omega) (Ev.pos (by omega) (Ev.pos (by omega) (Ev.pos (by omega) (Ev.bind u2 (Ev.pos (by omega) (Ev.here rfl (Ev.bind b2 (Ev.pos (by omega) r2))))))))
    · refine ⟨out, ?_, ?_, by omega⟩
      · exact Ev.step (fun k => by rw [spec_RunPack.l1]) (by exact Ev.neg (by omega) (Ev.now _))
      · exact Ev.step (fun k => by rw [impl_RunPack.l0]) (by exact Ev.neg (by omega) (Ev.now _))
/-- A number takes at most w bits. -/
theorem blF_le_iff : ∀ (f n w : Nat), n < 2 ^ f → (blF f n ≤ w ↔ n < 2 ^ w)
  | 0, n, w, h => by
    obtain rfl : n = 0 := by simpa using h
    exact ⟨fun _ => Nat.two_pow_pos w, fun _ => by simp [blF]⟩
  | f + 1, n, w, h => by
    unfold blF
    by_cases h0 : n = 0
    · rw [if_pos h0, h0]
      exact ⟨fun _ => Nat.two_pow_pos w, fun _ => Nat.zero_le _⟩
    · rw [if_neg h0]
      cases w with
      | zero => constructor
                · intro h; omega
                · intro h; simp at h; omega
      | succ w =>
        have := blF_le_iff f (n / 2) w (by rw [Nat.pow_succ] at h; omega)
        rw [Nat.pow_succ]
        constructor
        · intro h2; have := this.1 (by omega); omega
        · intro h2; have := this.2 (by omega); omega
theorem widB_le (x : Int) (h0 : 0 ≤ x) (h1 : x ≤ 9223372036854775807) (w : Nat) (hw : w ≤ 62) : widB x ≤ (w : Int) ↔ shr .i64 x (w : Int) = 0 := by
  obtain ⟨n, rfl⟩ := Int.eq_ofNat_of_zero_le h0
  have e : ((n : Int) % 18446744073709551616).toNat = n := by omega
  have hk := blF_le_iff 64 n w (by omega)
  unfold widB shr
  rw [e]
  have e2 : min ((w : Int).toNat) IntKind.i64.bits = w := by
    have : IntKind.i64.bits = 64 := rfl
    rw [this, Int.toNat_natCast]; omega
  rw [e2]
  have e3 : ((n : Int) / 2 ^ w) = ((n / 2 ^ w : Nat) : Int) := by push_cast; rfl
  rw [e3]
  have hp := Nat.two_pow_pos w
  constructor
  · intro h
    have : n < 2 ^ w := hk.1 (by omega)
    rw [Nat.div_eq_of_lt this]; rfl
  · intro h
    have h2 : n / 2 ^ w = 0 := by omega
    have : n < 2 ^ w := by
      rcases Nat.div_eq_zero_iff.1 h2 with h3 | h3
      · omega
      · exact h3
    have := hk.2 this
    omega
def bitsIn (w : Nat) (x : Int) : Bool := decide (0 ≤ x) && decide (shr .i64 x (w : Int) = 0)
theorem RunPack_both' (l : List Int) (hI : AllI l) (hl : l.length ≤ 1048576) (w : Nat) (hw : w ≤ 24) : ∃ r : List Int × Bool, Ev (fun k => spec_RunPack.f k l (w : Int)) r ∧ Ev (fun k => impl_RunPack.f k l (w : Int)) r ∧ r.1.length ≤ 100000 ∧ (l.length ≤ 2000 → (∀ i : Nat, i < l.length → bitsIn w (rd l (i : Int)) = true) → r.2 = true) := by
  have hsw : spec_l8Width.f (w : Int) = some true := by
    unfold spec_l8Width.f
    rw [l1In_some, decide_eq_true (by omega)]; rfl
  unfold spec_RunPack.f impl_RunPack.f impl_BitsPack.f
  have bad : Ev (fun k => impl_RunPack.j0 k l (w : Int) true) ([], false) := Ev.step (fun k => by rw [impl_RunPack.j0]) (by exact Ev.pos rfl (Ev.now _))
  by_cases hb : (l.length : Int) > 2000
  · refine ⟨([], false), ?_, ?_, by simp, fun h => absurd h (by omega)⟩
    · refine Ev.here rfl (Ev.here hsw (Ev.pos rfl ?_))
      rw [decide_eq_true hb]
      exact Ev.step (fun k => by rw [spec_RunPack.j0]) (by exact Ev.pos rfl (Ev.now _))
    · refine Ev.bind (Ev.pos hb (Ev.step (fun k => by rw [impl_BitsPack.j0]) (by exact Ev.pos rfl (Ev.now _)))) ?_
      exact Ev.neg (by decide) bad
  have hl2 : l.length ≤ 2000 := by omega
  have sh := all_loop (fun k i => spec_RunPack.l0 k l (w : Int) [] i) (fun i => bitsIn w (rd l (i : Int))) l.length ([], false)
  have ih := all_loop (fun k i => impl_BitsPack.l0 k l (w : Int) l (l.length : Int) i) (fun i => bitsIn w (rd l (i : Int))) l.length ([], false) (bitsR l w, true)
    (fun i r hi hp hr => by
      simp only [bitsIn, Bool.and_eq_true, decide_eq_true_eq] at hp
      have hI2 := rd_I hI (i : Int)
      have hle := (widB_le _ hp.1 hI2.2 w (by omega)).2 hp.2
      refine Ev.step (fun k => by rw [impl_BitsPack.l0]) ?_
      have hp1 := hp.1
      refine Ev.pos (by omega) (Ev.pos (by omega) (Ev.pos (by omega) (Ev.neg (by omega) (Ev.bind (impl_widthOf_ev _) (Ev.neg (by omega) ?_)))))
      rw [wrap64_id (x := (i : Int) + 1) (by omega) (by omega)]
      simpa using hr)
    (fun i hi hp => by
      refine Ev.step (fun k => by rw [impl_BitsPack.l0]) ?_
      refine Ev.pos (by omega) (Ev.pos (by omega) (Ev.pos (by omega) ?_))
      have hI2 := rd_I hI (i : Int)
      by_cases h0 : rd l (i : Int) < 0
      · exact Ev.pos h0 (Ev.now _)
      · refine Ev.neg h0 (Ev.bind (impl_widthOf_ev _) (Ev.pos ?_ (Ev.now _)))
        have h1 : ¬ shr .i64 (rd l (i : Int)) (w : Int) = 0 := by
          intro h; rw [bitsIn, decide_eq_true (by omega), decide_eq_true h] at hp; cases hp
        have h2 : ¬ widB (rd l (i : Int)) ≤ (w : Int) := fun h => h1 ((widB_le _ (by omega) hI2.2 w (by omega)).1 h)
        omega)
    (by
      refine Ev.step (fun k => by rw [impl_BitsPack.l0]) ?_
      exact Ev.neg (by omega) (Ev.bind (impl_packed_ev l (by omega) w (by omega)) (Ev.now _)))
  obtain ⟨r, r1, r2, r3⟩ := runpack_loop l hl2 w hw l.length 0 [] (by omega) (by omega) (by simp; omega) 0 (.inl rfl)
  have sh2 := sh (r, true)
    (fun i q hi hp hr => by
      simp only [bitsIn, Bool.and_eq_true, decide_eq_true_eq] at hp
      refine Ev.step (fun k => by rw [spec_RunPack.l0]) ?_
      refine Ev.pos (by omega) (Ev.pos (by omega) (Ev.neg (by omega) (Ev.pos (by omega) (Ev.pos hp.2 ?_))))
      rw [wrap64_id (x := (i : Int) + 1) (by omega) (by omega)]
      simpa using hr)
    (fun i hi hp => by
      refine Ev.step (fun k => by rw [spec_RunPack.l0]) ?_
      refine Ev.pos (by omega) (Ev.pos (by omega) ?_)
      by_cases h0 : rd l (i : Int) < 0
      · exact Ev.pos h0 (Ev.now _)
      · refine Ev.neg h0 (Ev.pos (by omega) (Ev.neg ?_ (Ev.now _)))
        intro h; rw [bitsIn, decide_eq_true (by omega), decide_eq_true h] at hp; cases hp)
    (by
      refine Ev.step (fun k => by rw [spec_RunPack.l0]) ?_
      refine Ev.neg (by omega) ?_
      simpa using r1)
  cases hA : (List.range l.length).all (fun i => bitsIn w (rd l (i : Int))) with
  | false =>
    rw [hA] at sh2 ih
    refine ⟨([], false), ?_, ?_, by simp, fun _ hx => by rw [List.all_eq_true.2 (fun i hi => hx i (List.mem_range.1 hi))] at hA; cases hA⟩
    · refine Ev.here rfl (Ev.here hsw (Ev.pos rfl ?_))
      rw [decide_eq_false hb]
      exact Ev.step (fun k => by rw [spec_RunPack.j0]) (by exact Ev.neg (by decide) (by simpa using sh2))
    · refine Ev.bind (a := ([], false)) (Ev.neg hb (Ev.here (within_some _ _ _) ?_)) (Ev.neg (by decide) bad)
      rw [decide_eq_true (show 0 ≤ (w : Int) ∧ (w : Int) ≤ 62 by omega)]
      exact Ev.step (fun k => by rw [impl_BitsPack.j0]) (by exact Ev.neg (by decide) (by simpa using ih))
  | true =>
    rw [hA] at sh2 ih
    refine ⟨(r, true), ?_, ?_, by simp at r3; simp; omega, fun _ _ => rfl⟩
    · refine Ev.here rfl (Ev.here hsw (Ev.pos rfl ?_))
      rw [decide_eq_false hb]
      exact Ev.step (fun k => by rw [spec_RunPack.j0]) (by exact Ev.neg (by decide) (by simpa using sh2))
    · refine Ev.bind (a := (bitsR l w, true)) (Ev.neg hb (Ev.here (within_some _ _ _) ?_)) (Ev.pos rfl ?_)
      · rw [decide_eq_true (show 0 ≤ (w : Int) ∧ (w : Int) ≤ 62 by omega)]
        exact Ev.step (fun k => by rw [impl_BitsPack.j0]) (by exact Ev.neg (by decide) (by simpa using ih))
      · rw [decide_eq_false (show ¬ (w : Int) > 24 by omega)]
        exact Ev.step (fun k => by rw [impl_RunPack.j0]) (by exact Ev.neg (by decide) (by simpa using r2))
theorem RunPack_both (l : List Int) (hI : AllI l) (hl : l.length ≤ 1048576) (w : Nat) (hw : w ≤ 24) : ∃ r : List Int × Bool, Ev (fun k => spec_RunPack.f k l (w : Int)) r ∧ Ev (fun k => impl_RunPack.f k l (w : Int)) r ∧ r.1.length ≤ 100000 := by
  obtain ⟨r, h1, h2, h3, _⟩ := RunPack_both' l hI hl w hw
  exact ⟨r, h1, h2, h3⟩
theorem BitsWidth_both (x : Nat) (hx : x ≤ 2000) : ∃ w : Nat, w ≤ 11 ∧ Ev (fun k => spec_BitsWidth.f k (x : Int)) (w : Int) ∧ Ev (fun k => impl_BitsWidth.f k (x : Int)) (w : Int) := by
  have e : ((x : Int) % 18446744073709551616).toNat = x := by omega
  have hb : blF 64 x = blF 11 x := blF_more 11 x (by omega) 53
  have hle := blF_le 11 x
  have hw : widB (x : Int) = (blF 11 x : Int) := by unfold widB; rw [e, hb]
  refine ⟨blF 11 x, hle, ?_, ?_⟩
  · unfold spec_BitsWidth.f
    have key : ∀ (f n w : Nat), n < 2 ^ f → f ≤ 11 → w + f ≤ 11 → Ev (fun k => spec_BitsWidth.l0 k (n : Int) (w : Int)) ((w + blF f n : Nat) : Int) := by
      intro f
      induction f with
      | zero =>
        intro n w hn _ _
        obtain rfl : n = 0 := by simpa using hn
        refine Ev.step (fun k => by rw [spec_BitsWidth.l0]) ?_
        exact Ev.neg (by omega) (Ev.neg (by omega) (Ev.const (by simp [blF])))
      | succ f ih =>
        intro n w hn hf hwf
        have hpow : (2 : Nat) ^ (f + 1) ≤ 2 ^ 11 := Nat.pow_le_pow_right (by decide) hf
        refine Ev.step (fun k => by rw [spec_BitsWidth.l0]) ?_
        by_cases h0 : n = 0
        · subst h0
          exact Ev.neg (by omega) (Ev.neg (by omega) (Ev.const (by simp [blF])))
        · refine Ev.pos (by omega) ?_
          rw [wrap64_id (x := (w : Int) + 1) (by omega) (by omega), Int.tdiv_eq_ediv_of_nonneg (by omega), wrap64_id (x := (n : Int) / 2) (by omega) (by omega)]
          have h1 := ih (n / 2) (w + 1) (by rw [Nat.pow_succ] at hn; omega) (by omega) (by omega)
          have e1 : blF (f + 1) n = blF f (n / 2) + 1 := by rw [blF, if_neg h0]
          have e2 : ((n / 2 : Nat) : Int) = (n : Int) / 2 := by omega
          rw [e2] at h1
          refine Ev.cast (by simpa using h1) ?_
          rw [e1]; push_cast; omega
    refine Ev.neg (by omega) ?_
    simpa using key 11 x 0 (by omega) (by omega) (by omega)
  · unfold impl_BitsWidth.f
    have h1 := impl_widthOf_ev (x : Int)
    rw [hw] at h1
    exact Ev.neg (by omega) (Ev.bind h1 (Ev.neg (by omega) (Ev.bind h1 (Ev.now _))))
theorem PlacesPack_both (l : List Int) (hI : AllI l) (hl : l.length ≤ 1048576) (many : Int) : ∃ r : List Int × Bool, Ev (fun k => spec_PlacesPack.f k l many) r ∧ Ev (fun k => impl_PlacesPack.f k l many) r ∧ r.1.length ≤ 200000 := by
  unfold spec_PlacesPack.f impl_PlacesPack.f
  rcases Decidable.em (0 ≤ many ∧ many ≤ 2000) with hm | hm
  case inr =>
    refine ⟨([], false), ?_, ?_, by simp⟩
    · exact Ev.here (l1In_some _ _ _) (Ev.neg (by rw [decide_eq_false hm]; decide) (Ev.now _))
    · exact Ev.here (within_some _ _ _) (Ev.neg (by rw [decide_eq_false hm]; decide) (Ev.now _))
  have hw1 : wrap64 (many - 1) = many - 1 := wrap64_id (by omega) (by omega)
  obtain ⟨w, hw, b1, b2⟩ := BitsWidth_both (many - 1).toNat (by omega)
  obtain ⟨r, r1, r2, r3⟩ := RunPack_both l hI hl w (by omega)
  have hx : mx (many - 1) 0 = (((many - 1).toNat : Nat) : Int) := by unfold mx; split <;> omega
  have hs : spec_l1Max.f (many - 1) 0 = some (((many - 1).toNat : Nat) : Int) := by
    unfold spec_l1Max.f; split <;> (congr 1; omega)
  obtain ⟨q, q1, q2⟩ : ∃ q : List Int × Bool, q = (if r.2 = true then ([(w : Int) % 256] ++ r.1, true) else ([], false)) ∧ q.1.length ≤ 200000 := by
    refine ⟨_, rfl, ?_⟩
    split
    · simp; omega
    · simp
  have fin1 : Ev (fun k => (spec_RunPack.f k l (w : Int)).bind fun bt => if bt.2 = true then ((some (([(w : Int) % 256] : List Int) : List Int)).bind fun y => (if y.length + bt.1.length < 140737488355328 then (some ((y ++ bt.1), true)) else (none))) else (some (([] : List Int), false))) q := by
    refine Ev.bind r1 ?_
    by_cases h : r.2 = true
    · have e : q = ([(w : Int) % 256] ++ r.1, true) := by rw [q1, if_pos h]
      rw [e]
      exact Ev.pos h (Ev.here rfl (Ev.pos (by simp; omega) (Ev.now _)))
    · have e : q = ([], false) := by rw [q1, if_neg h]
      rw [e]
      exact Ev.neg h (Ev.now _)
  have fin2 : Ev (fun k => (impl_RunPack.f k l (w : Int)).bind fun bt => if bt.2 = true then ((some (([(w : Int) % 256] : List Int) : List Int)).bind fun y => (if y.length + bt.1.length < 140737488355328 then (some ((y ++ bt.1), true)) else (none))) else (some (([] : List Int), false))) q := by
    refine Ev.bind r2 ?_
    by_cases h : r.2 = true
    · have e : q = ([(w : Int) % 256] ++ r.1, true) := by rw [q1, if_pos h]
      rw [e]
      exact Ev.pos h (Ev.here rfl (Ev.pos (by simp; omega) (Ev.now _)))
    · have e : q = ([], false) := by rw [q1, if_neg h]
      rw [e]
      exact Ev.neg h (Ev.now _)
  have a1 := all_loop (fun k i => spec_PlacesPack.l0 k l many i) (fun i => decide (0 ≤ rd l (i : Int) ∧ rd l (i : Int) ≤ many - 1)) l.length ([], false) q
    (fun i r hi hp hr => by
      refine Ev.step (fun k => by rw [spec_PlacesPack.l0]) ?_
      rw [hw1]
      refine Ev.pos (by omega) (Ev.pos (by omega) (Ev.here (l1In_some _ _ _) (Ev.pos hp ?_)))
      rw [wrap64_id (x := (i : Int) + 1) (by omega) (by omega)]
      simpa using hr)
    (fun i hi hp => by
      refine Ev.step (fun k => by rw [spec_PlacesPack.l0]) ?_
      rw [hw1]
      exact Ev.pos (by omega) (Ev.pos (by omega) (Ev.here (l1In_some _ _ _) (Ev.neg (by rw [hp]; decide) (Ev.now _)))))
    (by
      refine Ev.step (fun k => by rw [spec_PlacesPack.l0]) ?_
      rw [hw1]
      exact Ev.neg (by omega) (Ev.here hs (Ev.bind b1 fin1)))
  have a2 := all_loop (fun k i => impl_PlacesPack.l0 k l many l (l.length : Int) i) (fun i => decide (0 ≤ rd l (i : Int) ∧ rd l (i : Int) ≤ many - 1)) l.length ([], false) q
    (fun i r hi hp hr => by
      refine Ev.step (fun k => by rw [impl_PlacesPack.l0]) ?_
      rw [hw1]
      refine Ev.pos (by omega) (Ev.pos (by omega) (Ev.pos (by omega) (Ev.here (within_some _ _ _) (Ev.pos hp ?_))))
      rw [wrap64_id (x := (i : Int) + 1) (by omega) (by omega)]
      simpa using hr)
    (fun i hi hp => by
      refine Ev.step (fun k => by rw [impl_PlacesPack.l0]) ?_
      rw [hw1]
      exact Ev.pos (by omega) (Ev.pos (by omega) (Ev.pos (by omega) (Ev.here (within_some _ _ _) (Ev.neg (by rw [hp]; decide) (Ev.now _))))))
    (by
      refine Ev.step (fun k => by rw [impl_PlacesPack.l0]) ?_
      rw [hw1, hx]
      exact Ev.neg (by omega) (Ev.bind b2 fin2))
  refine ⟨_, Ev.here (l1In_some _ _ _) (Ev.pos (decide_eq_true hm) a1), Ev.here (within_some _ _ _) (Ev.pos (decide_eq_true hm) a2), ?_⟩
  split
  · exact q2
  · simp
theorem ba_inj {a b : ByteArray} (h : a.toList = b.toList) : a = b := by
  rw [ByteArray.toList_eq, ByteArray.toList_eq] at h
  cases a; cases b; simpa using h
theorem spec_eq_iff {x y : S46} : ((x.f0 == y.f0 && (x.f1.toList == y.f1.toList)) = true) ↔ x = y := by
  cases x; cases y
  simp only [Bool.and_eq_true, beq_iff_eq]
  constructor
  · rintro ⟨rfl, h⟩; rw [ba_inj h]
  · intro h; injection h with h1 h2; subst h1; subst h2; exact ⟨rfl, rfl⟩
theorem vk_in_nat {n : Nat} (h : n ≤ 1048576) : vk_in (n : Int) = true := by
  simp [vk_in, Lit.wf, IntKind.min, IntKind.max, IntKind.signed, IntKind.bits]; omega
def dGet (l : List (S46)) (i : Nat) : S46 := l.getD i z46
theorem dGet_mem {l : List (S46)} {j : Nat} (h : j < l.length) : dGet l j ∈ l := by
  unfold dGet; rw [getD_eq h]; exact List.getElem_mem h
theorem vsOk_len {t : Int} {l : List (S46)} (h : vsOk t l = true) : l.length ≤ 2000 := by
  simp only [vsOk, Bool.and_eq_true, decide_eq_true_eq] at h; omega
/-! ### A page's values as bytes -/
theorem spec_l16Nums_ev (l : List S46) (hl : l.length ≤ 1048576) : Ev (fun k => spec_l16Nums.f k l) (numsB l) := by
  unfold spec_l16Nums.f
  refine append_loop (fun k s i => spec_l16Nums.l0 k l s i) (fun i => (rd_T46 l (i : Int)).f0) l.length _ (fun i s hi hls hr => ?_) ?_
  · refine Ev.step (fun k => by rw [spec_l16Nums.l0]) ?_
    refine Ev.pos (by omega) (Ev.pos (by omega) (Ev.pos (by omega) ?_))
    rw [wrap64_id (x := (i : Int) + 1) (by omega) (by omega)]
    simpa using hr
  · refine Ev.step (fun k => by rw [spec_l16Nums.l0]) ?_
    refine Ev.neg (by omega) (Ev.const ?_)
    congr 1
    apply List.ext_getElem?
    intro j
    unfold numsB
    by_cases hj : j < l.length
    · have e : rd_T46 l (j : Int) = l[j] := getD_eq (by simpa using hj)
      simp [hj, e]
    · simp [hj]
/-- A loop over a list that stops where an element has no answer. -/
theorem try_loop {α γ : Type} (L : Nat → List Int → Int → Option γ) (l : List α) (z : α) (f : α → Int) (ok : α → Bool) (no yes : γ)
    (hs : ∀ (i : Nat) (acc : List Int) (r : γ), i < l.length → acc.length = i → ok (l.getD i z) = true → Ev (fun k => L k (acc ++ [f (l.getD i z)]) ((i + 1 : Nat) : Int)) r → Ev (fun k => L k acc (i : Int)) r)
    (hn : ∀ (i : Nat) (acc : List Int), i < l.length → acc.length = i → ok (l.getD i z) = false → Ev (fun k => L k acc (i : Int)) no)
    (h0 : l.all ok = true → Ev (fun k => L k (l.map f) (l.length : Int)) yes) : Ev (fun k => L k [] 0) (if l.all ok = true then yes else no) := by
  have key : ∀ (m i : Nat), i + m = l.length → (l.take i).all ok = true → Ev (fun k => L k ((l.take i).map f) (i : Int)) (if l.all ok = true then yes else no) := by
    intro m
    induction m with
    | zero =>
      intro i hi ha
      obtain rfl : i = l.length := by omega
      rw [List.take_length] at ha ⊢
      rw [if_pos ha]; exact h0 ha
    | succ m ih =>
      intro i hi ha
      have hlt : i < l.length := by omega
      have ht : l.take (i + 1) = l.take i ++ [l[i]] := List.take_succ_eq_append_getElem hlt
      have eg : l.getD i z = l[i] := getD_eq hlt
      have hlen : ((l.take i).map f).length = i := by simp; omega
      cases hk : ok (l.getD i z) with
      | true =>
        refine hs i _ _ hlt hlen hk ?_
        have := ih (i + 1) (by omega) (by rw [ht, List.all_append, ha]; simp; rw [← eg]; exact hk)
        rw [ht, List.map_append] at this
        rw [eg]
        exact this
      | false =>
        have hall : l.all ok = false := by
          cases h : l.all ok with
          | false => rfl
          | true => rw [eg, List.all_eq_true.1 h _ (List.getElem_mem hlt)] at hk; cases hk
        rw [hall, if_neg (by decide)]
        exact hn i _ hlt hlen hk
  exact key l.length 0 (by omega) rfl
/-- Where a value stands first. -/
def fI (d : List S46) (x : S46) : Nat := d.findIdx (fun y => vk_eq y x)
theorem fI_le (d : List S46) (x : S46) : fI d x ≤ d.length := List.findIdx_le_length
theorem fI_at {d : List S46} {x : S46} (h : fI d x < d.length) : dGet d (fI d x) = x := by
  have := List.findIdx_getElem (xs := d) (p := fun y => vk_eq y x) (w := h)
  rw [dGet, getD_eq h]
  exact vk_eq_iff.1 this
theorem fI_not {d : List S46} {x : S46} {j : Nat} (h : j < fI d x) : dGet d j ≠ x := by
  have hl := fI_le d x
  have := List.not_of_lt_findIdx (xs := d) (p := fun y => vk_eq y x) h
  rw [dGet, getD_eq (by omega)]
  intro e
  rw [vk_eq_iff.2 e] at this
  cases this
theorem fI_eq {d : List S46} {x : S46} {j : Nat} (hj : j < d.length) (h : dGet d j = x) (hn : ∀ i < j, dGet d i ≠ x) : fI d x = j := by
  rcases Nat.lt_trichotomy (fI d x) j with h1 | h1 | h1
  · exact absurd (fI_at (by omega)) (hn _ h1)
  · exact h1
  · exact absurd h (fI_not h1)
structure MInv (d : List S46) (n : Nat) (m : List (S46 × Int)) : Prop where
  le : m.length ≤ n
  yes : ∀ x, vk_mem x m = true → ∃ j : Nat, j < n ∧ dGet d j = x ∧ (∀ i < j, dGet d i ≠ x) ∧ vk_at x m = j
  no : ∀ x, vk_mem x m = false → ∀ j < n, dGet d j ≠ x
def mStep (d : List S46) (i : Nat) (m : List (S46 × Int)) : List (S46 × Int) := if vk_mem (dGet d i) m = true then m else (dGet d i, (i : Int)) :: m
theorem MInv.next {d : List S46} {i : Nat} {m : List (S46 × Int)} (h : MInv d i m) : MInv d (i + 1) (mStep d i m) := by
  unfold mStep
  have hl := h.le
  by_cases hm : vk_mem (dGet d i) m = true
  · rw [if_pos hm]
    refine ⟨by omega, fun x hx => ?_, fun x hx j hj => ?_⟩
    · obtain ⟨j, h1, h2, h3, h4⟩ := h.yes x hx
      exact ⟨j, by omega, h2, h3, h4⟩
    · by_cases e : j = i
      · subst e; intro e; rw [e] at hm; rw [hm] at hx; cases hx
      · exact h.no x hx j (by omega)
  · rw [if_neg hm]
    have hm' : vk_mem (dGet d i) m = false := by cases q : vk_mem (dGet d i) m with
      | true => exact absurd q hm
      | false => rfl
    have e : ∀ y, vk_mem y ((dGet d i, (i : Int)) :: m) = (vk_eq y (dGet d i) || vk_mem y m) := fun y => by simp [vk_mem]
    refine ⟨by simp; omega, fun x hx => ?_, fun x hx j hj => ?_⟩
    · by_cases he : vk_eq x (dGet d i) = true
      · obtain rfl := vk_eq_iff.1 he
        exact ⟨i, by omega, rfl, fun j hj => h.no _ hm' j hj, by simp [vk_at, he]⟩
      · rw [e, Bool.or_eq_true] at hx
        obtain ⟨j, h1, h2, h3, h4⟩ := h.yes x (hx.resolve_left he)
        exact ⟨j, by omega, h2, h3, by rw [← h4]; simp [vk_at, he]⟩
    · rw [e, Bool.or_eq_false_iff] at hx
      by_cases ej : j = i
      · subst ej; intro e2; rw [vk_eq_iff.2 e2.symm] at hx; cases hx.1
      · exact h.no x hx.2 j (by omega)
def plR (d l : List S46) (r : List Int × Bool) : List Int × Bool := if l.all (fun x => decide (fI d x < d.length)) = true then r else ([], false)
theorem impl_dictPack_ev (l d : List S46) (hl : l.length ≤ 2000) (hd : d.length ≤ 1048576) (hwl : ∀ x ∈ l, vk_ok x = true) (hwd : ∀ x ∈ d, vk_ok x = true) (r : List Int × Bool)
    (hr : Ev (fun k => impl_PlacesPack.f k (l.map (fun x => (fI d x : Int))) (d.length : Int)) r) : Ev (fun k => impl_dictPack.f k l d) (plR d l r) := by
  unfold impl_dictPack.f
  refine loop_inv (fun k (m : List (S46 × Int)) i => impl_dictPack.l0 k l d m d (d.length : Int) i) (mStep d) d.length _ (MInv d) [] ⟨Nat.le_refl _, fun x hx => by simp [vk_mem] at hx, fun x _ j hj => absurd hj (by omega)⟩ (fun i m hi h => h.next) (fun i m hi hI h => ?_) (fun m hI hs => ?_)
  · have hle := hI.le
    refine Ev.step (fun k => by rw [impl_dictPack.l0]) ?_
    refine Ev.pos (by omega) (Ev.pos (by omega) (Ev.pos (by omega) ?_))
    rw [show rd_T46 d (i : Int) = dGet d i from rfl, show (⟨(dGet d i).f0, (dGet d i).f1⟩ : S46) = dGet d i from rfl, wrap64_id (x := (i : Int) + 1) (by omega) (by omega)]
    refine Ev.pos (hwd _ (dGet_mem hi)) ?_
    unfold mStep at h
    by_cases hm : vk_mem (dGet d i) m = true
    · rw [if_pos hm] at h; exact Ev.pos hm h
    · rw [if_neg hm] at h
      exact Ev.neg hm (Ev.pos (vk_in_nat (by omega)) (Ev.pos (by omega) h))
  · refine Ev.step (fun k => by rw [impl_dictPack.l0]) ?_
    refine Ev.neg (by omega) ?_
    have hmem : ∀ x, vk_mem x m = decide (fI d x < d.length) := by
      intro x
      cases hx : vk_mem x m with
      | true =>
        obtain ⟨j, h1, h2, h3, h4⟩ := hI.yes x hx
        rw [fI_eq h1 h2 h3, decide_eq_true h1]
      | false =>
        have := hI.no x hx
        rw [decide_eq_false]
        intro h; exact this _ h (fI_at h)
    have hat : ∀ x, vk_mem x m = true → vk_at x m = (fI d x : Int) := by
      intro x hx
      obtain ⟨j, h1, h2, h3, h4⟩ := hI.yes x hx
      rw [h4, fI_eq h1 h2 h3]
    refine try_loop (fun k acc i => impl_dictPack.l1 k d m acc l (l.length : Int) i) l z46 (fun x => (fI d x : Int)) (fun x => decide (fI d x < d.length)) ([], false) r (fun i acc q hi ha hk h => ?_) (fun i acc hi ha hk => ?_) (fun _ => ?_)
    · have hk' : vk_mem (dGet l i) m = true := by rw [hmem]; exact hk
      refine Ev.step (fun k => by rw [impl_dictPack.l1]) ?_
      refine Ev.pos (by omega) (Ev.pos (by omega) (Ev.pos (by omega) ?_))
      rw [show rd_T46 l (i : Int) = dGet l i from rfl, show (⟨(dGet l i).f0, (dGet l i).f1⟩ : S46) = dGet l i from rfl, wrap64_id (x := (i : Int) + 1) (by omega) (by omega)]
      refine Ev.pos (hwl _ (dGet_mem hi)) (Ev.pos hk' (Ev.pos (by omega) ?_))
      rw [hat _ hk']
      exact h
    · have hk' : ¬ vk_mem (dGet l i) m = true := by rw [hmem]; unfold dGet; rw [hk]; decide
      refine Ev.step (fun k => by rw [impl_dictPack.l1]) ?_
      refine Ev.pos (by omega) (Ev.pos (by omega) (Ev.pos (by omega) ?_))
      rw [show rd_T46 l (i : Int) = dGet l i from rfl, show (⟨(dGet l i).f0, (dGet l i).f1⟩ : S46) = dGet l i from rfl]
      exact Ev.pos (hwl _ (dGet_mem hi)) (Ev.neg hk' (Ev.now _))
    · refine Ev.step (fun k => by rw [impl_dictPack.l1]) ?_
      exact Ev.neg (by omega) (Ev.bind hr (Ev.now _))
theorem ne_test {x y : S46} : ((!(x.f0 == y.f0) || (!((x.f1.toList) == (y.f1.toList)))) = true) ↔ x ≠ y := by
  rw [← Bool.not_and, Bool.not_eq_true']
  constructor
  · intro h e; rw [spec_eq_iff.2 e] at h; cases h
  · intro h
    cases q : (x.f0 == y.f0 && (x.f1.toList == y.f1.toList)) with
    | false => rfl
    | true => exact absurd (spec_eq_iff.1 q) h
theorem spec_dict_ev (l d : List S46) (hl : l.length ≤ 2000) (hd : d.length ≤ 1048576) (r : List Int × Bool)
    (hr : Ev (fun k => spec_PlacesPack.f k (l.map (fun x => (fI d x : Int))) (d.length : Int)) r) : Ev (fun k => spec_EncPack.l0 k l d [] 0) (plR d l r) := by
  have scan : ∀ (i : Nat) (acc : List Int) (q : List Int × Bool), i < l.length → acc.length = i → Ev (fun k => spec_EncPack.l1 k l d acc (i : Int) ((fI d (dGet l i) : Nat) : Int)) q → Ev (fun k => spec_EncPack.l0 k l d acc (i : Int)) q := by
    intro i acc q hi ha h
    refine Ev.step (fun k => by rw [spec_EncPack.l0]) (Ev.pos (by omega) ?_)
    have hle := fI_le d (dGet l i)
    have key : ∀ (m j : Nat), j + m = fI d (dGet l i) → Ev (fun k => spec_EncPack.l1 k l d acc (i : Int) (j : Int)) q := by
      intro m
      induction m with
      | zero => intro j hj; obtain rfl : j = fI d (dGet l i) := by omega
                exact h
      | succ m ih =>
        intro j hj
        refine Ev.step (fun k => by rw [spec_EncPack.l1]) ?_
        refine Ev.pos (by omega) (Ev.pos (by omega) (Ev.pos (by omega) (Ev.pos (by omega) ?_)))
        rw [show rd_T46 l (i : Int) = dGet l i from rfl, show rd_T46 d (j : Int) = dGet d j from rfl, wrap64_id (x := (j : Int) + 1) (by omega) (by omega)]
        exact Ev.pos (ne_test.2 (fI_not (by omega))) (ih (j + 1) (by omega))
    exact key _ 0 (Nat.zero_add _)
  refine try_loop (fun k acc i => spec_EncPack.l0 k l d acc i) l z46 (fun x => (fI d x : Int)) (fun x => decide (fI d x < d.length)) ([], false) r (fun i acc q hi ha hk h => ?_) (fun i acc hi ha hk => ?_) (fun _ => ?_)
  · have hk' : fI d (dGet l i) < d.length := of_decide_eq_true hk
    refine scan i acc q hi ha (Ev.step (fun k => by rw [spec_EncPack.l1]) ?_)
    refine Ev.pos (by omega) (Ev.pos (by omega) (Ev.pos (by omega) (Ev.pos (by omega) ?_)))
    rw [show rd_T46 l (i : Int) = dGet l i from rfl, show rd_T46 d ((fI d (dGet l i) : Nat) : Int) = dGet d (fI d (dGet l i)) from rfl, wrap64_id (x := (i : Int) + 1) (by omega) (by omega)]
    exact Ev.neg (fun hc => ne_test.1 hc (fI_at hk')) (Ev.neg (by omega) (Ev.pos (by omega) h))
  · have hk' : ¬ fI d (dGet l i) < d.length := of_decide_eq_false hk
    have hle := fI_le d (dGet l i)
    refine scan i acc _ hi ha (Ev.step (fun k => by rw [spec_EncPack.l1]) ?_)
    exact Ev.neg (by omega) (Ev.pos (by omega) (Ev.now _))
  · refine Ev.step (fun k => by rw [spec_EncPack.l0]) ?_
    exact Ev.neg (by omega) (Ev.bind hr (Ev.now _))
theorem bits01 {l : List S46} (h : vsOk 0 l = true) : ∀ i : Nat, i < (numsB l).length → bitsIn 1 (rd (numsB l) (i : Int)) = true := by
  intro i hi
  have := numsB_bits h (rd (numsB l) (i : Int)) (by rw [rd_eq (by simpa using hi)]; exact List.getElem_mem _)
  unfold bitsIn
  rw [decide_eq_true this.1, decide_eq_true this.2]; rfl
theorem EncPack_both (e t : Int) (l d : List S46) (hl : l.length ≤ 1048576) (hd : d.length ≤ 1048576) (hI : AllI (numsB l)) (hwl : ∀ x ∈ l, vk_ok x = true) (hwd : ∀ x ∈ d, vk_ok x = true) :
    ∃ r : List Int × Bool, Ev (fun k => spec_EncPack.f k e t l d) r ∧ Ev (fun k => impl_EncPack.f k e t l d) r ∧ r.1.length ≤ 5000000 := by
  unfold spec_EncPack.f impl_EncPack.f
  have es := spec_EncOk_ev e t
  have ei := impl_EncOk_ev e t
  have sbad : Ev (fun k => spec_EncPack.j0 k e t l d true) ([], false) := Ev.step (fun k => by rw [spec_EncPack.j0]) (by exact Ev.pos rfl (Ev.now _))
  have ibad : Ev (fun k => impl_EncPack.j0 k e t l d true) ([], false) := Ev.step (fun k => by rw [impl_EncPack.j0]) (by exact Ev.pos rfl (Ev.now _))
  cases he : encB e t with
  | false =>
    rw [he] at es ei
    exact ⟨([], false), Ev.bind es (Ev.neg (by decide) sbad), Ev.bind ei (Ev.neg (by decide) ibad), by simp⟩
  | true =>
    rw [he] at es ei
    have vs := spec_l6Vals_ev t l hl
    have vi := impl_valsOk_ev t l hl
    cases hv : vsOk t l with
    | false =>
      rw [hv] at vs vi
      exact ⟨([], false), Ev.bind es (Ev.pos rfl (Ev.bind vs sbad)), Ev.bind ei (Ev.pos rfl (Ev.bind vi ibad)), by simp⟩
    | true =>
      rw [hv] at vs vi
      have hl2 := vsOk_len hv
      have hnl : (numsB l).length = l.length := by simp [numsB]
      suffices h : ∃ r : List Int × Bool, Ev (fun k => spec_EncPack.j0 k e t l d false) r ∧ Ev (fun k => impl_EncPack.j0 k e t l d false) r ∧ r.1.length ≤ 5000000 by
        obtain ⟨r, h1, h2, h3⟩ := h
        exact ⟨r, Ev.bind es (Ev.pos rfl (Ev.bind vs h1)), Ev.bind ei (Ev.pos rfl (Ev.bind vi h2)), h3⟩
      have es0 : ∀ {r : List Int × Bool}, Ev (fun k => spec_EncPack.j0 (k + 1) e t l d false) r → Ev (fun k => spec_EncPack.j0 k e t l d false) r := fun h => Ev.step (fun k => rfl) h
      have ei0 : ∀ {r : List Int × Bool}, Ev (fun k => impl_EncPack.j0 (k + 1) e t l d false) r → Ev (fun k => impl_EncPack.j0 k e t l d false) r := fun h => Ev.step (fun k => rfl) h
      have hee : e = 0 ∨ (e = 3 ∧ t = 0) ∨ e = 5 ∨ e = 6 ∨ e = 7 ∨ e = 8 ∨ e = 9 := by unfold encB at he; have he2 := of_decide_eq_true he; omega
      by_cases e0 : e = 0
      · have hp := spec_PlainPack_ev t l hl
        have hq := impl_PlainPack_ev t l hl
        have hlen := plainR_le t l
        refine ⟨plainR t l, es0 ?_, ei0 ?_, by omega⟩
        · simp only [spec_EncPack.j0]
          exact Ev.neg (by decide) (Ev.pos e0 (Ev.bind hp (Ev.now _)))
        · simp only [impl_EncPack.j0]
          exact Ev.neg (by decide) (Ev.pos e0 (Ev.bind hq (Ev.now _)))
      have sn := spec_l16Nums_ev l hl
      have inn := impl_numsOf_ev l hl
      by_cases e3 : e = 3
      · have t0 : t = 0 := by omega
        subst t0
        obtain ⟨r, h1, h2, h3, h4⟩ := RunPack_both' (numsB l) hI (by omega) 1 (by omega)
        have h5 := h4 (by omega) (bits01 hv)
        obtain ⟨R, b⟩ := r
        dsimp only at h5 h3
        subst h5
        have wl := wbytes_length (R.length : Int) 4
        refine ⟨(wbytes (R.length : Int) 4 ++ R, true), es0 ?_, ei0 ?_, by simp; omega⟩
        · simp only [spec_EncPack.j0]
          exact Ev.neg (by decide) (Ev.neg e0 (Ev.pos e3 (Ev.bind sn (Ev.bind h1 (Ev.pos rfl (Ev.bind (spec_WordPut_ev (R.length : Int) 4 (by omega)) (Ev.pos (by dsimp only; omega) (Ev.now _))))))))
        · simp only [impl_EncPack.j0]
          exact Ev.neg (by decide) (Ev.neg e0 (Ev.neg (by omega) (Ev.neg (by omega) (Ev.neg (by omega) (Ev.neg (by omega) (Ev.neg (by omega) (Ev.bind inn (Ev.bind h2 (Ev.bind (impl_WordPut_ev (R.length : Int) 4 (by omega)) (Ev.pos (by dsimp only; omega) (Ev.now _)))))))))))
      by_cases e5 : e = 5
      · obtain ⟨r, h1, h2, h3⟩ := DeltaPack_both (numsB l) hI (by omega)
        refine ⟨r, es0 ?_, ei0 ?_, by omega⟩
        · simp only [spec_EncPack.j0]
          exact Ev.neg (by decide) (Ev.neg e0 (Ev.neg e3 (Ev.pos e5 (Ev.bind sn (Ev.bind h1 (Ev.now _))))))
        · simp only [impl_EncPack.j0]
          exact Ev.neg (by decide) (Ev.neg e0 (Ev.pos e5 (Ev.bind inn (Ev.bind h2 (Ev.now _)))))
      by_cases e6 : e = 6
      · obtain ⟨r, h1, h2, h3⟩ := LengthPack_both l hl
        refine ⟨r, es0 ?_, ei0 ?_, by omega⟩
        · simp only [spec_EncPack.j0]
          exact Ev.neg (by decide) (Ev.neg e0 (Ev.neg e3 (Ev.neg e5 (Ev.pos e6 (Ev.bind h1 (Ev.now _))))))
        · simp only [impl_EncPack.j0]
          exact Ev.neg (by decide) (Ev.neg e0 (Ev.neg e5 (Ev.pos e6 (Ev.bind h2 (Ev.now _)))))
      by_cases e7 : e = 7
      · obtain ⟨r, h1, h2, h3⟩ := FrontPack_both l hl
        refine ⟨r, es0 ?_, ei0 ?_, by omega⟩
        · simp only [spec_EncPack.j0]
          exact Ev.neg (by decide) (Ev.neg e0 (Ev.neg e3 (Ev.neg e5 (Ev.neg e6 (Ev.pos e7 (Ev.bind h1 (Ev.now _)))))))
        · simp only [impl_EncPack.j0]
          exact Ev.neg (by decide) (Ev.neg e0 (Ev.neg e5 (Ev.neg e6 (Ev.pos e7 (Ev.bind h2 (Ev.now _))))))
      by_cases e9 : e = 9
      · have h1 := spec_SplitPack_ev t l hl
        have h2 := impl_SplitPack_ev t l hl
        have h3 := splitR_length t l
        refine ⟨splitR t l, es0 ?_, ei0 ?_, by omega⟩
        · simp only [spec_EncPack.j0]
          exact Ev.neg (by decide) (Ev.neg e0 (Ev.neg e3 (Ev.neg e5 (Ev.neg e6 (Ev.neg e7 (Ev.pos e9 (Ev.bind h1 (Ev.now _))))))))
        · simp only [impl_EncPack.j0]
          exact Ev.neg (by decide) (Ev.neg e0 (Ev.neg e5 (Ev.neg e6 (Ev.neg e7 (Ev.pos e9 (Ev.bind h2 (Ev.now _)))))))
      have e8 : e = 8 := by omega
      have hpI : AllI (l.map (fun x => (fI d x : Int))) := by
        intro x hx
        obtain ⟨v, _, rfl⟩ := List.mem_map.1 hx
        have := fI_le d v
        omega
      obtain ⟨r, h1, h2, h3⟩ := PlacesPack_both (l.map (fun x => (fI d x : Int))) hpI (by simp; omega) (d.length : Int)
      refine ⟨plR d l r, es0 ?_, ei0 ?_, by unfold plR; split; omega; simp⟩
      · simp only [spec_EncPack.j0]
        exact Ev.neg (by decide) (Ev.neg e0 (Ev.neg e3 (Ev.neg e5 (Ev.neg e6 (Ev.neg e7 (Ev.neg e9 (spec_dict_ev l d hl2 hd r h1)))))))
      · simp only [impl_EncPack.j0]
        exact Ev.neg (by decide) (Ev.neg e0 (Ev.neg e5 (Ev.neg e6 (Ev.neg e7 (Ev.neg e9 (Ev.pos e8 (Ev.bind (impl_dictPack_ev l d hl2 hd hwl hwd r h2) (Ev.now _))))))))
theorem FnExactEncPack : ∀ (x0 : Int) (x1 : Int) (x2 : List (S36)) (x3 : List (S36)), ((Lit.int .i64 x0).wf = true) → ((Lit.int .i64 x1).wf = true) → (x2.length ≤ maxLen ∧ ∀ y ∈ x2, w36 y) → (x3.length ≤ maxLen ∧ ∀ y ∈ x3, w36 y) → ∃ k, laws_FnExactEncPack.f k x0 x1 x2 x3 = some true := by
  intro e t p q _ _ hp hq
  refine Ev.rounds ?_
  unfold laws_FnExactEncPack.f
  obtain ⟨r1, s1, c1, l1⟩ := szValS_ev p hp.1 hp.2 1048576 (by omega) (by omega)
  refine Ev.bind s1 ?_
  by_cases n1 : r1 < 0
  · exact Ev.pos n1 (Ev.now _)
  refine Ev.neg n1 ?_
  obtain ⟨r2, s2, c2, l2⟩ := szValS_ev q hq.1 hq.2 r1 (by omega) (by omega)
  refine Ev.bind s2 ?_
  by_cases n2 : r2 < 0
  · exact Ev.pos n2 (Ev.now _)
  refine Ev.neg n2 ?_
  have t1 := toValS_ev p (by omega)
  have t2 := toValS_ev q (by omega)
  have lp : (p.map cvVal).length = p.length := by simp
  have lq : (q.map cvVal).length = q.length := by simp
  have ok : ∀ (x : List _), (∀ y ∈ x, w36 y) → ∀ y ∈ x.map cvVal, vk_ok y = true := by
    intro x hx y hy
    obtain ⟨a, ha, rfl⟩ := List.mem_map.1 hy
    have := hx a ha
    have h2 : (cvVal a).f1.size ≤ maxLen := this.2
    simp only [vk_ok, Bool.and_eq_true]
    exact ⟨this.1, decide_eq_true h2⟩
  have okp := ok p hp.2
  have okq := ok q hq.2
  have hI : AllI (numsB (p.map cvVal)) := by
    intro x hx
    obtain ⟨v, hv, rfl⟩ := List.mem_map.1 hx
    have := okp v hv
    simp only [vk_ok, Bool.and_eq_true] at this
    exact i64_of this.1
  generalize p.map cvVal = P at *
  generalize q.map cvVal = D at *
  obtain ⟨r, es, ei, hr⟩ := EncPack_both e t P D (by omega) (by omega) hI okp okq
  have q1 := eqValS_ev P (by omega)
  have q2 := eqValS_ev D (by omega)
  have q3 := eqByteS_ev r.1 (by omega)
  obtain ⟨m1, y1, p1, k1, _⟩ := markValS_evm P 1 (by omega) (by omega)
  obtain ⟨m2, y2, p2, k2, _⟩ := markValS_evm D m1 (by omega) (by omega)
  obtain ⟨m3, y3, p3, k3, k4⟩ := markByteS_ev r.1 1 (by omega) (by omega)
  repeat' (first
    | with_reducible exact Ev.now _
    | with_reducible refine Ev.bind t1 ?_ | with_reducible refine Ev.bind t2 ?_ | with_reducible refine Ev.bind es ?_ | with_reducible refine Ev.bind ei ?_
    | with_reducible refine Ev.bind q1 ?_ | with_reducible refine Ev.bind q2 ?_ | with_reducible refine Ev.bind q3 ?_
    | with_reducible refine Ev.bind k1 ?_ | with_reducible refine Ev.bind k2 ?_ | with_reducible refine Ev.bind k3 ?_ | with_reducible refine Ev.bind k4 ?_
    | refine Ev.pos (by first | rfl | omega) ?_
    | refine Ev.neg (by first | omega | decide | simp) ?_
    | refine Ev.step (fun k => by rw [laws_FnExactEncPack.j0]) ?_
    | refine Ev.step (fun k => by rw [laws_FnExactEncPack.j1]) ?_
    | refine Ev.step (fun k => by rw [laws_FnExactEncPack.j2]) ?_)
end Go.Proofs.Ytkocikdceojnmaa.Pure
