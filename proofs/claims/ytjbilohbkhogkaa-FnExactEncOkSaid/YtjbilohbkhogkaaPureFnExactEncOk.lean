/- The pure statement of FnExactEncOk: the printed functions answer as the law says, for all arguments. No condition. -/
import Derived.Test.YtjbilohbkhogkaaCore
import Derived.Test.YtjbilohbkhogkaaPFnExactEncOkx
namespace Go.Proofs.Ytjbilohbkhogkaa.Pure
open Go.RowKit Go.Proofs.Ytjbilohbkhogkaa.PFnExactEncOk Go.Proofs.Ytjbilohbkhogkaa.Core Go.Proofs.YtjbilohbkhogkaaW.PrintWords Go.Proofs.YtjbilohbkhogkaaW.PrintLast Go.Proofs.YtjbilohbkhogkaaW.PrintMore
set_option linter.unusedVariables false
set_option linter.unusedSimpArgs false
def tOk (t : Int) : Bool := decide (t = 0 ∨ t = 1 ∨ t = 2 ∨ t = 5 ∨ t = 6)
theorem l5Type_some (t : Int) : spec_l5Type.f t = some (tOk t) := by
  unfold spec_l5Type.f
  (repeat' split) <;> simp_all [tOk]
theorem l1In_same (x lo hi : Int) : (if x ≥ lo then some (decide (x ≤ hi)) else some false) = some (decide (lo ≤ x ∧ x ≤ hi)) := by
  by_cases h : x ≥ lo
  · rw [if_pos h]; congr 1; simp; omega
  · rw [if_neg h]; congr 1; symm; simp; omega
theorem within_some (x lo hi : Int) : impl_within.f x lo hi = some (decide (lo ≤ x ∧ x ≤ hi)) := by unfold impl_within.f; exact l1In_same x lo hi
theorem typeOk_some (t : Int) : impl_TypeOk.f t = some (tOk t) := by
  unfold impl_TypeOk.f
  rw [within_some]
  simp only [Option.bind_some]
  by_cases h : 0 ≤ t ∧ t ≤ 2
  · rw [if_pos (by simpa using h)]
    have : t = 0 ∨ t = 1 ∨ t = 2 := by omega
    rcases this with rfl | rfl | rfl <;> rfl
  · rw [if_neg (by simpa using h)]
    by_cases h5 : t = 5
    · subst h5; rfl
    · rw [if_neg h5]
      by_cases h6 : t = 6
      · subst h6; rfl
      · have h0 : t ≠ 0 := by omega
        have h1 : t ≠ 1 := by omega
        have h2 : t ≠ 2 := by omega
        simp [tOk, h0, h1, h2, h5, h6]
def wideB (t : Int) : Int := if t = 1 then 4 else if t = 2 then 8 else if t = 5 then 8 else 0
theorem wideOf_some (t : Int) : impl_wideOf.f t = some (wideB t) := by unfold impl_wideOf.f wideB; (repeat' split) <;> rfl
theorem splitWide_some (t : Int) : spec_SplitWide.f t = some (wideB t) := wideOf_some t
def encB (e t : Int) : Bool := decide (tOk t = true ∧ (e = 0 ∨ e = 8 ∨ (e = 3 ∧ t = 0) ∨ (e = 5 ∧ (t = 1 ∨ t = 2)) ∨ ((e = 6 ∨ e = 7) ∧ t = 6) ∨ (e = 9 ∧ (t = 1 ∨ t = 2 ∨ t = 5))))
theorem wide_pos (t : Int) : decide (wideB t > 0) = decide (t = 1 ∨ t = 2 ∨ t = 5) := by
  unfold wideB
  by_cases h1 : t = 1
  · simp [h1]
  by_cases h2 : t = 2
  · simp [h2]
  by_cases h5 : t = 5
  · simp [h5]
  · simp [h1, h2, h5]
theorem spec_EncOk_ev (e t : Int) : Ev (fun k => spec_EncOk.f k e t) (encB e t) := by
  refine ⟨3, fun k hk => ?_⟩
  obtain ⟨m, rfl⟩ : ∃ m, k = m + 3 := ⟨k - 3, by omega⟩
  simp only [spec_EncOk.f, spec_EncOk.j0, spec_EncOk.j1, l5Type_some, splitWide_some, wide_pos, Option.bind_some]
  by_cases ht : tOk t = true
  · rw [if_pos ht]
    by_cases h0 : e = 0
    · subst h0; simp [encB, ht]
    by_cases h8 : e = 8
    · subst h8; simp [encB, ht]
    by_cases h3 : e = 3
    · subst h3; simp [encB, ht]; rfl
    by_cases h5 : e = 5
    · subst h5; by_cases h1 : t = 1 <;> simp [encB, ht, h1] <;> rfl
    by_cases h6 : e = 6
    · subst h6; simp [encB, ht]; rfl
    by_cases h7 : e = 7
    · subst h7; simp [encB, ht]; rfl
    by_cases h9 : e = 9
    · subst h9; simp [encB, ht]
    · simp [encB, h0, h8, h3, h5, h6, h7, h9]
  · rw [if_neg ht]; simp [encB, ht]
theorem impl_EncOk_ev (e t : Int) : Ev (fun k => impl_EncOk.f k e t) (encB e t) := by
  refine ⟨3, fun k hk => ?_⟩
  obtain ⟨m, rfl⟩ : ∃ m, k = m + 3 := ⟨k - 3, by omega⟩
  simp only [impl_EncOk.f, impl_EncOk.j0, typeOk_some, wideOf_some, wide_pos, Option.bind_some]
  by_cases h0 : e = 0
  · subst h0; simp [encB]
  by_cases h8 : e = 8
  · subst h8; simp [encB]
  by_cases h3 : e = 3
  · subst h3; simp [encB, tOk]; by_cases h : t = 0 <;> simp [h]
  by_cases h5 : e = 5
  · subst h5; by_cases h1 : t = 1 <;> by_cases h2 : t = 2 <;> simp [encB, tOk, h1, h2]
  by_cases h6 : e = 6
  · subst h6; by_cases h : t = 6 <;> simp [encB, tOk, h]
  by_cases h7 : e = 7
  · subst h7; by_cases h : t = 6 <;> simp [encB, tOk, h]
  by_cases h9 : e = 9
  · subst h9; by_cases h1 : t = 1 <;> by_cases h2 : t = 2 <;> by_cases h5 : t = 5 <;> simp [encB, tOk, h1, h2, h5]
  · simp [encB, h0, h8, h3, h5, h6, h7, h9]
theorem FnExactEncOk : laws_FnExactEncOk.Pure := by
  intro e t _ _
  refine Ev.rounds ?_
  unfold laws_FnExactEncOk.f
  exact Ev.bind (spec_EncOk_ev e t) (Ev.bind (impl_EncOk_ev e t) (Ev.neg (by simp) (Ev.now _)))
end Go.Proofs.Ytjbilohbkhogkaa.Pure
