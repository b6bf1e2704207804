/- The pure statement of FnExactLeafOk: the printed functions answer as the law says, for all arguments. No condition. -/
import Derived.Test.YtjbilohbkhogkaaCore
import Derived.Test.YtjbilohbkhogkaaPFnExactLeafOkx
import Derived.Test.YtjbilohbkhogkaaArgFnExactLeafOk
namespace Go.Proofs.Ytjbilohbkhogkaa.Pure
open Go.RowKit Go.Proofs.Ytjbilohbkhogkaa.PFnExactLeafOk Go.Proofs.Ytjbilohbkhogkaa.Core Go.Proofs.YtjbilohbkhogkaaW.PrintWords Go.Proofs.YtjbilohbkhogkaaW.PrintLast Go.Proofs.YtjbilohbkhogkaaW.PrintMore Go.Proofs.Ytjbilohbkhogkaa.AFnExactLeafOk
set_option linter.unusedVariables false
set_option linter.unusedSimpArgs false
def tOk (t : Int) : Bool := decide (t = 0 ∨ t = 1 ∨ t = 2 ∨ t = 5 ∨ t = 6)
theorem l5Type_some (t : Int) : spec_l5Type.f t = some (tOk t) := by
  unfold spec_l5Type.f
  (repeat' split) <;> simp_all [tOk]
theorem l1In_same (x lo hi : Int) : (if x ≥ lo then some (decide (x ≤ hi)) else some false) = some (decide (lo ≤ x ∧ x ≤ hi)) := by
  by_cases h : x ≥ lo
  · rw [if_pos h]; congr 1; simp; omega
  · rw [if_neg h]; congr 1; symm; simp; omega
theorem within_some (x lo hi : Int) : impl_within.f x lo hi = some (decide (lo ≤ x ∧ x ≤ hi)) := by unfold impl_within.f; exact l1In_same x lo hi
theorem typeOk_some (t : Int) : impl_TypeOk.f t = some (tOk t) := by
  unfold impl_TypeOk.f
  rw [within_some]
  simp only [Option.bind_some]
  by_cases h : 0 ≤ t ∧ t ≤ 2
  · rw [if_pos (by simpa using h)]
    have : t = 0 ∨ t = 1 ∨ t = 2 := by omega
    rcases this with rfl | rfl | rfl <;> rfl
  · rw [if_neg (by simpa using h)]
    by_cases h5 : t = 5
    · subst h5; rfl
    · rw [if_neg h5]
      by_cases h6 : t = 6
      · subst h6; rfl
      · have h0 : t ≠ 0 := by omega
        have h1 : t ≠ 1 := by omega
        have h2 : t ≠ 2 := by omega
        simp [tOk, h0, h1, h2, h5, h6]
theorem FnExactLeafOk : ∀ (x0 : S27), (w27 x0) → laws_FnExactLeafOk.f x0.f0 x0.f1 x0.f2 = some true := by
  intro x _
  obtain ⟨a, b, c⟩ := x
  unfold laws_FnExactLeafOk.f laws_toLeaf.f spec_LeafOk.f impl_LeafOk.f
  have e : ∀ x lo hi, spec_l1In.f x lo hi = some (decide (lo ≤ x ∧ x ≤ hi)) := fun x lo hi => by unfold spec_l1In.f; exact l1In_same x lo hi
  simp only [Option.bind_some, l5Type_some, typeOk_some, within_some, e]
  have e2 : (decide (0 ≤ b ∧ b ≤ 6) = true ∧ decide (b ≤ c ∧ c ≤ 6) = true) ↔ (decide (0 ≤ c ∧ c ≤ 6) = true ∧ decide (0 ≤ b ∧ b ≤ c) = true) := by
    simp; omega
  by_cases ht : tOk a = true
  · rw [if_pos ht, if_pos ht]
    by_cases h1 : decide (0 ≤ b ∧ b ≤ 6) = true <;> by_cases h2 : decide (b ≤ c ∧ c ≤ 6) = true <;> by_cases h3 : decide (0 ≤ c ∧ c ≤ 6) = true <;> by_cases h4 : decide (0 ≤ b ∧ b ≤ c) = true <;> simp only [h1, h2, h3, h4, if_true, if_false, Option.bind_some, Bool.false_eq_true, Bool.not_eq_true] at e2 ⊢ <;> simp_all
  · rw [if_neg ht, if_neg ht]; simp
end Go.Proofs.Ytjbilohbkhogkaa.Pure
