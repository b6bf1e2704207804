/- The row of FnExactPredMay, out of its pure statement and the contract of the call. No condition. -/
import Derived.Test.YtlioghbcomdghaaRows
import Derived.Test.YtlioghbcomdghaaPFnExactPredMayx13
import Derived.Test.YtlioghbcomdghaaArgFnExactPredMay
import Derived.Test.YtlioghbcomdghaaPureFnExactPredMay
import Derived.WalkKit
import Derived.ProofKit
import Derived.OpenShut
import Derived.ShutString
import Derived.ChangeOld
import Derived.Below
import Derived.SizedLaws
import Derived.ChangeSlices
import Derived.Carry
import Derived.WideShapes
namespace Go.Proofs.Ytlioghbcomdghaa.fnExactPredMay
open Go.ChangeShapes Go.WideShapes Go.ChangeAt Go.RowKit Go.Proofs.YtlioghbcomdghaaW.PrintWords Go.Proofs.YtlioghbcomdghaaW.PrintLast Go.Proofs.Ytlioghbcomdghaa.PFnExactPredMay Go.Proofs.Ytlioghbcomdghaa.AFnExactPredMay
open Go.ChangeMaps (open_string shut_string)
set_option linter.unusedVariables false
theorem own : ownKnob Try.prog.godebug = none := by kernel_rfl
theorem laidOut : laidOutB Try.prog = true := by kernel_rfl
set_option maxRecDepth 100000 in
theorem lifted (os : Os) (started : os.Started) (H : Type) (enc : TypeId × Value → H) :
    ReturnsInHanded {} Try.checked os 3 .any (Rows.fnExactPredMaySpec.pre6 enc Try.prog Try.f3 Rows.fnExactPredMayRow.domain false) (Rows.fnExactPredMaySpec.post enc Try.prog Try.f3 false true false false) := by
  refine returnsInHanded_of_change_sized (C := Try.checked) own started (by kernel_rfl) Try.func3
    (ChangeSpec.witness6 (enc := enc) (C := Try.checked) false ⟨#[], #[.slice none 0 0, .slice none 0 0, .slice none 0 0], []⟩ 8 (by kernel_rfl) (by kernel_rfl) (by kernel_rfl) (by kernel_rfl)) ?_
  intro W base args ds gs before hval0 hW hcnd hsz0 _
  have hval : ∀ (j : Nat) t v, Try.f3.params[j]? = some t → args[j]? = some v → Value.okWide Try.prog W .any base t v := hval0
  have hW' := hW
  obtain ⟨p, q, hA0, hV, rfl, hfz, hnd⟩ := hW
  have hA : DataW.TrodAll enc Try.prog W 0 (fun _ => true) true Try.f3.params.toList args.toList ds p := hA0
  rw [Try.params3] at hA hval
  obtain ⟨v0, vs0, d0, ds0, p0, q0, hargs, rfl, rfl, h0, r0⟩ := trodAll_cons hA
  obtain ⟨v1, vs1, d1, ds1, p1, q1, rfl, rfl, rfl, h1, r1⟩ := trodAll_cons r0
  obtain ⟨v2, vs2, d2, ds2, p2, q2, rfl, rfl, rfl, h2, r2⟩ := trodAll_cons r1
  obtain ⟨rfl, rfl, rfl⟩ := trodAll_nil r2
  obtain rfl : args = #[v0, v1, v2] := by cases args; simp_all
  obtain ⟨rfl, rfl⟩ := trodVars_none hV
  have k0_ := h0
  have lt0 : ∀ x ∈ p0, x.block < W.heap.size := by obtain ⟨m, hm⟩ := k0_; exact DataW.trod_lt m _ _ _ hm
  obtain ⟨A0, len0, cap0, rfl⟩ := okWide_slice Try.underlying22 (hval 0 22 v0 rfl rfl)
  obtain ⟨l0, hK0, y0⟩ : ∃ l : List (S42), (Kd.slice 42 k42).K W l [.slice A0 len0 cap0] ∧ (l.length ≤ maxLen ∧ ∀ y ∈ l, w42 y) := by
    obtain ⟨fuel, hf⟩ := h0
    exact AFnExactPredMay.arg0 _ enc W 0 _ true fuel _ _ hf
  obtain ⟨A0_, c0, he0, hc0, hr0⟩ := hK0
  obtain ⟨rfl, rfl, rfl⟩ : A0 = A0_ ∧ len0 = l0.length ∧ cap0 = c0 := by simpa using he0
  have k1_ := h1
  have lt1 : ∀ x ∈ p1, x.block < W.heap.size := by obtain ⟨m, hm⟩ := k1_; exact DataW.trod_lt m _ _ _ hm
  obtain ⟨A1, len1, cap1, rfl⟩ := okWide_slice Try.underlying23 (hval 1 23 v1 rfl rfl)
  obtain ⟨l1, hK1, y1⟩ : ∃ l : List (S47), (Kd.slice 47 k47).K W l [.slice A1 len1 cap1] ∧ (l.length ≤ maxLen ∧ ∀ y ∈ l, w47 y) := by
    obtain ⟨fuel, hf⟩ := h1
    exact AFnExactPredMay.arg1 _ enc W 0 _ true fuel _ _ hf
  obtain ⟨A1_, c1, he1, hc1, hr1⟩ := hK1
  obtain ⟨rfl, rfl, rfl⟩ : A1 = A1_ ∧ len1 = l1.length ∧ cap1 = c1 := by simpa using he1
  have k2_ := h2
  have lt2 : ∀ x ∈ p2, x.block < W.heap.size := by obtain ⟨m, hm⟩ := k2_; exact DataW.trod_lt m _ _ _ hm
  obtain ⟨A2, len2, cap2, rfl⟩ := okWide_slice Try.underlying24 (hval 2 24 v2 rfl rfl)
  obtain ⟨l2, hK2, y2⟩ : ∃ l : List (S52), (Kd.slice 52 k52).K W l [.slice A2 len2 cap2] ∧ (l.length ≤ maxLen ∧ ∀ y ∈ l, w52 y) := by
    obtain ⟨fuel, hf⟩ := h2
    exact AFnExactPredMay.arg2 _ enc W 0 _ true fuel _ _ hf
  obtain ⟨A2_, c2, he2, hc2, hr2⟩ := hK2
  obtain ⟨rfl, rfl, rfl⟩ : A2 = A2_ ∧ len2 = l2.length ∧ cap2 = c2 := by simpa using he2
  clear hA0 hval0 hsz0
  obtain ⟨k, hk⟩ := Pure.FnExactPredMay l0 l1 l2 y0 y1 y2
  refine (laws_FnExactPredMay.calls k A0 cap0 l0 A1 cap1 l1 A2 cap2 l2 true W hr0 hc0 hr1 hc1 hr2 hc2 hk).mono fun e W' ⟨he, bel0⟩ => ?_
  have bel : Below W.heap.size W W' := bel0
  subst he
  exact ⟨_, rfl, _, _, _, [], _, [], hW', trodAll_mk1 (shut_bool Try.underlying4 _), (trodAll_cons_mk (Below.trod laidOut (by kernel_rfl) (of_decide_eq_true (by kernel_rfl)) k0_ bel lt0) (trodAll_cons_mk (Below.trod laidOut (by kernel_rfl) (of_decide_eq_true (by kernel_rfl)) k1_ bel lt1) (trodAll_cons_mk (Below.trod laidOut (by kernel_rfl) (of_decide_eq_true (by kernel_rfl)) k2_ bel lt2) trodAll_mk0))), rfl, bel.frame _, fun h => by cases h⟩
theorem over : Rows.fnExactPredMayRow.holds Try.pinned (OpenSpec.ofChange Rows.fnExactPredMaySpec) :=
  OpenClaim.holds_of_wide 3 Try.f3 rfl rfl rfl rfl rfl rfl rfl ⟨rfl, rfl, rfl, rfl, rfl⟩ rfl rfl rfl rfl rfl (by kernel_rfl) Try.func3 (by kernel_rfl)
    (of_decide_eq_true (by kernel_rfl)) (by unfold Func.isWrapper; first | (rw [if_pos (by decide +kernel)]; kernel_rfl) | (rw [if_neg (by decide +kernel)]; exact ⟨rfl, rfl⟩))
    (fun os started H enc _ => lifted os started H enc)
theorem proved : Rows.FnExactPredMaySaid := over
#print axioms proved
end Go.Proofs.Ytlioghbcomdghaa.fnExactPredMay
namespace Go.Proofs.Ytlioghbcomdghaa
/-- The row, under a short name, for the claim. -/
theorem fnExactPredMay_holds : Rows.FnExactPredMaySaid := fnExactPredMay.proved
end Go.Proofs.Ytlioghbcomdghaa
