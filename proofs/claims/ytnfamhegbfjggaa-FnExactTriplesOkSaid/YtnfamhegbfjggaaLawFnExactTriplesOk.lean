/- The row of FnExactTriplesOk, out of its pure statement and the contract of the call. No condition. -/
import Derived.Test.YtnfamhegbfjggaaRows
import Derived.Test.YtnfamhegbfjggaaPFnExactTriplesOkx11
import Derived.Test.YtnfamhegbfjggaaArgFnExactTriplesOk
import Derived.Test.YtnfamhegbfjggaaPureFnExactTriplesOk
import Derived.WalkKit
import Derived.ProofKit
import Derived.OpenShut
import Derived.ShutString
import Derived.ChangeOld
import Derived.Below
import Derived.SizedLaws
import Derived.ChangeSlices
import Derived.Carry
import Derived.WideShapes
namespace Go.Proofs.Ytnfamhegbfjggaa.fnExactTriplesOk
open Go.ChangeShapes Go.WideShapes Go.ChangeAt Go.RowKit Go.Proofs.YtnfamhegbfjggaaW.PrintWords Go.Proofs.YtnfamhegbfjggaaW.PrintLast Go.Proofs.Ytnfamhegbfjggaa.PFnExactTriplesOk Go.Proofs.Ytnfamhegbfjggaa.AFnExactTriplesOk
open Go.ChangeMaps (open_string shut_string)
set_option linter.unusedVariables false
theorem own : ownKnob Try.prog.godebug = none := by kernel_rfl
theorem laidOut : laidOutB Try.prog = true := by kernel_rfl
set_option maxRecDepth 100000 in
theorem lifted (os : Os) (started : os.Started) (H : Type) (enc : TypeId × Value → H) :
    ReturnsInHanded {} Try.checked os 12 .any (Rows.fnExactTriplesOkSpec.pre6 enc Try.prog Try.f12 Rows.fnExactTriplesOkRow.domain false) (Rows.fnExactTriplesOkSpec.post enc Try.prog Try.f12 false true false false) := by
  refine returnsInHanded_of_change_sized (C := Try.checked) own started (by kernel_rfl) Try.func12
    (ChangeSpec.witness6 (enc := enc) (C := Try.checked) false ⟨#[], #[.slice none 0 0, .int .i64 0, .slice none 0 0], []⟩ 8 (by kernel_rfl) (by kernel_rfl) (by kernel_rfl) (by kernel_rfl)) ?_
  intro W base args ds gs before hval0 hW hcnd hsz0 _
  have hval : ∀ (j : Nat) t v, Try.f12.params[j]? = some t → args[j]? = some v → Value.okWide Try.prog W .any base t v := hval0
  have hW' := hW
  obtain ⟨p, q, hA0, hV, rfl, hfz, hnd⟩ := hW
  have hA : DataW.TrodAll enc Try.prog W 0 (fun _ => true) true Try.f12.params.toList args.toList ds p := hA0
  rw [Try.params12] at hA hval
  obtain ⟨v0, vs0, d0, ds0, p0, q0, hargs, rfl, rfl, h0, r0⟩ := trodAll_cons hA
  obtain ⟨v1, vs1, d1, ds1, p1, q1, rfl, rfl, rfl, h1, r1⟩ := trodAll_cons r0
  obtain ⟨v2, vs2, d2, ds2, p2, q2, rfl, rfl, rfl, h2, r2⟩ := trodAll_cons r1
  obtain ⟨rfl, rfl, rfl⟩ := trodAll_nil r2
  obtain rfl : args = #[v0, v1, v2] := by cases args; simp_all
  obtain ⟨rfl, rfl⟩ := trodVars_none hV
  have k0_ := h0
  have lt0 : ∀ x ∈ p0, x.block < W.heap.size := by obtain ⟨m, hm⟩ := k0_; exact DataW.trod_lt m _ _ _ hm
  obtain ⟨A0, len0, cap0, rfl⟩ := okWide_slice Try.underlying39 (hval 0 39 v0 rfl rfl)
  obtain ⟨l0, hK0, y0⟩ : ∃ l : List (S122), (Kd.slice 122 k122).K W l [.slice A0 len0 cap0] ∧ (l.length ≤ maxLen ∧ ∀ y ∈ l, w122 y) := by
    obtain ⟨fuel, hf⟩ := h0
    exact AFnExactTriplesOk.arg0 _ enc W 0 _ true fuel _ _ hf
  obtain ⟨A0_, c0, he0, hc0, hr0⟩ := hK0
  obtain ⟨rfl, rfl, rfl⟩ : A0 = A0_ ∧ len0 = l0.length ∧ cap0 = c0 := by simpa using he0
  obtain ⟨a1, rfl, rfl, rfl, y1⟩ := open_int Try.underlying3 (hval 1 3 v1 rfl rfl) h1
  have k2_ := h2
  have lt2 : ∀ x ∈ p2, x.block < W.heap.size := by obtain ⟨m, hm⟩ := k2_; exact DataW.trod_lt m _ _ _ hm
  obtain ⟨A2, len2, cap2, rfl⟩ := okWide_slice Try.underlying95 (hval 2 95 v2 rfl rfl)
  obtain ⟨l2, hK2, y2⟩ : ∃ l : List (S157), (Kd.slice 157 k157).K W l [.slice A2 len2 cap2] ∧ (l.length ≤ maxLen ∧ ∀ y ∈ l, w157 y) := by
    obtain ⟨fuel, hf⟩ := h2
    exact AFnExactTriplesOk.arg2 _ enc W 0 _ true fuel _ _ hf
  obtain ⟨A2_, c2, he2, hc2, hr2⟩ := hK2
  obtain ⟨rfl, rfl, rfl⟩ : A2 = A2_ ∧ len2 = l2.length ∧ cap2 = c2 := by simpa using he2
  clear hA0 hval0 hsz0
  obtain ⟨k, hk⟩ := Pure.FnExactTriplesOk l0 a1 l2 y0 y1 y2
  refine (laws_FnExactTriplesOk.calls k A0 cap0 l0 a1 A2 cap2 l2 true W hr0 hc0 hr2 hc2 hk).mono fun e W' ⟨he, bel0⟩ => ?_
  have bel : Below W.heap.size W W' := bel0
  subst he
  exact ⟨_, rfl, _, _, _, [], _, [], hW', trodAll_mk1 (shut_bool Try.underlying4 _), (trodAll_cons_mk (Below.trod laidOut (by kernel_rfl) (of_decide_eq_true (by kernel_rfl)) k0_ bel lt0) (trodAll_cons_mk (shut_int Try.underlying3 y1) (trodAll_cons_mk (Below.trod laidOut (by kernel_rfl) (of_decide_eq_true (by kernel_rfl)) k2_ bel lt2) trodAll_mk0))), rfl, bel.frame _, fun h => by cases h⟩
theorem over : Rows.fnExactTriplesOkRow.holds Try.pinned (OpenSpec.ofChange Rows.fnExactTriplesOkSpec) :=
  OpenClaim.holds_of_wide 12 Try.f12 rfl rfl rfl rfl rfl rfl rfl ⟨rfl, rfl, rfl, rfl, rfl⟩ rfl rfl rfl rfl rfl (by kernel_rfl) Try.func12 (by kernel_rfl)
    (of_decide_eq_true (by kernel_rfl)) (by unfold Func.isWrapper; first | (rw [if_pos (by decide +kernel)]; kernel_rfl) | (rw [if_neg (by decide +kernel)]; exact ⟨rfl, rfl⟩))
    (fun os started H enc _ => lifted os started H enc)
theorem proved : Rows.FnExactTriplesOkSaid := over
#print axioms proved
end Go.Proofs.Ytnfamhegbfjggaa.fnExactTriplesOk
namespace Go.Proofs.Ytnfamhegbfjggaa
/-- The row, under a short name, for the claim. -/
theorem fnExactTriplesOk_holds : Rows.FnExactTriplesOkSaid := fnExactTriplesOk.proved
end Go.Proofs.Ytnfamhegbfjggaa
