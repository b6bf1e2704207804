/- The row of FnExactStatsTree, out of its pure statement and the contract of the call. No condition. -/
import Derived.Test.YtnfamhegbfjggaaRows
import Derived.Test.YtnfamhegbfjggaaPFnExactStatsTreex13
import Derived.Test.YtnfamhegbfjggaaArgFnExactStatsTree
import Derived.Test.YtnfamhegbfjggaaPureFnExactStatsTree
import Derived.WalkKit
import Derived.ProofKit
import Derived.OpenShut
import Derived.ShutString
import Derived.ChangeOld
import Derived.Below
import Derived.SizedLaws
import Derived.ChangeSlices
import Derived.Carry
import Derived.WideShapes
namespace Go.Proofs.Ytnfamhegbfjggaa.fnExactStatsTree
open Go.ChangeShapes Go.WideShapes Go.ChangeAt Go.RowKit Go.Proofs.YtnfamhegbfjggaaW.PrintWords Go.Proofs.YtnfamhegbfjggaaW.PrintLast Go.Proofs.Ytnfamhegbfjggaa.PFnExactStatsTree Go.Proofs.Ytnfamhegbfjggaa.AFnExactStatsTree
open Go.ChangeMaps (open_string shut_string)
set_option linter.unusedVariables false
theorem own : ownKnob Try.prog.godebug = none := by kernel_rfl
theorem laidOut : laidOutB Try.prog = true := by kernel_rfl
set_option maxRecDepth 100000 in
theorem lifted (os : Os) (started : os.Started) (H : Type) (enc : TypeId × Value → H) :
    ReturnsInHanded {} Try.checked os 11 .any (Rows.fnExactStatsTreeSpec.pre6 enc Try.prog Try.f11 Rows.fnExactStatsTreeRow.domain false) (Rows.fnExactStatsTreeSpec.post enc Try.prog Try.f11 false true false false) := by
  refine returnsInHanded_of_change_sized (C := Try.checked) own started (by kernel_rfl) Try.func11
    (ChangeSpec.witness6 (enc := enc) (C := Try.checked) false ⟨#[], #[.agg #[.int .i64 0, .int .i64 0, .int .i64 0], .agg #[.int .i64 0, .bool false, .int .i64 0, .string ByteArray.empty, .int .i64 0, .string ByteArray.empty]], []⟩ 8 (by kernel_rfl) (by kernel_rfl) (by kernel_rfl) (by kernel_rfl)) ?_
  intro W base args ds gs before hval0 hW hcnd hsz0 _
  have hval : ∀ (j : Nat) t v, Try.f11.params[j]? = some t → args[j]? = some v → Value.okWide Try.prog W .any base t v := hval0
  have hW' := hW
  obtain ⟨p, q, hA0, hV, rfl, hfz, hnd⟩ := hW
  have hA : DataW.TrodAll enc Try.prog W 0 (fun _ => true) true Try.f11.params.toList args.toList ds p := hA0
  rw [Try.params11] at hA hval
  obtain ⟨v0, vs0, d0, ds0, p0, q0, hargs, rfl, rfl, h0, r0⟩ := trodAll_cons hA
  obtain ⟨v1, vs1, d1, ds1, p1, q1, rfl, rfl, rfl, h1, r1⟩ := trodAll_cons r0
  obtain ⟨rfl, rfl, rfl⟩ := trodAll_nil r1
  obtain rfl : args = #[v0, v1] := by cases args; simp_all
  obtain ⟨rfl, rfl⟩ := trodVars_none hV
  have k0_ := h0
  have lt0 : ∀ x ∈ p0, x.block < W.heap.size := by obtain ⟨m, hm⟩ := k0_; exact DataW.trod_lt m _ _ _ hm
  obtain ⟨cs0, rfl, hz0⟩ := okWide_struct Try.underlying79 (hval 0 79 v0 rfl rfl)
  obtain ⟨x0, hK0, y0⟩ : ∃ x : S79, k79.K W x cs0.toList ∧ w79 x := by
    obtain ⟨fuel, hf⟩ := h0
    exact AFnExactStatsTree.arg0 _ enc W 0 _ true fuel _ _ hf
  have e0 := k79_open hK0
  obtain rfl : cs0 = #[.int .i64 x0.f0, .int .i64 x0.f1, .int .i64 x0.f2] := by rw [← Array.toList_inj]; exact e0
  have k1_ := h1
  have lt1 : ∀ x ∈ p1, x.block < W.heap.size := by obtain ⟨m, hm⟩ := k1_; exact DataW.trod_lt m _ _ _ hm
  obtain ⟨cs1, rfl, hz1⟩ := okWide_struct Try.underlying83 (hval 1 83 v1 rfl rfl)
  obtain ⟨x1, hK1, y1⟩ : ∃ x : S83, k83.K W x cs1.toList ∧ w83 x := by
    obtain ⟨fuel, hf⟩ := h1
    exact AFnExactStatsTree.arg1 _ enc W 0 _ true fuel _ _ hf
  have e1 := k83_open hK1
  obtain rfl : cs1 = #[.int .i64 x1.f0, .bool x1.f1, .int .i64 x1.f2.f0, .string x1.f2.f1, .int .i64 x1.f3.f0, .string x1.f3.f1] := by rw [← Array.toList_inj]; exact e1
  clear hA0 hval0 hsz0
  obtain ⟨k, hk⟩ := Pure.FnExactStatsTree x0 x1 y0 y1
  refine (laws_FnExactStatsTree.calls k x0.f0 x0.f1 x0.f2 x1.f0 x1.f1 x1.f2.f0 x1.f2.f1 x1.f3.f0 x1.f3.f1 true W  hk).mono fun e W' ⟨he, bel0⟩ => ?_
  have bel : Below W.heap.size W W' := bel0
  subst he
  exact ⟨_, rfl, _, _, _, [], _, [], hW', trodAll_mk1 (shut_bool Try.underlying4 _), (trodAll_cons_mk (Below.trod laidOut (by kernel_rfl) (of_decide_eq_true (by kernel_rfl)) k0_ bel lt0) (trodAll_cons_mk (Below.trod laidOut (by kernel_rfl) (of_decide_eq_true (by kernel_rfl)) k1_ bel lt1) trodAll_mk0)), rfl, bel.frame _, fun h => by cases h⟩
theorem over : Rows.fnExactStatsTreeRow.holds Try.pinned (OpenSpec.ofChange Rows.fnExactStatsTreeSpec) :=
  OpenClaim.holds_of_wide 11 Try.f11 rfl rfl rfl rfl rfl rfl rfl ⟨rfl, rfl, rfl, rfl, rfl⟩ rfl rfl rfl rfl rfl (by kernel_rfl) Try.func11 (by kernel_rfl)
    (of_decide_eq_true (by kernel_rfl)) (by unfold Func.isWrapper; first | (rw [if_pos (by decide +kernel)]; kernel_rfl) | (rw [if_neg (by decide +kernel)]; exact ⟨rfl, rfl⟩))
    (fun os started H enc _ => lifted os started H enc)
theorem proved : Rows.FnExactStatsTreeSaid := over
#print axioms proved
end Go.Proofs.Ytnfamhegbfjggaa.fnExactStatsTree
namespace Go.Proofs.Ytnfamhegbfjggaa
/-- The row, under a short name, for the claim. -/
theorem fnExactStatsTree_holds : Rows.FnExactStatsTreeSaid := fnExactStatsTree.proved
end Go.Proofs.Ytnfamhegbfjggaa
