/- The row of FnExactMetaPack, out of its pure statement and the contract of the call. No condition. -/
import Derived.Test.YtjdapaocdkcgdaaRows
import Derived.Test.YtjdapaocdkcgdaaPFnExactMetaPackx21
import Derived.Test.YtjdapaocdkcgdaaArgFnExactMetaPack
import Derived.Test.YtjdapaocdkcgdaaPureFnExactMetaPack
import Derived.WalkKit
import Derived.ProofKit
import Derived.OpenShut
import Derived.ShutString
import Derived.ChangeOld
import Derived.Below
import Derived.SizedLaws
import Derived.ChangeSlices
import Derived.Carry
import Derived.WideShapes
namespace Go.Proofs.Ytjdapaocdkcgdaa.fnExactMetaPack
open Go.ChangeShapes Go.WideShapes Go.ChangeAt Go.RowKit Go.Proofs.YtjdapaocdkcgdaaW.PrintWords Go.Proofs.YtjdapaocdkcgdaaW.PrintLast Go.Proofs.Ytjdapaocdkcgdaa.PFnExactMetaPack Go.Proofs.Ytjdapaocdkcgdaa.AFnExactMetaPack
open Go.ChangeMaps (open_string shut_string)
set_option linter.unusedVariables false
theorem own : ownKnob Try.prog.godebug = none := by kernel_rfl
theorem laidOut : laidOutB Try.prog = true := by kernel_rfl
set_option maxRecDepth 100000 in
theorem lifted (os : Os) (started : os.Started) (H : Type) (enc : TypeId × Value → H) :
    ReturnsInHanded {} Try.checked os 4 .any (Rows.fnExactMetaPackSpec.pre6 enc Try.prog Try.f4 Rows.fnExactMetaPackRow.domain false) (Rows.fnExactMetaPackSpec.post enc Try.prog Try.f4 false true false false) := by
  refine returnsInHanded_of_change_sized (C := Try.checked) own started (by kernel_rfl) Try.func4
    (ChangeSpec.witness6 (enc := enc) (C := Try.checked) false ⟨#[], #[.agg #[.slice none 0 0, .int .i64 0, .slice none 0 0]], []⟩ 8 (by kernel_rfl) (by kernel_rfl) (by kernel_rfl) (by kernel_rfl)) ?_
  intro W base args ds gs before hval0 hW hcnd hsz0 _
  have hval : ∀ (j : Nat) t v, Try.f4.params[j]? = some t → args[j]? = some v → Value.okWide Try.prog W .any base t v := hval0
  have hW' := hW
  obtain ⟨p, q, hA0, hV, rfl, hfz, hnd⟩ := hW
  have hA : DataW.TrodAll enc Try.prog W 0 (fun _ => true) true Try.f4.params.toList args.toList ds p := hA0
  rw [Try.params4] at hA hval
  obtain ⟨v0, vs0, d0, ds0, p0, q0, hargs, rfl, rfl, h0, r0⟩ := trodAll_cons hA
  obtain ⟨rfl, rfl, rfl⟩ := trodAll_nil r0
  obtain rfl : args = #[v0] := by cases args; simp_all
  obtain ⟨rfl, rfl⟩ := trodVars_none hV
  have k0_ := h0
  have lt0 : ∀ x ∈ p0, x.block < W.heap.size := by obtain ⟨m, hm⟩ := k0_; exact DataW.trod_lt m _ _ _ hm
  obtain ⟨cs0, rfl, hz0⟩ := okWide_struct Try.underlying25 (hval 0 25 v0 rfl rfl)
  obtain ⟨x0, hK0, y0⟩ : ∃ x : S25, k25.K W x cs0.toList ∧ w25 x := by
    obtain ⟨fuel, hf⟩ := h0
    exact AFnExactMetaPack.arg0 _ enc W 0 _ true fuel _ _ hf
  obtain ⟨A0_0, c0_0, A0_2, c0_2, e0, hc0_0, hr0_0, hc0_2, hr0_2⟩ := k25_open hK0
  obtain rfl : cs0 = #[.slice A0_0 x0.f0.length c0_0, .int .i64 x0.f1, .slice A0_2 x0.f2.length c0_2] := by rw [← Array.toList_inj]; exact e0
  clear hA0 hval0 hsz0
  obtain ⟨k, hk⟩ := Pure.FnExactMetaPack x0 y0
  refine (laws_FnExactMetaPack.calls k A0_0 c0_0 x0.f0 x0.f1 A0_2 c0_2 x0.f2 true W hr0_0 hc0_0 hr0_2 hc0_2 hk).mono fun e W' ⟨he, bel0⟩ => ?_
  have bel : Below W.heap.size W W' := bel0
  subst he
  exact ⟨_, rfl, _, _, _, [], _, [], hW', trodAll_mk1 (shut_bool Try.underlying4 _), (trodAll_cons_mk (Below.trod laidOut (by kernel_rfl) (of_decide_eq_true (by kernel_rfl)) k0_ bel lt0) trodAll_mk0), rfl, bel.frame _, fun h => by cases h⟩
theorem over : Rows.fnExactMetaPackRow.holds Try.pinned (OpenSpec.ofChange Rows.fnExactMetaPackSpec) :=
  OpenClaim.holds_of_wide 4 Try.f4 rfl rfl rfl rfl rfl rfl rfl ⟨rfl, rfl, rfl, rfl, rfl⟩ rfl rfl rfl rfl rfl (by kernel_rfl) Try.func4 (by kernel_rfl)
    (of_decide_eq_true (by kernel_rfl)) (by unfold Func.isWrapper; first | (rw [if_pos (by decide +kernel)]; kernel_rfl) | (rw [if_neg (by decide +kernel)]; exact ⟨rfl, rfl⟩))
    (fun os started H enc _ => lifted os started H enc)
theorem proved : Rows.FnExactMetaPackSaid := over
#print axioms proved
end Go.Proofs.Ytjdapaocdkcgdaa.fnExactMetaPack
namespace Go.Proofs.Ytjdapaocdkcgdaa
/-- The row, under a short name, for the claim. -/
theorem fnExactMetaPack_holds : Rows.FnExactMetaPackSaid := fnExactMetaPack.proved
end Go.Proofs.Ytjdapaocdkcgdaa
