/- The row of FnExactRecOk, out of its pure statement and the contract of the call. No condition. -/
import Derived.Test.YtfaaoljihmlbmaaRows
import Derived.Test.YtfaaoljihmlbmaaPFnExactRecOkx8
import Derived.Test.YtfaaoljihmlbmaaArgFnExactRecOk
import Derived.Test.YtfaaoljihmlbmaaPureFnExactRecOk
import Derived.WalkKit
import Derived.ProofKit
import Derived.OpenShut
import Derived.ShutString
import Derived.ChangeOld
import Derived.Below
import Derived.SizedLaws
import Derived.ChangeSlices
import Derived.Carry
import Derived.WideShapes
namespace Go.Proofs.Ytfaaoljihmlbmaa.fnExactRecOk
open Go.ChangeShapes Go.WideShapes Go.ChangeAt Go.RowKit Go.Proofs.YtfaaoljihmlbmaaW.PrintWords Go.Proofs.YtfaaoljihmlbmaaW.PrintLast Go.Proofs.Ytfaaoljihmlbmaa.PFnExactRecOk Go.Proofs.Ytfaaoljihmlbmaa.AFnExactRecOk
open Go.ChangeMaps (open_string shut_string)
set_option linter.unusedVariables false
theorem own : ownKnob Try.prog.godebug = none := by kernel_rfl
theorem laidOut : laidOutB Try.prog = true := by kernel_rfl
set_option maxRecDepth 100000 in
theorem lifted (os : Os) (started : os.Started) (H : Type) (enc : TypeId × Value → H) :
    ReturnsInHanded {} Try.checked os 3 .any (Rows.fnExactRecOkSpec.pre6 enc Try.prog Try.f3 Rows.fnExactRecOkRow.domain false) (Rows.fnExactRecOkSpec.post enc Try.prog Try.f3 false true false false) := by
  refine returnsInHanded_of_change_sized (C := Try.checked) own started (by kernel_rfl) Try.func3
    (ChangeSpec.witness6 (enc := enc) (C := Try.checked) false ⟨#[], #[.slice none 0 0, .agg #[.slice none 0 0]], []⟩ 8 (by kernel_rfl) (by kernel_rfl) (by kernel_rfl) (by kernel_rfl)) ?_
  intro W base args ds gs before hval0 hW hcnd hsz0 _
  have hval : ∀ (j : Nat) t v, Try.f3.params[j]? = some t → args[j]? = some v → Value.okWide Try.prog W .any base t v := hval0
  have hW' := hW
  obtain ⟨p, q, hA0, hV, rfl, hfz, hnd⟩ := hW
  have hA : DataW.TrodAll enc Try.prog W 0 (fun _ => true) true Try.f3.params.toList args.toList ds p := hA0
  rw [Try.params3] at hA hval
  obtain ⟨v0, vs0, d0, ds0, p0, q0, hargs, rfl, rfl, h0, r0⟩ := trodAll_cons hA
  obtain ⟨v1, vs1, d1, ds1, p1, q1, rfl, rfl, rfl, h1, r1⟩ := trodAll_cons r0
  obtain ⟨rfl, rfl, rfl⟩ := trodAll_nil r1
  obtain rfl : args = #[v0, v1] := by cases args; simp_all
  obtain ⟨rfl, rfl⟩ := trodVars_none hV
  have k0_ := h0
  have lt0 : ∀ x ∈ p0, x.block < W.heap.size := by obtain ⟨m, hm⟩ := k0_; exact DataW.trod_lt m _ _ _ hm
  obtain ⟨A0, len0, cap0, rfl⟩ := okWide_slice Try.underlying22 (hval 0 22 v0 rfl rfl)
  obtain ⟨l0, hK0, y0⟩ : ∃ l : List (S40), (Kd.slice 40 k40).K W l [.slice A0 len0 cap0] ∧ (l.length ≤ maxLen ∧ ∀ y ∈ l, w40 y) := by
    obtain ⟨fuel, hf⟩ := h0
    exact AFnExactRecOk.arg0 _ enc W 0 _ true fuel _ _ hf
  obtain ⟨A0_, c0, he0, hc0, hr0⟩ := hK0
  obtain ⟨rfl, rfl, rfl⟩ : A0 = A0_ ∧ len0 = l0.length ∧ cap0 = c0 := by simpa using he0
  have k1_ := h1
  have lt1 : ∀ x ∈ p1, x.block < W.heap.size := by obtain ⟨m, hm⟩ := k1_; exact DataW.trod_lt m _ _ _ hm
  obtain ⟨cs1, rfl, hz1⟩ := okWide_struct Try.underlying25 (hval 1 25 v1 rfl rfl)
  obtain ⟨x1, hK1, y1⟩ : ∃ x : S25, k25.K W x cs1.toList ∧ w25 x := by
    obtain ⟨fuel, hf⟩ := h1
    exact AFnExactRecOk.arg1 _ enc W 0 _ true fuel _ _ hf
  obtain ⟨A1_0, c1_0, e1, hc1_0, hr1_0⟩ := k25_open hK1
  obtain rfl : cs1 = #[.slice A1_0 x1.f0.length c1_0] := by rw [← Array.toList_inj]; exact e1
  clear hA0 hval0 hsz0
  obtain ⟨k, hk⟩ := Pure.FnExactRecOk l0 x1 y0 y1
  refine (laws_FnExactRecOk.calls k A0 cap0 l0 A1_0 c1_0 x1.f0 true W hr0 hc0 hr1_0 hc1_0 hk).mono fun e W' ⟨he, bel0⟩ => ?_
  have bel : Below W.heap.size W W' := bel0
  subst he
  exact ⟨_, rfl, _, _, _, [], _, [], hW', trodAll_mk1 (shut_bool Try.underlying4 _), (trodAll_cons_mk (Below.trod laidOut (by kernel_rfl) (of_decide_eq_true (by kernel_rfl)) k0_ bel lt0) (trodAll_cons_mk (Below.trod laidOut (by kernel_rfl) (of_decide_eq_true (by kernel_rfl)) k1_ bel lt1) trodAll_mk0)), rfl, bel.frame _, fun h => by cases h⟩
theorem over : Rows.fnExactRecOkRow.holds Try.pinned (OpenSpec.ofChange Rows.fnExactRecOkSpec) :=
  OpenClaim.holds_of_wide 3 Try.f3 rfl rfl rfl rfl rfl rfl rfl ⟨rfl, rfl, rfl, rfl, rfl⟩ rfl rfl rfl rfl rfl (by kernel_rfl) Try.func3 (by kernel_rfl)
    (of_decide_eq_true (by kernel_rfl)) (by unfold Func.isWrapper; first | (rw [if_pos (by decide +kernel)]; kernel_rfl) | (rw [if_neg (by decide +kernel)]; exact ⟨rfl, rfl⟩))
    (fun os started H enc _ => lifted os started H enc)
theorem proved : Rows.FnExactRecOkSaid := over
#print axioms proved
end Go.Proofs.Ytfaaoljihmlbmaa.fnExactRecOk
namespace Go.Proofs.Ytfaaoljihmlbmaa
/-- The row, under a short name, for the claim. -/
theorem fnExactRecOk_holds : Rows.FnExactRecOkSaid := fnExactRecOk.proved
end Go.Proofs.Ytfaaoljihmlbmaa
