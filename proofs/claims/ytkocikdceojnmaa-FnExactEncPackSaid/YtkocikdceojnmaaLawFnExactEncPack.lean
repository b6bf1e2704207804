/- The row of FnExactEncPack, out of its pure statement and the contract of the call. No condition. -/
import Derived.Test.YtkocikdceojnmaaRows
import Derived.Test.YtkocikdceojnmaaPFnExactEncPackx16
import Derived.Test.YtkocikdceojnmaaArgFnExactEncPack
import Derived.Test.YtkocikdceojnmaaPureFnExactEncPack
import Derived.WalkKit
import Derived.ProofKit
import Derived.OpenShut
import Derived.ShutString
import Derived.ChangeOld
import Derived.Below
import Derived.SizedLaws
import Derived.ChangeSlices
import Derived.Carry
import Derived.WideShapes
namespace Go.Proofs.Ytkocikdceojnmaa.fnExactEncPack
open Go.ChangeShapes Go.WideShapes Go.ChangeAt Go.RowKit Go.Proofs.YtkocikdceojnmaaW.PrintWords Go.Proofs.YtkocikdceojnmaaW.PrintLast Go.Proofs.Ytkocikdceojnmaa.PFnExactEncPack Go.Proofs.Ytkocikdceojnmaa.AFnExactEncPack
open Go.ChangeMaps (open_string shut_string)
set_option linter.unusedVariables false
theorem own : ownKnob Try.prog.godebug = none := by kernel_rfl
theorem laidOut : laidOutB Try.prog = true := by kernel_rfl
set_option maxRecDepth 100000 in
theorem lifted (os : Os) (started : os.Started) (H : Type) (enc : TypeId × Value → H) :
    ReturnsInHanded {} Try.checked os 3 .any (Rows.fnExactEncPackSpec.pre6 enc Try.prog Try.f3 Rows.fnExactEncPackRow.domain false) (Rows.fnExactEncPackSpec.post enc Try.prog Try.f3 false true false false) := by
  refine returnsInHanded_of_change_sized (C := Try.checked) own started (by kernel_rfl) Try.func3
    (ChangeSpec.witness6 (enc := enc) (C := Try.checked) false ⟨#[], #[.int .i64 0, .int .i64 0, .slice none 0 0, .slice none 0 0], []⟩ 8 (by kernel_rfl) (by kernel_rfl) (by kernel_rfl) (by kernel_rfl)) ?_
  intro W base args ds gs before hval0 hW hcnd hsz0 _
  have hval : ∀ (j : Nat) t v, Try.f3.params[j]? = some t → args[j]? = some v → Value.okWide Try.prog W .any base t v := hval0
  have hW' := hW
  obtain ⟨p, q, hA0, hV, rfl, hfz, hnd⟩ := hW
  have hA : DataW.TrodAll enc Try.prog W 0 (fun _ => true) true Try.f3.params.toList args.toList ds p := hA0
  rw [Try.params3] at hA hval
  obtain ⟨v0, vs0, d0, ds0, p0, q0, hargs, rfl, rfl, h0, r0⟩ := trodAll_cons hA
  obtain ⟨v1, vs1, d1, ds1, p1, q1, rfl, rfl, rfl, h1, r1⟩ := trodAll_cons r0
  obtain ⟨v2, vs2, d2, ds2, p2, q2, rfl, rfl, rfl, h2, r2⟩ := trodAll_cons r1
  obtain ⟨v3, vs3, d3, ds3, p3, q3, rfl, rfl, rfl, h3, r3⟩ := trodAll_cons r2
  obtain ⟨rfl, rfl, rfl⟩ := trodAll_nil r3
  obtain rfl : args = #[v0, v1, v2, v3] := by cases args; simp_all
  obtain ⟨rfl, rfl⟩ := trodVars_none hV
  obtain ⟨a0, rfl, rfl, rfl, y0⟩ := open_int Try.underlying3 (hval 0 3 v0 rfl rfl) h0
  obtain ⟨a1, rfl, rfl, rfl, y1⟩ := open_int Try.underlying3 (hval 1 3 v1 rfl rfl) h1
  have k2_ := h2
  have lt2 : ∀ x ∈ p2, x.block < W.heap.size := by obtain ⟨m, hm⟩ := k2_; exact DataW.trod_lt m _ _ _ hm
  obtain ⟨A2, len2, cap2, rfl⟩ := okWide_slice Try.underlying22 (hval 2 22 v2 rfl rfl)
  obtain ⟨l2, hK2, y2⟩ : ∃ l : List (S36), (Kd.slice 36 k36).K W l [.slice A2 len2 cap2] ∧ (l.length ≤ maxLen ∧ ∀ y ∈ l, w36 y) := by
    obtain ⟨fuel, hf⟩ := h2
    exact AFnExactEncPack.arg2 _ enc W 0 _ true fuel _ _ hf
  obtain ⟨A2_, c2, he2, hc2, hr2⟩ := hK2
  obtain ⟨rfl, rfl, rfl⟩ : A2 = A2_ ∧ len2 = l2.length ∧ cap2 = c2 := by simpa using he2
  have k3_ := h3
  have lt3 : ∀ x ∈ p3, x.block < W.heap.size := by obtain ⟨m, hm⟩ := k3_; exact DataW.trod_lt m _ _ _ hm
  obtain ⟨A3, len3, cap3, rfl⟩ := okWide_slice Try.underlying22 (hval 3 22 v3 rfl rfl)
  obtain ⟨l3, hK3, y3⟩ : ∃ l : List (S36), (Kd.slice 36 k36).K W l [.slice A3 len3 cap3] ∧ (l.length ≤ maxLen ∧ ∀ y ∈ l, w36 y) := by
    obtain ⟨fuel, hf⟩ := h3
    exact AFnExactEncPack.arg3 _ enc W 0 _ true fuel _ _ hf
  obtain ⟨A3_, c3, he3, hc3, hr3⟩ := hK3
  obtain ⟨rfl, rfl, rfl⟩ : A3 = A3_ ∧ len3 = l3.length ∧ cap3 = c3 := by simpa using he3
  clear hA0 hval0 hsz0
  obtain ⟨k, hk⟩ := Pure.FnExactEncPack a0 a1 l2 l3 y0 y1 y2 y3
  refine (laws_FnExactEncPack.calls k a0 a1 A2 cap2 l2 A3 cap3 l3 true W hr2 hc2 hr3 hc3 hk).mono fun e W' ⟨he, bel0⟩ => ?_
  have bel : Below W.heap.size W W' := bel0
  subst he
  exact ⟨_, rfl, _, _, _, [], _, [], hW', trodAll_mk1 (shut_bool Try.underlying4 _), (trodAll_cons_mk (shut_int Try.underlying3 y0) (trodAll_cons_mk (shut_int Try.underlying3 y1) (trodAll_cons_mk (Below.trod laidOut (by kernel_rfl) (of_decide_eq_true (by kernel_rfl)) k2_ bel lt2) (trodAll_cons_mk (Below.trod laidOut (by kernel_rfl) (of_decide_eq_true (by kernel_rfl)) k3_ bel lt3) trodAll_mk0)))), rfl, bel.frame _, fun h => by cases h⟩
theorem over : Rows.fnExactEncPackRow.holds Try.pinned (OpenSpec.ofChange Rows.fnExactEncPackSpec) :=
  OpenClaim.holds_of_wide 3 Try.f3 rfl rfl rfl rfl rfl rfl rfl ⟨rfl, rfl, rfl, rfl, rfl⟩ rfl rfl rfl rfl rfl (by kernel_rfl) Try.func3 (by kernel_rfl)
    (of_decide_eq_true (by kernel_rfl)) (by unfold Func.isWrapper; first | (rw [if_pos (by decide +kernel)]; kernel_rfl) | (rw [if_neg (by decide +kernel)]; exact ⟨rfl, rfl⟩))
    (fun os started H enc _ => lifted os started H enc)
theorem proved : Rows.FnExactEncPackSaid := over
#print axioms proved
end Go.Proofs.Ytkocikdceojnmaa.fnExactEncPack
namespace Go.Proofs.Ytkocikdceojnmaa
/-- The row, under a short name, for the claim. -/
theorem fnExactEncPack_holds : Rows.FnExactEncPackSaid := fnExactEncPack.proved
end Go.Proofs.Ytkocikdceojnmaa
