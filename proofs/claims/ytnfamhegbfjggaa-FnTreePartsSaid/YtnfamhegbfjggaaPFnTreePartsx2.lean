/- The machine's side of FnTreeParts, written by wip/tools/hyb.py of this repo: each Go function as a plain Lean function, and the proof that the call comes to just its answer. No condition. -/
import Derived.Test.YtnfamhegbfjggaaPFnTreePartsx0
import Derived.Test.YtnfamhegbfjggaaPFnTreePartsx1
namespace Go.Proofs.Ytnfamhegbfjggaa.PFnTreeParts
open Go.RowKit Go.Proofs.YtnfamhegbfjggaaW.PrintWords Go.Proofs.YtnfamhegbfjggaaW.PrintLast Go.Proofs.YtnfamhegbfjggaaW.PrintMore Go.Proofs.YtnfamhegbfjggaaW.PrintMore2
attribute [local go_sem] max2_int min2_int max_two min_two max_three min_three max_four min_four   -- for this text's walks alone
set_option linter.unusedVariables false
set_option linter.unusedSimpArgs false

/-! ### spec_l4DrawNode: function 235 -/
mutual
def spec_l4DrawNode.j0 : Nat → Int → Int → List (S53) → List Int → Int → Int → Int → Int → Int → ByteArray → Int → Option ((List (S53)) × Int × Int)
  | 0, _, _, _, _, _, _, _, _, _, _, _ => none
  | k + 1, x1, x3, x4, x1000, x1001, x1002, x160000, x160001, x160002, x160003, x160004 => if x4.length < 2932031007402 then ((some (x4 ++ [(⟨x160000, x160001, x160002, x160003, x160004⟩ : S53)] : List (S53))).bind fun y169 => (if x1 = 9 then (spec_l4DrawNode.j1 k x1 x3 y169 (x4.length : Int) false x1000 x1001 x1002) else (spec_l4DrawNode.j1 k x1 x3 y169 (x4.length : Int) (x1 != 12) x1000 x1001 x1002))) else (none)
def spec_l4DrawNode.j1 : Nat → Int → Int → List (S53) → Int → Bool → List Int → Int → Int → Option ((List (S53)) × Int × Int)
  | 0, _, _, _, _, _, _, _, _ => none
  | k + 1, x1, x3, x4, x12, x49, x1000, x1001, x1002 => if x49 = true then (some (x4, x1001, x1002)) else ((spec_l1Below.f x1000 x1001 x1002 4).bind fun bt172 => (if x3 = 0 then (spec_l4DrawNode.j2 k x1 x3 x4 x12 0 x1000 bt172.2.1 bt172.2.2) else (spec_l4DrawNode.j2 k x1 x3 x4 x12 bt172.1 x1000 bt172.2.1 bt172.2.2)))
def spec_l4DrawNode.j2 : Nat → Int → Int → List (S53) → Int → Int → List Int → Int → Int → Option ((List (S53)) × Int × Int)
  | 0, _, _, _, _, _, _, _, _ => none
  | k + 1, x1, x3, x4, x12, x13, x1000, x1001, x1002 => (spec_l1Once.f x1000 x1001 x1002 20).bind fun bt175 => (if bt175.1 = true then (spec_l4DrawNode.j3 k x1 x3 x4 x12 (wrap64 (x13 * 6)) x1000 bt175.2.1 bt175.2.2) else (spec_l4DrawNode.j3 k x1 x3 x4 x12 x13 x1000 bt175.2.1 bt175.2.2))
def spec_l4DrawNode.j3 : Nat → Int → Int → List (S53) → Int → Int → List Int → Int → Int → Option ((List (S53)) × Int × Int)
  | 0, _, _, _, _, _, _, _, _ => none
  | k + 1, x1, x3, x4, x12, x13, x1000, x1001, x1002 => (spec_l1PickInt.f x1000 x1001 x1002 (([5, 8, 6, 12, 9] : List Int))).bind fun bt181 => (if 0 ≤ x12 then (if x12 < (x4.length : Int) then ((some (x4.set (x12 : Int).toNat (⟨(rd_T53 x4 x12).f0, (rd_T53 x4 x12).f1, (rd_T53 x4 x12).f2, (rd_T53 x4 x12).f3, x13⟩ : S53) : List (S53))).bind fun y184 => (if x1 = 9 then (spec_l4DrawNode.j4 k x1 x3 y184 x12 x13 bt181.1 (decide (x13 > 0)) x1000 bt181.2.1 bt181.2.2) else (spec_l4DrawNode.j4 k x1 x3 y184 x12 x13 bt181.1 false x1000 bt181.2.1 bt181.2.2))) else (none)) else (none))
def spec_l4DrawNode.j4 : Nat → Int → Int → List (S53) → Int → Int → Int → Bool → List Int → Int → Int → Option ((List (S53)) × Int × Int)
  | 0, _, _, _, _, _, _, _, _, _, _ => none
  | k + 1, x1, x3, x4, x12, x13, x14, x72, x1000, x1001, x1002 => if x72 = true then (if 0 ≤ x12 then (if x12 < (x4.length : Int) then (spec_l4DrawNode.j5 k x1 x3 (x4.set (x12 : Int).toNat (⟨(rd_T53 x4 x12).f0, (rd_T53 x4 x12).f1, x14, (rd_T53 x4 x12).f3, (rd_T53 x4 x12).f4⟩ : S53)) x13 x14 x1000 x1001 x1002) else (none)) else (none)) else (spec_l4DrawNode.j5 k x1 x3 x4 x13 x14 x1000 x1001 x1002)
def spec_l4DrawNode.j5 : Nat → Int → Int → List (S53) → Int → Int → List Int → Int → Int → Option ((List (S53)) × Int × Int)
  | 0, _, _, _, _, _, _, _, _ => none
  | k + 1, x1, x3, x4, x13, x14, x1000, x1001, x1002 => spec_l4DrawNode.l0 k x1 x3 x4 x13 x14 0 0 x1000 x1001 x1002
def spec_l4DrawNode.l0 : Nat → Int → Int → List (S53) → Int → Int → Int → Int → List Int → Int → Int → Option ((List (S53)) × Int × Int)
  | 0, _, _, _, _, _, _, _, _, _, _ => none
  | k + 1, x1, x3, x4, x13, x14, x15, x16, x1000, x1001, x1002 => if x16 < x13 then (if x1 = 12 then ((spec_l1PickInt.f x1000 x1001 x1002 (([1, 2, 5, 6, 8, 9, 12] : List Int))).bind fun bt189 => ((spec_l1Below.f x1000 bt189.2.1 bt189.2.2 3).bind fun bt192 => ((spec_l1Below.f x1000 bt192.2.1 bt192.2.2 6).bind fun bt195 => ((spec_l4DrawNode.f k x1000 bt195.2.1 bt195.2.2 bt189.1 (wrap64 ((wrap64 ((wrap64 (x15 + 1)) + bt192.1)) + (wrap64 ((wrap64 (Int.tdiv bt195.1 5)) * 20)))) (wrap64 (x3 - 1)) x4).bind fun bt198 => (spec_l4DrawNode.l0 k x1 x3 bt198.1 x13 x14 (wrap64 ((wrap64 ((wrap64 (x15 + 1)) + bt192.1)) + (wrap64 ((wrap64 (Int.tdiv bt195.1 5)) * 20)))) (wrap64 (x16 + 1)) x1000 bt198.2.1 bt198.2.2))))) else ((spec_l4DrawNode.f k x1000 x1001 x1002 x14 0 (wrap64 (x3 - 1)) x4).bind fun bt203 => (spec_l4DrawNode.l0 k x1 x3 bt203.1 x13 x14 x15 (wrap64 (x16 + 1)) x1000 bt203.2.1 bt203.2.2))) else (some (x4, x1001, x1002))
def spec_l4DrawNode.f : Nat → List Int → Int → Int → Int → Int → Int → List (S53) → Option ((List (S53)) × Int × Int)
  | 0, _, _, _, _, _, _, _ => none
  | k + 1, s0_0, s0_1, s0_2, a1, a2, a3, l4 => if a1 = 5 then ((spec_l1Below.f s0_0 s0_1 s0_2 1000).bind fun bt160 => (spec_l4DrawNode.j0 k a1 a3 l4 s0_0 bt160.2.1 bt160.2.2 a1 a2 (wrap64 (bt160.1 - 300)) (⟨#[]⟩ : ByteArray) 0)) else (if a1 = 6 then ((spec_l2DrawNum.f s0_0 s0_1 s0_2).bind fun bt163 => (spec_l4DrawNode.j0 k a1 a3 l4 s0_0 bt163.2.1 bt163.2.2 a1 a2 bt163.1 (⟨#[]⟩ : ByteArray) 0)) else (if a1 = 8 then ((spec_l4DrawText.f k s0_0 s0_1 s0_2 5).bind fun bt166 => (spec_l4DrawNode.j0 k a1 a3 l4 s0_0 bt166.2.1 bt166.2.2 a1 a2 0 bt166.1 0)) else (spec_l4DrawNode.j0 k a1 a3 l4 s0_0 s0_1 s0_2 a1 a2 0 (⟨#[]⟩ : ByteArray) 0)))
end
theorem spec_l4DrawNode.mono_l : ∀ k, (∀ y0 y1 y2 y3 y4 y5 y6, LeO (spec_l4DrawNode.f k y0 y1 y2 y3 y4 y5 y6) (spec_l4DrawNode.f (k + 1) y0 y1 y2 y3 y4 y5 y6)) ∧ (∀ y0 y1 y2 y3 y4 y5 y6 y7 y8 y9 y10, LeO (spec_l4DrawNode.j0 k y0 y1 y2 y3 y4 y5 y6 y7 y8 y9 y10) (spec_l4DrawNode.j0 (k + 1) y0 y1 y2 y3 y4 y5 y6 y7 y8 y9 y10)) ∧ (∀ y0 y1 y2 y3 y4 y5 y6 y7, LeO (spec_l4DrawNode.j1 k y0 y1 y2 y3 y4 y5 y6 y7) (spec_l4DrawNode.j1 (k + 1) y0 y1 y2 y3 y4 y5 y6 y7)) ∧ (∀ y0 y1 y2 y3 y4 y5 y6 y7, LeO (spec_l4DrawNode.j2 k y0 y1 y2 y3 y4 y5 y6 y7) (spec_l4DrawNode.j2 (k + 1) y0 y1 y2 y3 y4 y5 y6 y7)) ∧ (∀ y0 y1 y2 y3 y4 y5 y6 y7, LeO (spec_l4DrawNode.j3 k y0 y1 y2 y3 y4 y5 y6 y7) (spec_l4DrawNode.j3 (k + 1) y0 y1 y2 y3 y4 y5 y6 y7)) ∧ (∀ y0 y1 y2 y3 y4 y5 y6 y7 y8 y9, LeO (spec_l4DrawNode.j4 k y0 y1 y2 y3 y4 y5 y6 y7 y8 y9) (spec_l4DrawNode.j4 (k + 1) y0 y1 y2 y3 y4 y5 y6 y7 y8 y9)) ∧ (∀ y0 y1 y2 y3 y4 y5 y6 y7, LeO (spec_l4DrawNode.j5 k y0 y1 y2 y3 y4 y5 y6 y7) (spec_l4DrawNode.j5 (k + 1) y0 y1 y2 y3 y4 y5 y6 y7)) ∧ (∀ y0 y1 y2 y3 y4 y5 y6 y7 y8 y9, LeO (spec_l4DrawNode.l0 k y0 y1 y2 y3 y4 y5 y6 y7 y8 y9) (spec_l4DrawNode.l0 (k + 1) y0 y1 y2 y3 y4 y5 y6 y7 y8 y9))
  | 0 => ⟨fun _ _ _ _ _ _ _ r h => by simp [spec_l4DrawNode.f] at h, fun _ _ _ _ _ _ _ _ _ _ _ r h => by simp [spec_l4DrawNode.j0] at h, fun _ _ _ _ _ _ _ _ r h => by simp [spec_l4DrawNode.j1] at h, fun _ _ _ _ _ _ _ _ r h => by simp [spec_l4DrawNode.j2] at h, fun _ _ _ _ _ _ _ _ r h => by simp [spec_l4DrawNode.j3] at h, fun _ _ _ _ _ _ _ _ _ _ r h => by simp [spec_l4DrawNode.j4] at h, fun _ _ _ _ _ _ _ _ r h => by simp [spec_l4DrawNode.j5] at h, fun _ _ _ _ _ _ _ _ _ _ r h => by simp [spec_l4DrawNode.l0] at h⟩
  | k + 1 => by
    obtain ⟨ih0, ih1, ih2, ih3, ih4, ih5, ih6, ih7⟩ := spec_l4DrawNode.mono_l k
    refine ⟨?_, ?_, ?_, ?_, ?_, ?_, ?_, ?_⟩
    · intro y0 y1 y2 y3 y4 y5 y6
      unfold spec_l4DrawNode.f
      repeat' first
      | (with_reducible exact ih0 _ _ _ _ _ _ _)
      | (with_reducible exact ih1 _ _ _ _ _ _ _ _ _ _ _)
      | (with_reducible exact ih2 _ _ _ _ _ _ _ _)
      | (with_reducible exact ih3 _ _ _ _ _ _ _ _)
      | (with_reducible exact ih4 _ _ _ _ _ _ _ _)
      | (with_reducible exact ih5 _ _ _ _ _ _ _ _ _ _)
      | (with_reducible exact ih6 _ _ _ _ _ _ _ _)
      | (with_reducible exact ih7 _ _ _ _ _ _ _ _ _ _)
      | (with_reducible exact spec_l4DrawText.mono _ _ _ _ _)
      | (with_reducible exact LeO.refl _)
      | (with_reducible exact LeO.none _)
      | (with_reducible refine LeO.ite ?_ ?_)
      | (with_reducible refine LeO.bind ?_ (fun _ => ?_))
      | exact ih0 _ _ _ _ _ _ _
      | exact ih1 _ _ _ _ _ _ _ _ _ _ _
      | exact ih2 _ _ _ _ _ _ _ _
      | exact ih3 _ _ _ _ _ _ _ _
      | exact ih4 _ _ _ _ _ _ _ _
      | exact ih5 _ _ _ _ _ _ _ _ _ _
      | exact ih6 _ _ _ _ _ _ _ _
      | exact ih7 _ _ _ _ _ _ _ _ _ _
      | exact spec_l4DrawText.mono _ _ _ _ _
      | exact LeO.none _
      | refine LeO.ite ?_ ?_
      | refine LeO.bind ?_ (fun _ => ?_)
    · intro y0 y1 y2 y3 y4 y5 y6 y7 y8 y9 y10
      unfold spec_l4DrawNode.j0
      repeat' first
      | (with_reducible exact ih0 _ _ _ _ _ _ _)
      | (with_reducible exact ih1 _ _ _ _ _ _ _ _ _ _ _)
      | (with_reducible exact ih2 _ _ _ _ _ _ _ _)
      | (with_reducible exact ih3 _ _ _ _ _ _ _ _)
      | (with_reducible exact ih4 _ _ _ _ _ _ _ _)
      | (with_reducible exact ih5 _ _ _ _ _ _ _ _ _ _)
      | (with_reducible exact ih6 _ _ _ _ _ _ _ _)
      | (with_reducible exact ih7 _ _ _ _ _ _ _ _ _ _)
      | (with_reducible exact spec_l4DrawText.mono _ _ _ _ _)
      | (with_reducible exact LeO.refl _)
      | (with_reducible exact LeO.none _)
      | (with_reducible refine LeO.ite ?_ ?_)
      | (with_reducible refine LeO.bind ?_ (fun _ => ?_))
      | exact ih0 _ _ _ _ _ _ _
      | exact ih1 _ _ _ _ _ _ _ _ _ _ _
      | exact ih2 _ _ _ _ _ _ _ _
      | exact ih3 _ _ _ _ _ _ _ _
      | exact ih4 _ _ _ _ _ _ _ _
      | exact ih5 _ _ _ _ _ _ _ _ _ _
      | exact ih6 _ _ _ _ _ _ _ _
      | exact ih7 _ _ _ _ _ _ _ _ _ _
      | exact spec_l4DrawText.mono _ _ _ _ _
      | exact LeO.none _
      | refine LeO.ite ?_ ?_
      | refine LeO.bind ?_ (fun _ => ?_)
    · intro y0 y1 y2 y3 y4 y5 y6 y7
      unfold spec_l4DrawNode.j1
      repeat' first
      | (with_reducible exact ih0 _ _ _ _ _ _ _)
      | (with_reducible exact ih1 _ _ _ _ _ _ _ _ _ _ _)
      | (with_reducible exact ih2 _ _ _ _ _ _ _ _)
      | (with_reducible exact ih3 _ _ _ _ _ _ _ _)
      | (with_reducible exact ih4 _ _ _ _ _ _ _ _)
      | (with_reducible exact ih5 _ _ _ _ _ _ _ _ _ _)
      | (with_reducible exact ih6 _ _ _ _ _ _ _ _)
      | (with_reducible exact ih7 _ _ _ _ _ _ _ _ _ _)
      | (with_reducible exact spec_l4DrawText.mono _ _ _ _ _)
      | (with_reducible exact LeO.refl _)
      | (with_reducible exact LeO.none _)
      | (with_reducible refine LeO.ite ?_ ?_)
      | (with_reducible refine LeO.bind ?_ (fun _ => ?_))
      | exact ih0 _ _ _ _ _ _ _
      | exact ih1 _ _ _ _ _ _ _ _ _ _ _
      | exact ih2 _ _ _ _ _ _ _ _
      | exact ih3 _ _ _ _ _ _ _ _
      | exact ih4 _ _ _ _ _ _ _ _
      | exact ih5 _ _ _ _ _ _ _ _ _ _
      | exact ih6 _ _ _ _ _ _ _ _
      | exact ih7 _ _ _ _ _ _ _ _ _ _
      | exact spec_l4DrawText.mono _ _ _ _ _
      | exact LeO.none _
      | refine LeO.ite ?_ ?_
      | refine LeO.bind ?_ (fun _ => ?_)
    · intro y0 y1 y2 y3 y4 y5 y6 y7
      unfold spec_l4DrawNode.j2
      repeat' first
      | (with_reducible exact ih0 _ _ _ _ _ _ _)
      | (with_reducible exact ih1 _ _ _ _ _ _ _ _ _ _ _)
      | (with_reducible exact ih2 _ _ _ _ _ _ _ _)
      | (with_reducible exact ih3 _ _ _ _ _ _ _ _)
      | (with_reducible exact ih4 _ _ _ _ _ _ _ _)
      | (with_reducible exact ih5 _ _ _ _ _ _ _ _ _ _)
      | (with_reducible exact ih6 _ _ _ _ _ _ _ _)
      | (with_reducible exact ih7 _ _ _ _ _ _ _ _ _ _)
      | (with_reducible exact spec_l4DrawText.mono _ _ _ _ _)
      | (with_reducible exact LeO.refl _)
      | (with_reducible exact LeO.none _)
      | (with_reducible refine LeO.ite ?_ ?_)
      | (with_reducible refine LeO.bind ?_ (fun _ => ?_))
      | exact ih0 _ _ _ _ _ _ _
      | exact ih1 _ _ _ _ _ _ _ _ _ _ _
      | exact ih2 _ _ _ _ _ _ _ _
      | exact ih3 _ _ _ _ _ _ _ _
      | exact ih4 _ _ _ _ _ _ _ _
      | exact ih5 _ _ _ _ _ _ _ _ _ _
      | exact ih6 _ _ _ _ _ _ _ _
      | exact ih7 _ _ _ _ _ _ _ _ _ _
      | exact spec_l4DrawText.mono _ _ _ _ _
      | exact LeO.none _
      | refine LeO.ite ?_ ?_
      | refine LeO.bind ?_ (fun _ => ?_)
    · intro y0 y1 y2 y3 y4 y5 y6 y7
      unfold spec_l4DrawNode.j3
      repeat' first
      | (with_reducible exact ih0 _ _ _ _ _ _ _)
      | (with_reducible exact ih1 _ _ _ _ _ _ _ _ _ _ _)
      | (with_reducible exact ih2 _ _ _ _ _ _ _ _)
      | (with_reducible exact ih3 _ _ _ _ _ _ _ _)
      | (with_reducible exact ih4 _ _ _ _ _ _ _ _)
      | (with_reducible exact ih5 _ _ _ _ _ _ _ _ _ _)
      | (with_reducible exact ih6 _ _ _ _ _ _ _ _)
      | (with_reducible exact ih7 _ _ _ _ _ _ _ _ _ _)
      | (with_reducible exact spec_l4DrawText.mono _ _ _ _ _)
      | (with_reducible exact LeO.refl _)
      | (with_reducible exact LeO.none _)
      | (with_reducible refine LeO.ite ?_ ?_)
      | (with_reducible refine LeO.bind ?_ (fun _ => ?_))
      | exact ih0 _ _ _ _ _ _ _
      | exact ih1 _ _ _ _ _ _ _ _ _ _ _
      | exact ih2 _ _ _ _ _ _ _ _
      | exact ih3 _ _ _ _ _ _ _ _
      | exact ih4 _ _ _ _ _ _ _ _
      | exact ih5 _ _ _ _ _ _ _ _ _ _
      | exact ih6 _ _ _ _ _ _ _ _
      | exact ih7 _ _ _ _ _ _ _ _ _ _
      | exact spec_l4DrawText.mono _ _ _ _ _
      | exact LeO.none _
      | refine LeO.ite ?_ ?_
      | refine LeO.bind ?_ (fun _ => ?_)
    · intro y0 y1 y2 y3 y4 y5 y6 y7 y8 y9
      unfold spec_l4DrawNode.j4
      repeat' first
      | (with_reducible exact ih0 _ _ _ _ _ _ _)
      | (with_reducible exact ih1 _ _ _ _ _ _ _ _ _ _ _)
      | (with_reducible exact ih2 _ _ _ _ _ _ _ _)
      | (with_reducible exact ih3 _ _ _ _ _ _ _ _)
      | (with_reducible exact ih4 _ _ _ _ _ _ _ _)
      | (with_reducible exact ih5 _ _ _ _ _ _ _ _ _ _)
      | (with_reducible exact ih6 _ _ _ _ _ _ _ _)
      | (with_reducible exact ih7 _ _ _ _ _ _ _ _ _ _)
      | (with_reducible exact spec_l4DrawText.mono _ _ _ _ _)
      | (with_reducible exact LeO.refl _)
      | (with_reducible exact LeO.none _)
      | (with_reducible refine LeO.ite ?_ ?_)
      | (with_reducible refine LeO.bind ?_ (fun _ => ?_))
      | exact ih0 _ _ _ _ _ _ _
      | exact ih1 _ _ _ _ _ _ _ _ _ _ _
      | exact ih2 _ _ _ _ _ _ _ _
      | exact ih3 _ _ _ _ _ _ _ _
      | exact ih4 _ _ _ _ _ _ _ _
      | exact ih5 _ _ _ _ _ _ _ _ _ _
      | exact ih6 _ _ _ _ _ _ _ _
      | exact ih7 _ _ _ _ _ _ _ _ _ _
      | exact spec_l4DrawText.mono _ _ _ _ _
      | exact LeO.none _
      | refine LeO.ite ?_ ?_
      | refine LeO.bind ?_ (fun _ => ?_)
    · intro y0 y1 y2 y3 y4 y5 y6 y7
      unfold spec_l4DrawNode.j5
      repeat' first
      | (with_reducible exact ih0 _ _ _ _ _ _ _)
      | (with_reducible exact ih1 _ _ _ _ _ _ _ _ _ _ _)
      | (with_reducible exact ih2 _ _ _ _ _ _ _ _)
      | (with_reducible exact ih3 _ _ _ _ _ _ _ _)
      | (with_reducible exact ih4 _ _ _ _ _ _ _ _)
      | (with_reducible exact ih5 _ _ _ _ _ _ _ _ _ _)
      | (with_reducible exact ih6 _ _ _ _ _ _ _ _)
      | (with_reducible exact ih7 _ _ _ _ _ _ _ _ _ _)
      | (with_reducible exact spec_l4DrawText.mono _ _ _ _ _)
      | (with_reducible exact LeO.refl _)
      | (with_reducible exact LeO.none _)
      | (with_reducible refine LeO.ite ?_ ?_)
      | (with_reducible refine LeO.bind ?_ (fun _ => ?_))
      | exact ih0 _ _ _ _ _ _ _
      | exact ih1 _ _ _ _ _ _ _ _ _ _ _
      | exact ih2 _ _ _ _ _ _ _ _
      | exact ih3 _ _ _ _ _ _ _ _
      | exact ih4 _ _ _ _ _ _ _ _
      | exact ih5 _ _ _ _ _ _ _ _ _ _
      | exact ih6 _ _ _ _ _ _ _ _
      | exact ih7 _ _ _ _ _ _ _ _ _ _
      | exact spec_l4DrawText.mono _ _ _ _ _
      | exact LeO.none _
      | refine LeO.ite ?_ ?_
      | refine LeO.bind ?_ (fun _ => ?_)
    · intro y0 y1 y2 y3 y4 y5 y6 y7 y8 y9
      unfold spec_l4DrawNode.l0
      repeat' first
      | (with_reducible exact ih0 _ _ _ _ _ _ _)
      | (with_reducible exact ih1 _ _ _ _ _ _ _ _ _ _ _)
      | (with_reducible exact ih2 _ _ _ _ _ _ _ _)
      | (with_reducible exact ih3 _ _ _ _ _ _ _ _)
      | (with_reducible exact ih4 _ _ _ _ _ _ _ _)
      | (with_reducible exact ih5 _ _ _ _ _ _ _ _ _ _)
      | (with_reducible exact ih6 _ _ _ _ _ _ _ _)
      | (with_reducible exact ih7 _ _ _ _ _ _ _ _ _ _)
      | (with_reducible exact spec_l4DrawText.mono _ _ _ _ _)
      | (with_reducible exact LeO.refl _)
      | (with_reducible exact LeO.none _)
      | (with_reducible refine LeO.ite ?_ ?_)
      | (with_reducible refine LeO.bind ?_ (fun _ => ?_))
      | exact ih0 _ _ _ _ _ _ _
      | exact ih1 _ _ _ _ _ _ _ _ _ _ _
      | exact ih2 _ _ _ _ _ _ _ _
      | exact ih3 _ _ _ _ _ _ _ _
      | exact ih4 _ _ _ _ _ _ _ _
      | exact ih5 _ _ _ _ _ _ _ _ _ _
      | exact ih6 _ _ _ _ _ _ _ _
      | exact ih7 _ _ _ _ _ _ _ _ _ _
      | exact spec_l4DrawText.mono _ _ _ _ _
      | exact LeO.none _
      | refine LeO.ite ?_ ?_
      | refine LeO.bind ?_ (fun _ => ?_)
theorem spec_l4DrawNode.mono : ∀ a0 a1 a2 a3 a4 a5 a6 k, LeO (spec_l4DrawNode.f k a0 a1 a2 a3 a4 a5 a6) (spec_l4DrawNode.f (k + 1) a0 a1 a2 a3 a4 a5 a6) := by
  intro a0 a1 a2 a3 a4 a5 a6 k
  obtain ⟨ih0, ih1, ih2, ih3, ih4, ih5, ih6, ih7⟩ := spec_l4DrawNode.mono_l k
  exact ih0 a0 a1 a2 a3 a4 a5 a6
set_option maxHeartbeats 8000000 in
set_option maxRecDepth 100000 in
theorem spec_l4DrawNode.calls (k : Nat) : ∀ (g : Nat) (s0_0 : List Int) (s0_1 : Int) (s0_2 : Int) (a1 : Int) (a2 : Int) (a3 : Int) (P4_ : Nat → Prop) (u9000_ : Value) (l4 : List (S53)) (r1 : List (S53)) (r2 : Int) (r3 : Int) (w0 w : World) (hI : IsS232 w0 w g s0_0 s0_1 s0_2) (hB : Below w0.heap.size w0 w) (ho4 : Kd.R k53 53 w w0.heap.size P4_ u9000_ l4) (h : spec_l4DrawNode.f k s0_0 s0_1 s0_2 a1 a2 a3 l4 = some (r1, r2, r3)),
    Calls Try.prog 235 #[.pointer (some ⟨g, 0, none⟩), .int .i64 a1, .int .i64 a2, .int .i64 a3, u9000_] w fun e w' => ∃ v0_ : Value, e = .returned (v0_) ∧ Kd.R k53 53 w' w0.heap.size (fun k_ => (P4_ k_ ∨ w.heap.size ≤ k_)) v0_ r1 ∧ IsS232 w0 w' g s0_0 r2 r3 ∧ Below w0.heap.size w0 w' ∧ Kept w w' (fun k_ => (P4_ k_) ∨ k_ = g) := by
  induction k using Nat.strongRecOn with
  | _ k ih =>
  intro g s0_0 s0_1 s0_2 a1 a2 a3 P4_ u9000_ l4 r1 r2 r3 w0 w hI hB ho4 h
  cases k with
  | zero => exact absurd h (by simp [spec_l4DrawNode.f])
  | succ k =>
  simp only [spec_l4DrawNode.f] at h
  have hu53 := Try.underlying53
  have HO4 := Aside0.mk (show Kd.R k53 53 w w0.heap.size (fun k_ => (P4_ k_ ∨ w.heap.size ≤ k_)) u9000_ l4 from Kd.R_mono ho4 (fun k_ hk => (.inl hk)))
  have HI0 := Aside0.mk hI
  have HL := Aside0.mk hB.size
  clear hI
  have HK := Aside0.mk (Kept.refl w (fun k_ => (P4_ k_) ∨ k_ = g))
  have HW0 := Aside0.mk hB.size
  have HB := Aside0.mk hB
  clear hB
  have H : (if a1 = 5 then ((spec_l1Below.f s0_0 s0_1 s0_2 1000).bind fun bt160 => (spec_l4DrawNode.j0 k a1 a3 l4 s0_0 bt160.2.1 bt160.2.2 a1 a2 (wrap64 (bt160.1 - 300)) (⟨#[]⟩ : ByteArray) 0)) else (if a1 = 6 then ((spec_l2DrawNum.f s0_0 s0_1 s0_2).bind fun bt163 => (spec_l4DrawNode.j0 k a1 a3 l4 s0_0 bt163.2.1 bt163.2.2 a1 a2 bt163.1 (⟨#[]⟩ : ByteArray) 0)) else (if a1 = 8 then ((spec_l4DrawText.f k s0_0 s0_1 s0_2 5).bind fun bt166 => (spec_l4DrawNode.j0 k a1 a3 l4 s0_0 bt166.2.1 bt166.2.2 a1 a2 0 bt166.1 0)) else (spec_l4DrawNode.j0 k a1 a3 l4 s0_0 s0_1 s0_2 a1 a2 0 (⟨#[]⟩ : ByteArray) 0)))) = some (r1, r2, r3) := h
  clear h
  have HC6 := Aside0.mk H
  clear H
  go_enter Try.func235, Try.ntmps235
  go_upto_block 0 with (first | ((with_reducible refine gate_dst (N := 11) rfl ?_); refine box_event ?hg (N := 11) ?hd (cs := #[.int .i64 0, .int .i64 0, .int .i64 0, .string (⟨#[]⟩ : ByteArray), .int .i64 0]) (t := 53) ?hr ?_; (case hd => rfl); (case hg => rfl); (case hr => first | (go_simp; done) | (go_simp; rfl)); intro gb159 hg w7 hbox hb; have n0_ := Aside0.mk (Kd.R_below (Kd.R_elderB (by (with_reducible repeat (first | apply Kd.R_alloc | apply Kd.R_drewN | apply Kd.R_drew)); exact HO4.out) gb159 (Nat.le_of_eq hg.symm)) hb); have n1_ := Aside0.mk (IsS232.below (by repeat (first | (with_reducible first | exact HI0.out | apply IsS232.alloc | apply IsS232.drewN | apply IsS232.drew | apply IsS232.set_1 | apply IsS232.set_2) | exact HI0.out)) hb); have n2_ := Aside0.mk (Kept.below (S := (fun k_ => (P4_ k_) ∨ k_ = g)) (by repeat (first | (with_reducible first | exact HK.out | apply Kept.alloc | apply Kept.drewN | apply Kept.drew | refine Kept.setCell ?_ (.inl (.inr rfl)) _) | exact HK.out)) hb); have n3_ := Aside0.mk (below_step (by repeat (first | (with_reducible first | exact HB.out | apply below_alloc | apply pw_below_drewN | apply below_drew1 | refine below_set ?_ (IsS232.ge HI0.out)) | exact HB.out)) hb); have n4_ := Aside0.mk (hbox); have n5_ := Aside0.mk ((by rw [hg]; exact (by first | exact HK.out.1 | exact (show Kept w _ (fun k_ => (P4_ k_) ∨ k_ = g) from by repeat (first | (with_reducible first | exact HK.out | apply Kept.alloc | apply Kept.drewN | apply Kept.drew | refine Kept.setCell ?_ (.inl (.inr rfl)) _) | exact HK.out)).1) : w.heap.size ≤ gb159)); have n6_ := Aside0.mk ((by rw [hg]; exact (below_size (by repeat (first | (with_reducible first | exact HB.out | apply below_alloc | apply pw_below_drewN | apply below_drew1 | refine below_set ?_ (IsS232.ge HI0.out)) | exact HB.out))) : w0.heap.size ≤ gb159)); have n7_ := Aside0.mk ((by rw [hg]; exact Nat.ne_of_lt (IsS232.lt (show IsS232 w0 _ g s0_0 s0_1 s0_2 from by repeat (first | (with_reducible first | exact HI0.out | apply IsS232.alloc | apply IsS232.drewN | apply IsS232.drew | apply IsS232.set_1 | apply IsS232.set_2) | exact HI0.out))) : g ≠ gb159)); have n8_ := Aside0.mk ((by rw [hg]; exact Nat.ne_of_gt (IsS232.lt (show IsS232 w0 _ g s0_0 s0_1 s0_2 from by repeat (first | (with_reducible first | exact HI0.out | apply IsS232.alloc | apply IsS232.drewN | apply IsS232.drew | apply IsS232.set_1 | apply IsS232.set_2) | exact HI0.out))) : gb159 ≠ g)); clear HO4; clear HI0; clear HK; clear HB; have HO4 := n0_; have HI0 := n1_; have HK := n2_; have HB := n3_; have BK159 := n4_; have GW159 := n5_; have GE159 := n6_; have NB0_159 := n7_; have NB159_0 := n8_; clear n0_ n1_ n2_ n3_ n4_ n5_ n6_ n7_ n8_; clear hb hbox hg; have hnb8 := NB159_0.out; have hnc8 := NB0_159.out; have hcz9_0 : w7.cell? ⟨gb159, 0, none⟩ = some (.int .i64 0) := (blk_cell BK159.out 0).trans rfl; have hcz9_1 : w7.cell? ⟨gb159, 1, none⟩ = some (.int .i64 0) := (blk_cell BK159.out 1).trans rfl; have hcz9_2 : w7.cell? ⟨gb159, 2, none⟩ = some (.int .i64 0) := (blk_cell BK159.out 2).trans rfl; have hcz9_3 : w7.cell? ⟨gb159, 3, none⟩ = some (.string (⟨#[]⟩ : ByteArray)) := (blk_cell BK159.out 3).trans rfl; have hcz9_4 : w7.cell? ⟨gb159, 4, none⟩ = some (.int .i64 0) := (blk_cell BK159.out 4).trans rfl; have hfz9_0 := blk_frozen BK159.out 0; have hfz9_1 := blk_frozen BK159.out 1; have hfz9_2 := blk_frozen BK159.out 2; have hfz9_3 := blk_frozen BK159.out 3; have hfz9_4 := blk_frozen BK159.out 4))
  (try simp only [Act.put, List.setIfInBounds_toArray, List.set_cons_zero, List.set_cons_succ])
  go_cut [] (fun wc => ∃ (kq : Nat) (x1001_5 : Int) (x1002_5 : Int) (x160002_5 : Int) (x160003_5 : ByteArray), Aside0 (spec_l4DrawNode.j0 kq a1 a3 l4 s0_0 x1001_5 x1002_5 a1 a2 x160002_5 x160003_5 0 = some (r1, r2, r3)) ∧ Aside0 (kq ≤ k) ∧ Aside0 (Kd.R k53 53 wc w0.heap.size (fun k_ => (P4_ k_ ∨ w.heap.size ≤ k_) ∧ k_ ≠ gb159) u9000_ l4) ∧ Aside0 (wc.heap[gb159]? = some (.cells #[.int .i64 a1, .int .i64 a2, .int .i64 x160002_5, .string x160003_5, .int .i64 0] 53 (0, 0))) ∧ Aside0 (IsS232 w0 wc g s0_0 x1001_5 x1002_5) ∧ Aside0 (Kept w wc (fun k_ => (P4_ k_) ∨ k_ = g)) ∧ Aside0 (Below w0.heap.size w0 wc))
  case first =>
    have H := HC6.out
    clear HC6
    by_cases c10 : a1 = 5
    · rw [if_pos c10] at H
      have c10b0 : (a1 == 5) = true := beq_iff_eq.mpr c10
      have c10b1 : (a1 != 5) = false := bne_eq_false_iff_eq.mpr c10
      clear c10
      (first | rw [c10b0] | rw [c10b1] | (simp only [i64_w, i32_w]; rw [c10b0]) | skip)
      replace H := Option.bind_eq_some_iff.mp H
      obtain ⟨⟨t160, t161, t162⟩, A110, H⟩ := H
      replace H : (spec_l4DrawNode.j0 k a1 a3 l4 s0_0 t161 t162 a1 a2 (wrap64 (t160 - 300)) (⟨#[]⟩ : ByteArray) 0) = some (r1, r2, r3) := H
      have A11 := Aside0.mk A110
      clear A110
      have H' := Aside0.mk H
      clear H
      go_wp2_with (first | ((with_reducible refine gate_callee (f := 162) rfl ?_); refine goesL_ (some 25) rfl rfl Try.func162 (by kernel_rfl) rfl #[.pointer (some ⟨g, 0, none⟩), .int .i64 1000] rfl (by (try simp only [List.map_toArray, List.map_cons, List.map_nil]); first | done | rfl | (simp only [List.length_drop, List.length_take]; rfl)) ?_; (with_reducible refine (spec_l1Below.calls g s0_0 s0_1 s0_2 1000 t160 t161 t162 w0 _ ?side1 ?side2 A11.out).mono ?_); (case side1 => repeat (first | (with_reducible first | exact HI0.out | apply IsS232.alloc | apply IsS232.drewN | apply IsS232.drew | apply IsS232.set_1 | apply IsS232.set_2 | refine IsS232.far ?_ NB0_159.out _) | exact HI0.out)); (case side2 => repeat (first | (with_reducible first | exact HB.out | apply below_alloc | apply pw_below_drewN | apply below_drew1 | refine below_set ?_ (IsS232.ge HI0.out) | refine below_set ?_ GE159.out) | exact HB.out)); rintro e w12 ⟨rfl, hi, hb, hk⟩; refine ⟨_, rfl, ?_⟩; have n0_ := Aside0.mk (Kd.R_mono (Kd.R_keep (IsS232.apart (show IsS232 w0 _ g s0_0 s0_1 s0_2 from by repeat (first | (with_reducible first | exact HI0.out | apply IsS232.alloc | apply IsS232.drewN | apply IsS232.drew | apply IsS232.set_1 | apply IsS232.set_2 | refine IsS232.far ?_ NB0_159.out _) | exact HI0.out)) (by (with_reducible repeat (first | apply Kd.R_alloc | apply Kd.R_drewN | apply Kd.R_drew)); exact (Kd.R_mono (Kd.R_far (p := ⟨gb159, 4, none⟩) (Kd.R_far (p := ⟨gb159, 3, none⟩) (Kd.R_far (p := ⟨gb159, 2, none⟩) (Kd.R_far (p := ⟨gb159, 1, none⟩) (Kd.R_far (p := ⟨gb159, 0, none⟩) (Kd.R_mono HO4.out (fun k_ hk => (⟨hk, hk.2⟩ : _ ∧ k_ ≠ gb159))) (fun _ hk => hk.2) (.int .i64 a1)) (fun _ hk => hk.2) (.int .i64 a2)) (fun _ hk => hk.2) (.int .i64 0)) (fun _ hk => hk.2) (.string (⟨#[]⟩ : ByteArray))) (fun _ hk => hk.2) (.int .i64 0)) (fun _ h_ => h_.1))) (by decide)) hk (fun _ h => h.2)) (fun _ h => h.1)); have n1_ := Aside0.mk (KeepBut.blk hk (g' := gb159) (o := .cells #[.int .i64 a1, .int .i64 a2, .int .i64 0, .string (⟨#[]⟩ : ByteArray), .int .i64 0] 53 (0, 0)) (by (with_reducible repeat (first | refine blk_drewN ?_ _ | refine blk_drew ?_ | refine blk_alloc ?_ _)); refine blk_put (cs := #[.int .i64 a1, .int .i64 a2, .int .i64 0, .string (⟨#[]⟩ : ByteArray), .int .i64 0]) ?_ 4 _ rfl; (with_reducible repeat (first | refine blk_drewN ?_ _ | refine blk_drew ?_ | refine blk_alloc ?_ _)); refine blk_put (cs := #[.int .i64 a1, .int .i64 a2, .int .i64 0, .string (⟨#[]⟩ : ByteArray), .int .i64 0]) ?_ 3 _ rfl; (with_reducible repeat (first | refine blk_drewN ?_ _ | refine blk_drew ?_ | refine blk_alloc ?_ _)); refine blk_put (cs := #[.int .i64 a1, .int .i64 a2, .int .i64 0, .string (⟨#[]⟩ : ByteArray), .int .i64 0]) ?_ 2 _ rfl; (with_reducible repeat (first | refine blk_drewN ?_ _ | refine blk_drew ?_ | refine blk_alloc ?_ _)); refine blk_put (cs := #[.int .i64 a1, .int .i64 0, .int .i64 0, .string (⟨#[]⟩ : ByteArray), .int .i64 0]) ?_ 1 _ rfl; (with_reducible repeat (first | refine blk_drewN ?_ _ | refine blk_drew ?_ | refine blk_alloc ?_ _)); refine blk_put (cs := #[.int .i64 0, .int .i64 0, .int .i64 0, .string (⟨#[]⟩ : ByteArray), .int .i64 0]) ?_ 0 _ rfl; (with_reducible repeat (first | refine blk_drewN ?_ _ | refine blk_drew ?_ | refine blk_alloc ?_ _)); exact BK159.out) NB159_0.out (by simp)); have n2_ := Aside0.mk (Kept.of_keep (S := (fun k_ => (P4_ k_) ∨ k_ = g)) (by repeat (first | (with_reducible first | exact HK.out | apply Kept.alloc | apply Kept.drewN | apply Kept.drew | refine Kept.setCell ?_ (.inl (.inr rfl)) _ | refine Kept.setCell ?_ (.inr GW159.out) _) | exact HK.out)) hk (.inl (.inr rfl))); have n3_ := Aside0.mk (hb); have n4_ := Aside0.mk (hi); clear HO4; clear BK159; clear HK; clear HB; clear HI0; have HO4 := n0_; have BK159 := n1_; have HK := n2_; have HB := n3_; have HI0 := n4_; clear n0_ n1_ n2_ n3_ n4_; (try clear hb); (try clear hb2); (try clear hk); (try clear hi); have hnb13 := NB159_0.out; have hnc13 := NB0_159.out; have hcz14_0 : w12.cell? ⟨gb159, 0, none⟩ = some (.int .i64 a1) := (blk_cell BK159.out 0).trans rfl; have hcz14_1 : w12.cell? ⟨gb159, 1, none⟩ = some (.int .i64 a2) := (blk_cell BK159.out 1).trans rfl; have hcz14_2 : w12.cell? ⟨gb159, 2, none⟩ = some (.int .i64 0) := (blk_cell BK159.out 2).trans rfl; have hcz14_3 : w12.cell? ⟨gb159, 3, none⟩ = some (.string (⟨#[]⟩ : ByteArray)) := (blk_cell BK159.out 3).trans rfl; have hcz14_4 : w12.cell? ⟨gb159, 4, none⟩ = some (.int .i64 0) := (blk_cell BK159.out 4).trans rfl; have hfz14_0 := blk_frozen BK159.out 0; have hfz14_1 := blk_frozen BK159.out 1; have hfz14_2 := blk_frozen BK159.out 2; have hfz14_3 := blk_frozen BK159.out 3; have hfz14_4 := blk_frozen BK159.out 4))
      go_meet
      case rel => exact ⟨_, (t161), (t162), (wrap64 (t160 - 300)), ((⟨#[]⟩ : ByteArray)), H', ⟨by first | omega | exact Nat.le_refl _⟩, ⟨by (with_reducible repeat (first | apply Kd.R_alloc | apply Kd.R_drewN | apply Kd.R_drew)); exact Kd.R_mono (Kd.R_far (p := ⟨gb159, 2, none⟩) (Kd.R_mono HO4.out (fun k_ hk => (⟨hk, hk.2⟩ : _ ∧ k_ ≠ gb159))) (fun _ hk => hk.2) (.int .i64 (wrap64 (t160 - 300)))) (fun _ hk => ⟨hk.1.1, hk.1.2⟩)⟩, ⟨by (with_reducible repeat (first | refine blk_drewN ?_ _ | refine blk_drew ?_ | refine blk_alloc ?_ _)); refine blk_put (cs := #[.int .i64 a1, .int .i64 a2, .int .i64 0, .string (⟨#[]⟩ : ByteArray), .int .i64 0]) ?_ 2 _ rfl; (with_reducible repeat (first | refine blk_drewN ?_ _ | refine blk_drew ?_ | refine blk_alloc ?_ _)); exact BK159.out⟩, ⟨by repeat (first | (with_reducible first | exact HI0.out | apply IsS232.alloc | apply IsS232.drewN | apply IsS232.drew | apply IsS232.set_1 | apply IsS232.set_2 | refine IsS232.far ?_ NB0_159.out _) | exact HI0.out)⟩, ⟨by repeat (first | (with_reducible first | exact HK.out | apply Kept.alloc | apply Kept.drewN | apply Kept.drew | refine Kept.setCell ?_ (.inl (.inr rfl)) _ | refine Kept.setCell ?_ (.inr GW159.out) _) | exact HK.out)⟩, ⟨by repeat (first | (with_reducible first | exact HB.out | apply below_alloc | apply pw_below_drewN | apply below_drew1 | refine below_set ?_ (IsS232.ge HI0.out) | refine below_set ?_ GE159.out) | exact HB.out)⟩⟩
    · rw [if_neg c10] at H
      have c10b0 : (a1 == 5) = false := beq_eq_false_iff_ne.mpr c10
      have c10b1 : (a1 != 5) = true := bne_iff_ne.mpr c10
      (first | rw [c10b0] | rw [c10b1] | (simp only [i64_w, i32_w]; rw [c10b0]) | skip)
      by_cases c15 : a1 = 6
      · rw [if_pos c15] at H
        have c15b0 : (a1 == 6) = true := beq_iff_eq.mpr c15
        have c15b1 : (a1 != 6) = false := bne_eq_false_iff_eq.mpr c15
        clear c15
        replace H := Option.bind_eq_some_iff.mp H
        obtain ⟨⟨t163, t164, t165⟩, A160, H⟩ := H
        replace H : (spec_l4DrawNode.j0 k a1 a3 l4 s0_0 t164 t165 a1 a2 t163 (⟨#[]⟩ : ByteArray) 0) = some (r1, r2, r3) := H
        have A16 := Aside0.mk A160
        clear A160
        have H' := Aside0.mk H
        clear H
        go_wp2_with (first | ((with_reducible refine gate_callee (f := 250) rfl ?_); refine goesL_ (some 31) rfl rfl Try.func250 (by kernel_rfl) rfl #[.pointer (some ⟨g, 0, none⟩)] rfl (by (try simp only [List.map_toArray, List.map_cons, List.map_nil]); first | done | rfl | (simp only [List.length_drop, List.length_take]; rfl)) ?_; (with_reducible refine (spec_l2DrawNum.calls g s0_0 s0_1 s0_2 t163 t164 t165 w0 _ ?side1 ?side2 A16.out).mono ?_); (case side1 => repeat (first | (with_reducible first | exact HI0.out | apply IsS232.alloc | apply IsS232.drewN | apply IsS232.drew | apply IsS232.set_1 | apply IsS232.set_2 | refine IsS232.far ?_ NB0_159.out _) | exact HI0.out)); (case side2 => repeat (first | (with_reducible first | exact HB.out | apply below_alloc | apply pw_below_drewN | apply below_drew1 | refine below_set ?_ (IsS232.ge HI0.out) | refine below_set ?_ GE159.out) | exact HB.out)); rintro e w17 ⟨rfl, hi, hb, hk⟩; refine ⟨_, rfl, ?_⟩; have n0_ := Aside0.mk (Kd.R_mono (Kd.R_keep (IsS232.apart (show IsS232 w0 _ g s0_0 s0_1 s0_2 from by repeat (first | (with_reducible first | exact HI0.out | apply IsS232.alloc | apply IsS232.drewN | apply IsS232.drew | apply IsS232.set_1 | apply IsS232.set_2 | refine IsS232.far ?_ NB0_159.out _) | exact HI0.out)) (by (with_reducible repeat (first | apply Kd.R_alloc | apply Kd.R_drewN | apply Kd.R_drew)); exact (Kd.R_mono (Kd.R_far (p := ⟨gb159, 4, none⟩) (Kd.R_far (p := ⟨gb159, 3, none⟩) (Kd.R_far (p := ⟨gb159, 2, none⟩) (Kd.R_far (p := ⟨gb159, 1, none⟩) (Kd.R_far (p := ⟨gb159, 0, none⟩) (Kd.R_mono HO4.out (fun k_ hk => (⟨hk, hk.2⟩ : _ ∧ k_ ≠ gb159))) (fun _ hk => hk.2) (.int .i64 a1)) (fun _ hk => hk.2) (.int .i64 a2)) (fun _ hk => hk.2) (.int .i64 0)) (fun _ hk => hk.2) (.string (⟨#[]⟩ : ByteArray))) (fun _ hk => hk.2) (.int .i64 0)) (fun _ h_ => h_.1))) (by decide)) hk (fun _ h => h.2)) (fun _ h => h.1)); have n1_ := Aside0.mk (KeepBut.blk hk (g' := gb159) (o := .cells #[.int .i64 a1, .int .i64 a2, .int .i64 0, .string (⟨#[]⟩ : ByteArray), .int .i64 0] 53 (0, 0)) (by (with_reducible repeat (first | refine blk_drewN ?_ _ | refine blk_drew ?_ | refine blk_alloc ?_ _)); refine blk_put (cs := #[.int .i64 a1, .int .i64 a2, .int .i64 0, .string (⟨#[]⟩ : ByteArray), .int .i64 0]) ?_ 4 _ rfl; (with_reducible repeat (first | refine blk_drewN ?_ _ | refine blk_drew ?_ | refine blk_alloc ?_ _)); refine blk_put (cs := #[.int .i64 a1, .int .i64 a2, .int .i64 0, .string (⟨#[]⟩ : ByteArray), .int .i64 0]) ?_ 3 _ rfl; (with_reducible repeat (first | refine blk_drewN ?_ _ | refine blk_drew ?_ | refine blk_alloc ?_ _)); refine blk_put (cs := #[.int .i64 a1, .int .i64 a2, .int .i64 0, .string (⟨#[]⟩ : ByteArray), .int .i64 0]) ?_ 2 _ rfl; (with_reducible repeat (first | refine blk_drewN ?_ _ | refine blk_drew ?_ | refine blk_alloc ?_ _)); refine blk_put (cs := #[.int .i64 a1, .int .i64 0, .int .i64 0, .string (⟨#[]⟩ : ByteArray), .int .i64 0]) ?_ 1 _ rfl; (with_reducible repeat (first | refine blk_drewN ?_ _ | refine blk_drew ?_ | refine blk_alloc ?_ _)); refine blk_put (cs := #[.int .i64 0, .int .i64 0, .int .i64 0, .string (⟨#[]⟩ : ByteArray), .int .i64 0]) ?_ 0 _ rfl; (with_reducible repeat (first | refine blk_drewN ?_ _ | refine blk_drew ?_ | refine blk_alloc ?_ _)); exact BK159.out) NB159_0.out (by simp)); have n2_ := Aside0.mk (Kept.of_keep (S := (fun k_ => (P4_ k_) ∨ k_ = g)) (by repeat (first | (with_reducible first | exact HK.out | apply Kept.alloc | apply Kept.drewN | apply Kept.drew | refine Kept.setCell ?_ (.inl (.inr rfl)) _ | refine Kept.setCell ?_ (.inr GW159.out) _) | exact HK.out)) hk (.inl (.inr rfl))); have n3_ := Aside0.mk (hb); have n4_ := Aside0.mk (hi); clear HO4; clear BK159; clear HK; clear HB; clear HI0; have HO4 := n0_; have BK159 := n1_; have HK := n2_; have HB := n3_; have HI0 := n4_; clear n0_ n1_ n2_ n3_ n4_; (try clear hb); (try clear hb2); (try clear hk); (try clear hi); have hnb18 := NB159_0.out; have hnc18 := NB0_159.out; have hcz19_0 : w17.cell? ⟨gb159, 0, none⟩ = some (.int .i64 a1) := (blk_cell BK159.out 0).trans rfl; have hcz19_1 : w17.cell? ⟨gb159, 1, none⟩ = some (.int .i64 a2) := (blk_cell BK159.out 1).trans rfl; have hcz19_2 : w17.cell? ⟨gb159, 2, none⟩ = some (.int .i64 0) := (blk_cell BK159.out 2).trans rfl; have hcz19_3 : w17.cell? ⟨gb159, 3, none⟩ = some (.string (⟨#[]⟩ : ByteArray)) := (blk_cell BK159.out 3).trans rfl; have hcz19_4 : w17.cell? ⟨gb159, 4, none⟩ = some (.int .i64 0) := (blk_cell BK159.out 4).trans rfl; have hfz19_0 := blk_frozen BK159.out 0; have hfz19_1 := blk_frozen BK159.out 1; have hfz19_2 := blk_frozen BK159.out 2; have hfz19_3 := blk_frozen BK159.out 3; have hfz19_4 := blk_frozen BK159.out 4))
        go_meet
        case rel => exact ⟨_, (t164), (t165), (t163), ((⟨#[]⟩ : ByteArray)), H', ⟨by first | omega | exact Nat.le_refl _⟩, ⟨by (with_reducible repeat (first | apply Kd.R_alloc | apply Kd.R_drewN | apply Kd.R_drew)); exact Kd.R_mono (Kd.R_far (p := ⟨gb159, 2, none⟩) (Kd.R_mono HO4.out (fun k_ hk => (⟨hk, hk.2⟩ : _ ∧ k_ ≠ gb159))) (fun _ hk => hk.2) (.int .i64 t163)) (fun _ hk => ⟨hk.1.1, hk.1.2⟩)⟩, ⟨by (with_reducible repeat (first | refine blk_drewN ?_ _ | refine blk_drew ?_ | refine blk_alloc ?_ _)); refine blk_put (cs := #[.int .i64 a1, .int .i64 a2, .int .i64 0, .string (⟨#[]⟩ : ByteArray), .int .i64 0]) ?_ 2 _ rfl; (with_reducible repeat (first | refine blk_drewN ?_ _ | refine blk_drew ?_ | refine blk_alloc ?_ _)); exact BK159.out⟩, ⟨by repeat (first | (with_reducible first | exact HI0.out | apply IsS232.alloc | apply IsS232.drewN | apply IsS232.drew | apply IsS232.set_1 | apply IsS232.set_2 | refine IsS232.far ?_ NB0_159.out _) | exact HI0.out)⟩, ⟨by repeat (first | (with_reducible first | exact HK.out | apply Kept.alloc | apply Kept.drewN | apply Kept.drew | refine Kept.setCell ?_ (.inl (.inr rfl)) _ | refine Kept.setCell ?_ (.inr GW159.out) _) | exact HK.out)⟩, ⟨by repeat (first | (with_reducible first | exact HB.out | apply below_alloc | apply pw_below_drewN | apply below_drew1 | refine below_set ?_ (IsS232.ge HI0.out) | refine below_set ?_ GE159.out) | exact HB.out)⟩⟩
      · rw [if_neg c15] at H
        have c15b0 : (a1 == 6) = false := beq_eq_false_iff_ne.mpr c15
        have c15b1 : (a1 != 6) = true := bne_iff_ne.mpr c15
        by_cases c20 : a1 = 8
        · rw [if_pos c20] at H
          have c20b0 : (a1 == 8) = true := beq_iff_eq.mpr c20
          have c20b1 : (a1 != 8) = false := bne_eq_false_iff_eq.mpr c20
          clear c20
          replace H := Option.bind_eq_some_iff.mp H
          obtain ⟨⟨t166, t167, t168⟩, A210, H⟩ := H
          replace H : (spec_l4DrawNode.j0 k a1 a3 l4 s0_0 t167 t168 a1 a2 0 t166 0) = some (r1, r2, r3) := H
          have A21 := Aside0.mk A210
          clear A210
          have H' := Aside0.mk H
          clear H
          go_wp2_with (first | ((with_reducible refine gate_callee (f := 251) rfl ?_); refine goesL_ (some 36) rfl rfl Try.func251 (by kernel_rfl) rfl #[.pointer (some ⟨g, 0, none⟩), .int .i64 5] rfl (by (try simp only [List.map_toArray, List.map_cons, List.map_nil]); first | done | rfl | (simp only [List.length_drop, List.length_take]; rfl)) ?_; (with_reducible refine (spec_l4DrawText.calls k g s0_0 s0_1 s0_2 5 t166 t167 t168 w0 _ ?side1 ?side2 A21.out).mono ?_); (case side1 => repeat (first | (with_reducible first | exact HI0.out | apply IsS232.alloc | apply IsS232.drewN | apply IsS232.drew | apply IsS232.set_1 | apply IsS232.set_2 | refine IsS232.far ?_ NB0_159.out _) | exact HI0.out)); (case side2 => repeat (first | (with_reducible first | exact HB.out | apply below_alloc | apply pw_below_drewN | apply below_drew1 | refine below_set ?_ (IsS232.ge HI0.out) | refine below_set ?_ GE159.out) | exact HB.out)); rintro e w22 ⟨rfl, hi, hb, hk⟩; refine ⟨_, rfl, ?_⟩; have n0_ := Aside0.mk (Kd.R_mono (Kd.R_keep (IsS232.apart (show IsS232 w0 _ g s0_0 s0_1 s0_2 from by repeat (first | (with_reducible first | exact HI0.out | apply IsS232.alloc | apply IsS232.drewN | apply IsS232.drew | apply IsS232.set_1 | apply IsS232.set_2 | refine IsS232.far ?_ NB0_159.out _) | exact HI0.out)) (by (with_reducible repeat (first | apply Kd.R_alloc | apply Kd.R_drewN | apply Kd.R_drew)); exact (Kd.R_mono (Kd.R_far (p := ⟨gb159, 4, none⟩) (Kd.R_far (p := ⟨gb159, 3, none⟩) (Kd.R_far (p := ⟨gb159, 2, none⟩) (Kd.R_far (p := ⟨gb159, 1, none⟩) (Kd.R_far (p := ⟨gb159, 0, none⟩) (Kd.R_mono HO4.out (fun k_ hk => (⟨hk, hk.2⟩ : _ ∧ k_ ≠ gb159))) (fun _ hk => hk.2) (.int .i64 a1)) (fun _ hk => hk.2) (.int .i64 a2)) (fun _ hk => hk.2) (.int .i64 0)) (fun _ hk => hk.2) (.string (⟨#[]⟩ : ByteArray))) (fun _ hk => hk.2) (.int .i64 0)) (fun _ h_ => h_.1))) (by decide)) hk (fun _ h => h.2)) (fun _ h => h.1)); have n1_ := Aside0.mk (KeepBut.blk hk (g' := gb159) (o := .cells #[.int .i64 a1, .int .i64 a2, .int .i64 0, .string (⟨#[]⟩ : ByteArray), .int .i64 0] 53 (0, 0)) (by (with_reducible repeat (first | refine blk_drewN ?_ _ | refine blk_drew ?_ | refine blk_alloc ?_ _)); refine blk_put (cs := #[.int .i64 a1, .int .i64 a2, .int .i64 0, .string (⟨#[]⟩ : ByteArray), .int .i64 0]) ?_ 4 _ rfl; (with_reducible repeat (first | refine blk_drewN ?_ _ | refine blk_drew ?_ | refine blk_alloc ?_ _)); refine blk_put (cs := #[.int .i64 a1, .int .i64 a2, .int .i64 0, .string (⟨#[]⟩ : ByteArray), .int .i64 0]) ?_ 3 _ rfl; (with_reducible repeat (first | refine blk_drewN ?_ _ | refine blk_drew ?_ | refine blk_alloc ?_ _)); refine blk_put (cs := #[.int .i64 a1, .int .i64 a2, .int .i64 0, .string (⟨#[]⟩ : ByteArray), .int .i64 0]) ?_ 2 _ rfl; (with_reducible repeat (first | refine blk_drewN ?_ _ | refine blk_drew ?_ | refine blk_alloc ?_ _)); refine blk_put (cs := #[.int .i64 a1, .int .i64 0, .int .i64 0, .string (⟨#[]⟩ : ByteArray), .int .i64 0]) ?_ 1 _ rfl; (with_reducible repeat (first | refine blk_drewN ?_ _ | refine blk_drew ?_ | refine blk_alloc ?_ _)); refine blk_put (cs := #[.int .i64 0, .int .i64 0, .int .i64 0, .string (⟨#[]⟩ : ByteArray), .int .i64 0]) ?_ 0 _ rfl; (with_reducible repeat (first | refine blk_drewN ?_ _ | refine blk_drew ?_ | refine blk_alloc ?_ _)); exact BK159.out) NB159_0.out (by simp)); have n2_ := Aside0.mk (Kept.of_keep (S := (fun k_ => (P4_ k_) ∨ k_ = g)) (by repeat (first | (with_reducible first | exact HK.out | apply Kept.alloc | apply Kept.drewN | apply Kept.drew | refine Kept.setCell ?_ (.inl (.inr rfl)) _ | refine Kept.setCell ?_ (.inr GW159.out) _) | exact HK.out)) hk (.inl (.inr rfl))); have n3_ := Aside0.mk (hb); have n4_ := Aside0.mk (hi); clear HO4; clear BK159; clear HK; clear HB; clear HI0; have HO4 := n0_; have BK159 := n1_; have HK := n2_; have HB := n3_; have HI0 := n4_; clear n0_ n1_ n2_ n3_ n4_; (try clear hb); (try clear hb2); (try clear hk); (try clear hi); have hnb23 := NB159_0.out; have hnc23 := NB0_159.out; have hcz24_0 : w22.cell? ⟨gb159, 0, none⟩ = some (.int .i64 a1) := (blk_cell BK159.out 0).trans rfl; have hcz24_1 : w22.cell? ⟨gb159, 1, none⟩ = some (.int .i64 a2) := (blk_cell BK159.out 1).trans rfl; have hcz24_2 : w22.cell? ⟨gb159, 2, none⟩ = some (.int .i64 0) := (blk_cell BK159.out 2).trans rfl; have hcz24_3 : w22.cell? ⟨gb159, 3, none⟩ = some (.string (⟨#[]⟩ : ByteArray)) := (blk_cell BK159.out 3).trans rfl; have hcz24_4 : w22.cell? ⟨gb159, 4, none⟩ = some (.int .i64 0) := (blk_cell BK159.out 4).trans rfl; have hfz24_0 := blk_frozen BK159.out 0; have hfz24_1 := blk_frozen BK159.out 1; have hfz24_2 := blk_frozen BK159.out 2; have hfz24_3 := blk_frozen BK159.out 3; have hfz24_4 := blk_frozen BK159.out 4))
          go_meet
          case rel => exact ⟨_, (t167), (t168), (0), (t166), H', ⟨by first | omega | exact Nat.le_refl _⟩, ⟨by (with_reducible repeat (first | apply Kd.R_alloc | apply Kd.R_drewN | apply Kd.R_drew)); exact Kd.R_mono (Kd.R_far (p := ⟨gb159, 3, none⟩) (Kd.R_mono HO4.out (fun k_ hk => (⟨hk, hk.2⟩ : _ ∧ k_ ≠ gb159))) (fun _ hk => hk.2) (.string t166)) (fun _ hk => ⟨hk.1.1, hk.1.2⟩)⟩, ⟨by (with_reducible repeat (first | refine blk_drewN ?_ _ | refine blk_drew ?_ | refine blk_alloc ?_ _)); refine blk_put (cs := #[.int .i64 a1, .int .i64 a2, .int .i64 0, .string (⟨#[]⟩ : ByteArray), .int .i64 0]) ?_ 3 _ rfl; (with_reducible repeat (first | refine blk_drewN ?_ _ | refine blk_drew ?_ | refine blk_alloc ?_ _)); exact BK159.out⟩, ⟨by repeat (first | (with_reducible first | exact HI0.out | apply IsS232.alloc | apply IsS232.drewN | apply IsS232.drew | apply IsS232.set_1 | apply IsS232.set_2 | refine IsS232.far ?_ NB0_159.out _) | exact HI0.out)⟩, ⟨by repeat (first | (with_reducible first | exact HK.out | apply Kept.alloc | apply Kept.drewN | apply Kept.drew | refine Kept.setCell ?_ (.inl (.inr rfl)) _ | refine Kept.setCell ?_ (.inr GW159.out) _) | exact HK.out)⟩, ⟨by repeat (first | (with_reducible first | exact HB.out | apply below_alloc | apply pw_below_drewN | apply below_drew1 | refine below_set ?_ (IsS232.ge HI0.out) | refine below_set ?_ GE159.out) | exact HB.out)⟩⟩
        · rw [if_neg c20] at H
          have c20b0 : (a1 == 8) = false := beq_eq_false_iff_ne.mpr c20
          have c20b1 : (a1 != 8) = true := bne_iff_ne.mpr c20
          have H' := Aside0.mk H
          clear H
          go_wp2
          go_meet
          case rel => exact ⟨_, (s0_1), (s0_2), (0), ((⟨#[]⟩ : ByteArray)), H', ⟨by first | omega | exact Nat.le_refl _⟩, ⟨by (with_reducible repeat (first | apply Kd.R_alloc | apply Kd.R_drewN | apply Kd.R_drew)); exact Kd.R_mono (Kd.R_far (p := ⟨gb159, 4, none⟩) (Kd.R_far (p := ⟨gb159, 3, none⟩) (Kd.R_far (p := ⟨gb159, 2, none⟩) (Kd.R_far (p := ⟨gb159, 1, none⟩) (Kd.R_far (p := ⟨gb159, 0, none⟩) (Kd.R_mono HO4.out (fun k_ hk => (⟨hk, hk.2⟩ : _ ∧ k_ ≠ gb159))) (fun _ hk => hk.2) (.int .i64 a1)) (fun _ hk => hk.2) (.int .i64 a2)) (fun _ hk => hk.2) (.int .i64 0)) (fun _ hk => hk.2) (.string (⟨#[]⟩ : ByteArray))) (fun _ hk => hk.2) (.int .i64 0)) (fun _ hk => ⟨hk.1.1, hk.1.2⟩)⟩, ⟨by (with_reducible repeat (first | refine blk_drewN ?_ _ | refine blk_drew ?_ | refine blk_alloc ?_ _)); refine blk_put (cs := #[.int .i64 a1, .int .i64 a2, .int .i64 0, .string (⟨#[]⟩ : ByteArray), .int .i64 0]) ?_ 4 _ rfl; (with_reducible repeat (first | refine blk_drewN ?_ _ | refine blk_drew ?_ | refine blk_alloc ?_ _)); refine blk_put (cs := #[.int .i64 a1, .int .i64 a2, .int .i64 0, .string (⟨#[]⟩ : ByteArray), .int .i64 0]) ?_ 3 _ rfl; (with_reducible repeat (first | refine blk_drewN ?_ _ | refine blk_drew ?_ | refine blk_alloc ?_ _)); refine blk_put (cs := #[.int .i64 a1, .int .i64 a2, .int .i64 0, .string (⟨#[]⟩ : ByteArray), .int .i64 0]) ?_ 2 _ rfl; (with_reducible repeat (first | refine blk_drewN ?_ _ | refine blk_drew ?_ | refine blk_alloc ?_ _)); refine blk_put (cs := #[.int .i64 a1, .int .i64 0, .int .i64 0, .string (⟨#[]⟩ : ByteArray), .int .i64 0]) ?_ 1 _ rfl; (with_reducible repeat (first | refine blk_drewN ?_ _ | refine blk_drew ?_ | refine blk_alloc ?_ _)); refine blk_put (cs := #[.int .i64 0, .int .i64 0, .int .i64 0, .string (⟨#[]⟩ : ByteArray), .int .i64 0]) ?_ 0 _ rfl; (with_reducible repeat (first | refine blk_drewN ?_ _ | refine blk_drew ?_ | refine blk_alloc ?_ _)); exact BK159.out⟩, ⟨by repeat (first | (with_reducible first | exact HI0.out | apply IsS232.alloc | apply IsS232.drewN | apply IsS232.drew | apply IsS232.set_1 | apply IsS232.set_2 | refine IsS232.far ?_ NB0_159.out _) | exact HI0.out)⟩, ⟨by repeat (first | (with_reducible first | exact HK.out | apply Kept.alloc | apply Kept.drewN | apply Kept.drew | refine Kept.setCell ?_ (.inl (.inr rfl)) _ | refine Kept.setCell ?_ (.inr GW159.out) _) | exact HK.out)⟩, ⟨by repeat (first | (with_reducible first | exact HB.out | apply below_alloc | apply pw_below_drewN | apply below_drew1 | refine below_set ?_ (IsS232.ge HI0.out) | refine below_set ?_ GE159.out) | exact HB.out)⟩⟩
  case rest =>
    clear HC6
    try clear c1
    try clear c2
    try clear p2
    try clear p6
    try clear c8
    try clear c10
    try clear c10b0
    try clear c10b1
    try clear c13
    try clear c15
    try clear c15b0
    try clear c15b1
    try clear c16
    try clear c18
    try clear c20
    try clear c20b0
    try clear c20b1
    try clear c23
    try clear hcz14_0
    try clear hcz14_1
    try clear hcz14_2
    try clear hcz14_3
    try clear hcz14_4
    try clear hcz19_0
    try clear hcz19_1
    try clear hcz19_2
    try clear hcz19_3
    try clear hcz19_4
    try clear hcz24_0
    try clear hcz24_1
    try clear hcz24_2
    try clear hcz24_3
    try clear hcz24_4
    try clear hcz9_0
    try clear hcz9_1
    try clear hcz9_2
    try clear hcz9_3
    try clear hcz9_4
    try clear hfz14_0
    try clear hfz14_1
    try clear hfz14_2
    try clear hfz14_3
    try clear hfz14_4
    try clear hfz19_0
    try clear hfz19_1
    try clear hfz19_2
    try clear hfz19_3
    try clear hfz19_4
    try clear hfz24_0
    try clear hfz24_1
    try clear hfz24_2
    try clear hfz24_3
    try clear hfz24_4
    try clear hfz9_0
    try clear hfz9_1
    try clear hfz9_2
    try clear hfz9_3
    try clear hfz9_4
    obtain ⟨kq, x1001_5, x1002_5, x160002_5, x160003_5, HA, HJ5, HO_4, BK159, HI0, HK, HB⟩ := hcut
    cases kq with
    | zero => exact absurd HA.out (by simp [spec_l4DrawNode.j0])
    | succ kj5 =>
      have H := HA.out
      clear HA
      simp only [spec_l4DrawNode.j0] at H
      by_cases c25 : l4.length < 2932031007402
      · rw [if_pos c25] at H
        have LMc25 := Aside0.mk c25
        clear c25
        obtain ⟨y169, hy169⟩ : ∃ y_ : List (S53), y_ = (l4 ++ [(⟨a1, a2, x160002_5, x160003_5, 0⟩ : S53)]) := ⟨_, rfl⟩
        replace H : (if a1 = 9 then (spec_l4DrawNode.j1 kj5 a1 a3 y169 (l4.length : Int) false s0_0 x1001_5 x1002_5) else (spec_l4DrawNode.j1 kj5 a1 a3 y169 (l4.length : Int) (a1 != 12) s0_0 x1001_5 x1002_5)) = some (r1, r2, r3) := by first | (rw [hy169]; with_reducible exact H) | (have H2_ := (Option.bind_some _ _).symm.trans H; rw [hy169]; with_reducible exact H2_) | (have H2_ := (Option.bind_some _ _).symm.trans H; with_reducible exact H2_) | with_reducible exact H | (rw [hy169]; exact H) | exact H
        have Ny169 := Aside0.mk hy169
        clear hy169
        have HC26 := Aside0.mk H
        clear H
        obtain ⟨Ao27, co27, eo27⟩ := Kd.R_slice HO_4.out
        subst eo27
        have hnb28 := NB159_0.out
        have hnc28 := NB0_159.out
        have hcz29_0 : wc.cell? ⟨gb159, 0, none⟩ = some (.int .i64 a1) := (blk_cell BK159.out 0).trans rfl
        have hcz29_1 : wc.cell? ⟨gb159, 1, none⟩ = some (.int .i64 a2) := (blk_cell BK159.out 1).trans rfl
        have hcz29_2 : wc.cell? ⟨gb159, 2, none⟩ = some (.int .i64 x160002_5) := (blk_cell BK159.out 2).trans rfl
        have hcz29_3 : wc.cell? ⟨gb159, 3, none⟩ = some (.string x160003_5) := (blk_cell BK159.out 3).trans rfl
        have hcz29_4 : wc.cell? ⟨gb159, 4, none⟩ = some (.int .i64 0) := (blk_cell BK159.out 4).trans rfl
        have hfz29_0 := blk_frozen BK159.out 0
        have hfz29_1 := blk_frozen BK159.out 1
        have hfz29_2 := blk_frozen BK159.out 2
        have hfz29_3 := blk_frozen BK159.out 3
        have hfz29_4 := blk_frozen BK159.out 4
        go_upto_region 11 with (first | ((with_reducible refine gate_builtin (b := .append) (xs := #[.tmp 40, .tmp 42]) rfl ?_); at_builtin; refine Kd.R_append k53 (w0 := w0) w0.heap.size rfl (.tmp 40) (.tmp 42) 47 53 (.agg #[(.int .i64 0), (.int .i64 0), (.int .i64 0), (.string ⟨#[]⟩), (.int .i64 0)]) 48 rfl Try.underlying47 info53 rfl (by decide) (by omega) (.slice Ao27 l4.length co27) l4 (⟨a1, a2, x160002_5, x160003_5, 0⟩ : S53) [.int .i64 a1, .int .i64 a2, .int .i64 x160002_5, .string x160003_5, .int .i64 0] (fun k_ => (P4_ k_ ∨ w.heap.size ≤ k_) ∧ k_ ≠ gb159) (fun _ => False) rfl rfl ?aP (fun _ hk => hk.elim) ?aF ?aO ?aB ?aS ?aL ?_; (case aP => exact k53_mkM _ _ _ (⟨a1, a2, x160002_5, x160003_5, 0⟩ : S53)); (case aB => exact (by repeat (first | (with_reducible first | exact HB.out | apply below_alloc | apply pw_below_drewN | apply below_drew1 | refine below_set ?_ (IsS232.ge HI0.out) | refine below_set ?_ GE159.out) | exact HB.out))); (case aF => exact (fun k_ hk => ⟨(.inr (Nat.le_trans (by first | exact HK.out.1 | exact (show Kept w _ (fun k_ => (P4_ k_) ∨ k_ = g) from by repeat (first | (with_reducible first | exact HK.out | apply Kept.alloc | apply Kept.drewN | apply Kept.drew | refine Kept.setCell ?_ (.inl (.inr rfl)) _ | refine Kept.setCell ?_ (.inr GW159.out) _) | exact HK.out)).1) hk)), Kd.freshB (g := gb159) (o := .cells #[.int .i64 a1, .int .i64 a2, .int .i64 x160002_5, .string x160003_5, .int .i64 0] 53 (0, 0)) (by (with_reducible repeat (first | refine blk_drewN ?_ _ | refine blk_drew ?_ | refine blk_alloc ?_ _)); exact BK159.out) k_ hk⟩)); (case aO => exact (by (with_reducible repeat (first | apply Kd.R_alloc | apply Kd.R_drewN | apply Kd.R_drew)); exact HO_4.out)); (case aS => exact (below_size (by repeat (first | (with_reducible first | exact HB.out | apply below_alloc | apply pw_below_drewN | apply below_drew1 | refine below_set ?_ (IsS232.ge HI0.out) | refine below_set ?_ GE159.out) | exact HB.out)))); (case aL => have := LMc25.out; omega); intro v170 w30 ho hb hg hat; rw [← Ny169.out] at ho; have n0_ := Aside0.mk (blk_grown (g := gb159) (o := .cells #[.int .i64 a1, .int .i64 a2, .int .i64 x160002_5, .string x160003_5, .int .i64 0] 53 (0, 0)) (by (with_reducible repeat (first | refine blk_drewN ?_ _ | refine blk_drew ?_ | refine blk_alloc ?_ _)); exact BK159.out) hg (Kd.R_away HO_4.out (fun _ hk => hk.2))); have n1_ := Aside0.mk (IsS232.grown (by repeat (first | (with_reducible first | exact HI0.out | apply IsS232.alloc | apply IsS232.drewN | apply IsS232.drew | apply IsS232.set_1 | apply IsS232.set_2 | refine IsS232.far ?_ NB0_159.out _) | exact HI0.out)) hg (IsS232.own_ne HI0.out HO_4.out (by decide))); have n2_ := Aside0.mk (hb); have n3_ := Aside0.mk (Kept.of_grown (S := (fun k_ => (P4_ k_) ∨ k_ = g)) hg (by repeat (first | (with_reducible first | exact HK.out | apply Kept.alloc | apply Kept.drewN | apply Kept.drew | refine Kept.setCell ?_ (.inl (.inr rfl)) _ | refine Kept.setCell ?_ (.inr GW159.out) _) | exact HK.out)) (fun k_ e_ => Or.imp_left Or.inl ((HO_4.out.1 k_ e_).1))); have n4_ := Aside0.mk (ho); clear BK159; clear HI0; clear HB; clear HK; clear HO_4; have BK159 := n0_; have HI0 := n1_; have HB := n2_; have HK := n3_; have HO171 := n4_; clear n0_ n1_ n2_ n3_ n4_; clear ho hb hg hat))
        (try simp only [Act.put, List.setIfInBounds_toArray, List.set_cons_zero, List.set_cons_succ])
        go_cut [49] (fun v49 wc => ∃ (kq : Nat) (x49_25 : Bool), v49 = .bool x49_25 ∧ Aside0 (spec_l4DrawNode.j1 kq a1 a3 y169 (l4.length : Int) x49_25 s0_0 x1001_5 x1002_5 = some (r1, r2, r3)) ∧ Aside0 (kq ≤ kj5) ∧ Aside0 (Kd.R k53 53 wc w0.heap.size (fun k_ => (P4_ k_ ∨ w.heap.size ≤ k_) ∧ k_ ≠ gb159) v170 y169) ∧ Aside0 (wc.heap[gb159]? = some (.cells #[.int .i64 a1, .int .i64 a2, .int .i64 x160002_5, .string x160003_5, .int .i64 0] 53 (0, 0))) ∧ Aside0 (IsS232 w0 wc g s0_0 x1001_5 x1002_5) ∧ Aside0 (Kept w wc (fun k_ => (P4_ k_) ∨ k_ = g)) ∧ Aside0 (Below w0.heap.size w0 wc))
        case first =>
          have H := HC26.out
          clear HC26
          by_cases c31 : a1 = 9
          · rw [if_pos c31] at H
            have c31b0 : (a1 == 9) = true := beq_iff_eq.mpr c31
            have c31b1 : (a1 != 9) = false := bne_eq_false_iff_eq.mpr c31
            clear c31
            (first | rw [c31b0] | rw [c31b1] | (simp only [i64_w, i32_w]; rw [c31b0]) | skip)
            have H' := Aside0.mk H
            clear H
            go_wp2
            go_meet
            case rel => exact ⟨_, (false), (by first | rfl | (simp; done) | (simp [*]; done)), H', ⟨by have := HJ5.out; first | omega | exact Nat.le_refl _⟩, ⟨by (with_reducible repeat (first | apply Kd.R_alloc | apply Kd.R_drewN | apply Kd.R_drew)); exact HO171.out⟩, ⟨by (with_reducible repeat (first | refine blk_drewN ?_ _ | refine blk_drew ?_ | refine blk_alloc ?_ _)); exact BK159.out⟩, ⟨by repeat (first | (with_reducible first | exact HI0.out | apply IsS232.alloc | apply IsS232.drewN | apply IsS232.drew | apply IsS232.set_1 | apply IsS232.set_2 | refine IsS232.far ?_ NB0_159.out _) | exact HI0.out)⟩, ⟨by repeat (first | (with_reducible first | exact HK.out | apply Kept.alloc | apply Kept.drewN | apply Kept.drew | refine Kept.setCell ?_ (.inl (.inr rfl)) _ | refine Kept.setCell ?_ (.inr GW159.out) _) | exact HK.out)⟩, ⟨by repeat (first | (with_reducible first | exact HB.out | apply below_alloc | apply pw_below_drewN | apply below_drew1 | refine below_set ?_ (IsS232.ge HI0.out) | refine below_set ?_ GE159.out) | exact HB.out)⟩⟩
          · rw [if_neg c31] at H
            have c31b0 : (a1 == 9) = false := beq_eq_false_iff_ne.mpr c31
            have c31b1 : (a1 != 9) = true := bne_iff_ne.mpr c31
            (first | rw [c31b0] | rw [c31b1] | (simp only [i64_w, i32_w]; rw [c31b0]) | skip)
            have H' := Aside0.mk H
            clear H
            go_wp2
            go_meet
            case rel => exact ⟨_, ((a1 != 12)), (by first | rfl | (simp; done) | (simp [*]; done)), H', ⟨by have := HJ5.out; first | omega | exact Nat.le_refl _⟩, ⟨by (with_reducible repeat (first | apply Kd.R_alloc | apply Kd.R_drewN | apply Kd.R_drew)); exact HO171.out⟩, ⟨by (with_reducible repeat (first | refine blk_drewN ?_ _ | refine blk_drew ?_ | refine blk_alloc ?_ _)); exact BK159.out⟩, ⟨by repeat (first | (with_reducible first | exact HI0.out | apply IsS232.alloc | apply IsS232.drewN | apply IsS232.drew | apply IsS232.set_1 | apply IsS232.set_2 | refine IsS232.far ?_ NB0_159.out _) | exact HI0.out)⟩, ⟨by repeat (first | (with_reducible first | exact HK.out | apply Kept.alloc | apply Kept.drewN | apply Kept.drew | refine Kept.setCell ?_ (.inl (.inr rfl)) _ | refine Kept.setCell ?_ (.inr GW159.out) _) | exact HK.out)⟩, ⟨by repeat (first | (with_reducible first | exact HB.out | apply below_alloc | apply pw_below_drewN | apply below_drew1 | refine below_set ?_ (IsS232.ge HI0.out) | refine below_set ?_ GE159.out) | exact HB.out)⟩⟩
        case rest =>
          clear HC26
          try clear c1
          try clear c2
          try clear p2
          try clear c3
          try clear p6
          try clear c8
          try clear c10
          try clear c10b0
          try clear c10b1
          try clear c13
          try clear c15
          try clear c15b0
          try clear c15b1
          try clear c16
          try clear c18
          try clear c20
          try clear c20b0
          try clear c20b1
          try clear c23
          try clear c25
          try clear c28
          try clear c31
          try clear c31b0
          try clear c31b1
          try clear hcz14_0
          try clear hcz14_1
          try clear hcz14_2
          try clear hcz14_3
          try clear hcz14_4
          try clear hcz19_0
          try clear hcz19_1
          try clear hcz19_2
          try clear hcz19_3
          try clear hcz19_4
          try clear hcz24_0
          try clear hcz24_1
          try clear hcz24_2
          try clear hcz24_3
          try clear hcz24_4
          try clear hcz29_0
          try clear hcz29_1
          try clear hcz29_2
          try clear hcz29_3
          try clear hcz29_4
          try clear hcz9_0
          try clear hcz9_1
          try clear hcz9_2
          try clear hcz9_3
          try clear hcz9_4
          try clear hfz14_0
          try clear hfz14_1
          try clear hfz14_2
          try clear hfz14_3
          try clear hfz14_4
          try clear hfz19_0
          try clear hfz19_1
          try clear hfz19_2
          try clear hfz19_3
          try clear hfz19_4
          try clear hfz24_0
          try clear hfz24_1
          try clear hfz24_2
          try clear hfz24_3
          try clear hfz24_4
          try clear hfz29_0
          try clear hfz29_1
          try clear hfz29_2
          try clear hfz29_3
          try clear hfz29_4
          try clear hfz9_0
          try clear hfz9_1
          try clear hfz9_2
          try clear hfz9_3
          try clear hfz9_4
          try clear p2
          try clear p6
          obtain ⟨kq, x49_25, rfl, HA, HJ25, HO_4, BK159, HI0, HK, HB⟩ := hcut
          cases kq with
          | zero => exact absurd HA.out (by simp [spec_l4DrawNode.j1])
          | succ kj25 =>
            have H := HA.out
            clear HA
            simp only [spec_l4DrawNode.j1] at H
            by_cases c32 : x49_25 = true
            · subst c32
              have H1 : (some (y169, x1001_5, x1002_5)) = some (r1, r2, r3) := by rw [if_pos rfl] at H; exact H
              clear H
              have H := H1
              clear H1
              simp only [Option.some.injEq, Prod.mk.injEq] at H
              obtain ⟨rfl, rfl, rfl⟩ := H
              go_wp2
              go_ret
              exact ⟨_, by first | rfl | (simp [errW_none, errW_some] <;> rfl) | (simp [*, errW_none, errW_some] <;> rfl), by (with_reducible repeat (first | apply Kd.R_alloc | apply Kd.R_drewN | apply Kd.R_drew)); exact Kd.R_mono HO_4.out (fun _ hk => hk.1), by repeat (first | (with_reducible first | exact HI0.out | apply IsS232.alloc | apply IsS232.drewN | apply IsS232.drew | apply IsS232.set_1 | apply IsS232.set_2 | refine IsS232.far ?_ NB0_159.out _) | exact HI0.out), by repeat (first | (with_reducible first | exact HB.out | apply below_alloc | apply pw_below_drewN | apply below_drew1 | refine below_set ?_ (IsS232.ge HI0.out) | refine below_set ?_ GE159.out) | exact HB.out), by repeat (first | (with_reducible first | exact HK.out | apply Kept.alloc | apply Kept.drewN | apply Kept.drew | refine Kept.setCell ?_ (.inl (.inr rfl)) _ | refine Kept.setCell ?_ (.inr GW159.out) _) | exact HK.out)⟩
            · replace c32 := Bool.eq_false_iff.mpr c32
              subst c32
              have H1 : ((spec_l1Below.f s0_0 x1001_5 x1002_5 4).bind fun bt172 => (if a3 = 0 then (spec_l4DrawNode.j2 kj25 a1 a3 y169 (l4.length : Int) 0 s0_0 bt172.2.1 bt172.2.2) else (spec_l4DrawNode.j2 kj25 a1 a3 y169 (l4.length : Int) bt172.1 s0_0 bt172.2.1 bt172.2.2))) = some (r1, r2, r3) := by rw [if_neg (show ¬ (false = true) by decide)] at H; exact H
              clear H
              have H := H1
              clear H1
              replace H := Option.bind_eq_some_iff.mp H
              obtain ⟨⟨t172, t173, t174⟩, A330, H⟩ := H
              replace H : (if a3 = 0 then (spec_l4DrawNode.j2 kj25 a1 a3 y169 (l4.length : Int) 0 s0_0 t173 t174) else (spec_l4DrawNode.j2 kj25 a1 a3 y169 (l4.length : Int) t172 s0_0 t173 t174)) = some (r1, r2, r3) := H
              have A33 := Aside0.mk A330
              clear A330
              have HC34 := Aside0.mk H
              clear H
              go_upto_if 54 with (first | ((with_reducible refine gate_callee (f := 162) rfl ?_); refine goesL_ (some 52) rfl rfl Try.func162 (by kernel_rfl) rfl #[.pointer (some ⟨g, 0, none⟩), .int .i64 4] rfl (by (try simp only [List.map_toArray, List.map_cons, List.map_nil]); first | done | rfl | (simp only [List.length_drop, List.length_take]; rfl)) ?_; (with_reducible refine (spec_l1Below.calls g s0_0 x1001_5 x1002_5 4 t172 t173 t174 w0 _ ?side1 ?side2 A33.out).mono ?_); (case side1 => repeat (first | (with_reducible first | exact HI0.out | apply IsS232.alloc | apply IsS232.drewN | apply IsS232.drew | apply IsS232.set_1 | apply IsS232.set_2 | refine IsS232.far ?_ NB0_159.out _) | exact HI0.out)); (case side2 => repeat (first | (with_reducible first | exact HB.out | apply below_alloc | apply pw_below_drewN | apply below_drew1 | refine below_set ?_ (IsS232.ge HI0.out) | refine below_set ?_ GE159.out) | exact HB.out)); rintro e w35 ⟨rfl, hi, hb, hk⟩; refine ⟨_, rfl, ?_⟩; have n0_ := Aside0.mk (Kd.R_mono (Kd.R_keep (IsS232.apart (show IsS232 w0 _ g s0_0 x1001_5 x1002_5 from by repeat (first | (with_reducible first | exact HI0.out | apply IsS232.alloc | apply IsS232.drewN | apply IsS232.drew | apply IsS232.set_1 | apply IsS232.set_2 | refine IsS232.far ?_ NB0_159.out _) | exact HI0.out)) (by (with_reducible repeat (first | apply Kd.R_alloc | apply Kd.R_drewN | apply Kd.R_drew)); exact HO_4.out) (by decide)) hk (fun _ h => h.2)) (fun _ h => h.1)); have n1_ := Aside0.mk (KeepBut.blk hk (g' := gb159) (o := .cells #[.int .i64 a1, .int .i64 a2, .int .i64 x160002_5, .string x160003_5, .int .i64 0] 53 (0, 0)) (by (with_reducible repeat (first | refine blk_drewN ?_ _ | refine blk_drew ?_ | refine blk_alloc ?_ _)); exact BK159.out) NB159_0.out (by simp)); have n2_ := Aside0.mk (Kept.of_keep (S := (fun k_ => (P4_ k_) ∨ k_ = g)) (by repeat (first | (with_reducible first | exact HK.out | apply Kept.alloc | apply Kept.drewN | apply Kept.drew | refine Kept.setCell ?_ (.inl (.inr rfl)) _ | refine Kept.setCell ?_ (.inr GW159.out) _) | exact HK.out)) hk (.inl (.inr rfl))); have n3_ := Aside0.mk (hb); have n4_ := Aside0.mk (hi); clear HO_4; clear BK159; clear HK; clear HB; clear HI0; have HO_4 := n0_; have BK159 := n1_; have HK := n2_; have HB := n3_; have HI0 := n4_; clear n0_ n1_ n2_ n3_ n4_; (try clear hb); (try clear hb2); (try clear hk); (try clear hi)))
              (try simp only [Act.put, List.setIfInBounds_toArray, List.set_cons_zero, List.set_cons_succ])
              go_cut [13] (fun v13 wc => ∃ (kq : Nat) (x13_33 : Int), v13 = .int .i64 x13_33 ∧ Aside0 (spec_l4DrawNode.j2 kq a1 a3 y169 (l4.length : Int) x13_33 s0_0 t173 t174 = some (r1, r2, r3)) ∧ Aside0 (kq ≤ kj25) ∧ Aside0 (Kd.R k53 53 wc w0.heap.size (fun k_ => (P4_ k_ ∨ w.heap.size ≤ k_) ∧ k_ ≠ gb159) v170 y169) ∧ Aside0 (wc.heap[gb159]? = some (.cells #[.int .i64 a1, .int .i64 a2, .int .i64 x160002_5, .string x160003_5, .int .i64 0] 53 (0, 0))) ∧ Aside0 (IsS232 w0 wc g s0_0 t173 t174) ∧ Aside0 (Kept w wc (fun k_ => (P4_ k_) ∨ k_ = g)) ∧ Aside0 (Below w0.heap.size w0 wc))
              case first =>
                have H := HC34.out
                clear HC34
                by_cases c36 : a3 = 0
                · rw [if_pos c36] at H
                  have c36b0 : (a3 == 0) = true := beq_iff_eq.mpr c36
                  have c36b1 : (a3 != 0) = false := bne_eq_false_iff_eq.mpr c36
                  clear c36
                  (first | rw [c36b0] | rw [c36b1] | (simp only [i64_w, i32_w]; rw [c36b0]) | skip)
                  have H' := Aside0.mk H
                  clear H
                  go_wp2
                  go_meet
                  case rel => exact ⟨_, (0), (by first | rfl | (simp; done) | (simp [*]; done)), H', ⟨by have := HJ5.out; have := HJ25.out; first | omega | exact Nat.le_refl _⟩, ⟨by (with_reducible repeat (first | apply Kd.R_alloc | apply Kd.R_drewN | apply Kd.R_drew)); exact HO_4.out⟩, ⟨by (with_reducible repeat (first | refine blk_drewN ?_ _ | refine blk_drew ?_ | refine blk_alloc ?_ _)); exact BK159.out⟩, ⟨by repeat (first | (with_reducible first | exact HI0.out | apply IsS232.alloc | apply IsS232.drewN | apply IsS232.drew | apply IsS232.set_1 | apply IsS232.set_2 | refine IsS232.far ?_ NB0_159.out _) | exact HI0.out)⟩, ⟨by repeat (first | (with_reducible first | exact HK.out | apply Kept.alloc | apply Kept.drewN | apply Kept.drew | refine Kept.setCell ?_ (.inl (.inr rfl)) _ | refine Kept.setCell ?_ (.inr GW159.out) _) | exact HK.out)⟩, ⟨by repeat (first | (with_reducible first | exact HB.out | apply below_alloc | apply pw_below_drewN | apply below_drew1 | refine below_set ?_ (IsS232.ge HI0.out) | refine below_set ?_ GE159.out) | exact HB.out)⟩⟩
                · rw [if_neg c36] at H
                  have c36b0 : (a3 == 0) = false := beq_eq_false_iff_ne.mpr c36
                  have c36b1 : (a3 != 0) = true := bne_iff_ne.mpr c36
                  (first | rw [c36b0] | rw [c36b1] | (simp only [i64_w, i32_w]; rw [c36b0]) | skip)
                  have H' := Aside0.mk H
                  clear H
                  go_wp2
                  go_meet
                  case rel => exact ⟨_, (t172), (by first | rfl | (simp; done) | (simp [*]; done)), H', ⟨by have := HJ5.out; have := HJ25.out; first | omega | exact Nat.le_refl _⟩, ⟨by (with_reducible repeat (first | apply Kd.R_alloc | apply Kd.R_drewN | apply Kd.R_drew)); exact HO_4.out⟩, ⟨by (with_reducible repeat (first | refine blk_drewN ?_ _ | refine blk_drew ?_ | refine blk_alloc ?_ _)); exact BK159.out⟩, ⟨by repeat (first | (with_reducible first | exact HI0.out | apply IsS232.alloc | apply IsS232.drewN | apply IsS232.drew | apply IsS232.set_1 | apply IsS232.set_2 | refine IsS232.far ?_ NB0_159.out _) | exact HI0.out)⟩, ⟨by repeat (first | (with_reducible first | exact HK.out | apply Kept.alloc | apply Kept.drewN | apply Kept.drew | refine Kept.setCell ?_ (.inl (.inr rfl)) _ | refine Kept.setCell ?_ (.inr GW159.out) _) | exact HK.out)⟩, ⟨by repeat (first | (with_reducible first | exact HB.out | apply below_alloc | apply pw_below_drewN | apply below_drew1 | refine below_set ?_ (IsS232.ge HI0.out) | refine below_set ?_ GE159.out) | exact HB.out)⟩⟩
              case rest =>
                clear HC34
                try clear c1
                try clear c2
                try clear p2
                try clear c3
                try clear p6
                try clear c8
                try clear c10
                try clear c10b0
                try clear c10b1
                try clear c13
                try clear c15
                try clear c15b0
                try clear c15b1
                try clear c16
                try clear c18
                try clear c20
                try clear c20b0
                try clear c20b1
                try clear c23
                try clear c25
                try clear c28
                try clear c31
                try clear c31b0
                try clear c31b1
                try clear c32
                try clear c36
                try clear c36b0
                try clear c36b1
                try clear hcz14_0
                try clear hcz14_1
                try clear hcz14_2
                try clear hcz14_3
                try clear hcz14_4
                try clear hcz19_0
                try clear hcz19_1
                try clear hcz19_2
                try clear hcz19_3
                try clear hcz19_4
                try clear hcz24_0
                try clear hcz24_1
                try clear hcz24_2
                try clear hcz24_3
                try clear hcz24_4
                try clear hcz29_0
                try clear hcz29_1
                try clear hcz29_2
                try clear hcz29_3
                try clear hcz29_4
                try clear hcz9_0
                try clear hcz9_1
                try clear hcz9_2
                try clear hcz9_3
                try clear hcz9_4
                try clear hfz14_0
                try clear hfz14_1
                try clear hfz14_2
                try clear hfz14_3
                try clear hfz14_4
                try clear hfz19_0
                try clear hfz19_1
                try clear hfz19_2
                try clear hfz19_3
                try clear hfz19_4
                try clear hfz24_0
                try clear hfz24_1
                try clear hfz24_2
                try clear hfz24_3
                try clear hfz24_4
                try clear hfz29_0
                try clear hfz29_1
                try clear hfz29_2
                try clear hfz29_3
                try clear hfz29_4
                try clear hfz9_0
                try clear hfz9_1
                try clear hfz9_2
                try clear hfz9_3
                try clear hfz9_4
                try clear p2
                try clear p6
                obtain ⟨kq, x13_33, rfl, HA, HJ33, HO_4, BK159, HI0, HK, HB⟩ := hcut
                cases kq with
                | zero => exact absurd HA.out (by simp [spec_l4DrawNode.j2])
                | succ kj33 =>
                  have H := HA.out
                  clear HA
                  simp only [spec_l4DrawNode.j2] at H
                  replace H := Option.bind_eq_some_iff.mp H
                  obtain ⟨⟨t175, t176, t177⟩, A370, H⟩ := H
                  replace H : (if t175 = true then (spec_l4DrawNode.j3 kj33 a1 a3 y169 (l4.length : Int) (wrap64 (x13_33 * 6)) s0_0 t176 t177) else (spec_l4DrawNode.j3 kj33 a1 a3 y169 (l4.length : Int) x13_33 s0_0 t176 t177)) = some (r1, r2, r3) := H
                  have A37 := Aside0.mk A370
                  clear A370
                  have HC38 := Aside0.mk H
                  clear H
                  go_upto_if 56 with (first | ((with_reducible refine gate_callee (f := 252) rfl ?_); refine goesL_ (some 56) rfl rfl Try.func252 (by kernel_rfl) rfl #[.pointer (some ⟨g, 0, none⟩), .int .i64 20] rfl (by (try simp only [List.map_toArray, List.map_cons, List.map_nil]); first | done | rfl | (simp only [List.length_drop, List.length_take]; rfl)) ?_; (with_reducible refine (spec_l1Once.calls g s0_0 t173 t174 20 t175 t176 t177 w0 _ ?side1 ?side2 A37.out).mono ?_); (case side1 => repeat (first | (with_reducible first | exact HI0.out | apply IsS232.alloc | apply IsS232.drewN | apply IsS232.drew | apply IsS232.set_1 | apply IsS232.set_2 | refine IsS232.far ?_ NB0_159.out _) | exact HI0.out)); (case side2 => repeat (first | (with_reducible first | exact HB.out | apply below_alloc | apply pw_below_drewN | apply below_drew1 | refine below_set ?_ (IsS232.ge HI0.out) | refine below_set ?_ GE159.out) | exact HB.out)); rintro e w39 ⟨rfl, hi, hb, hk⟩; refine ⟨_, rfl, ?_⟩; have n0_ := Aside0.mk (Kd.R_mono (Kd.R_keep (IsS232.apart (show IsS232 w0 _ g s0_0 t173 t174 from by repeat (first | (with_reducible first | exact HI0.out | apply IsS232.alloc | apply IsS232.drewN | apply IsS232.drew | apply IsS232.set_1 | apply IsS232.set_2 | refine IsS232.far ?_ NB0_159.out _) | exact HI0.out)) (by (with_reducible repeat (first | apply Kd.R_alloc | apply Kd.R_drewN | apply Kd.R_drew)); exact HO_4.out) (by decide)) hk (fun _ h => h.2)) (fun _ h => h.1)); have n1_ := Aside0.mk (KeepBut.blk hk (g' := gb159) (o := .cells #[.int .i64 a1, .int .i64 a2, .int .i64 x160002_5, .string x160003_5, .int .i64 0] 53 (0, 0)) (by (with_reducible repeat (first | refine blk_drewN ?_ _ | refine blk_drew ?_ | refine blk_alloc ?_ _)); exact BK159.out) NB159_0.out (by simp)); have n2_ := Aside0.mk (Kept.of_keep (S := (fun k_ => (P4_ k_) ∨ k_ = g)) (by repeat (first | (with_reducible first | exact HK.out | apply Kept.alloc | apply Kept.drewN | apply Kept.drew | refine Kept.setCell ?_ (.inl (.inr rfl)) _ | refine Kept.setCell ?_ (.inr GW159.out) _) | exact HK.out)) hk (.inl (.inr rfl))); have n3_ := Aside0.mk (hb); have n4_ := Aside0.mk (hi); clear HO_4; clear BK159; clear HK; clear HB; clear HI0; have HO_4 := n0_; have BK159 := n1_; have HK := n2_; have HB := n3_; have HI0 := n4_; clear n0_ n1_ n2_ n3_ n4_; (try clear hb); (try clear hb2); (try clear hk); (try clear hi)))
                  (try simp only [Act.put, List.setIfInBounds_toArray, List.set_cons_zero, List.set_cons_succ])
                  go_cut [13] (fun v13 wc => ∃ (kq : Nat) (x13_37 : Int), v13 = .int .i64 x13_37 ∧ Aside0 (spec_l4DrawNode.j3 kq a1 a3 y169 (l4.length : Int) x13_37 s0_0 t176 t177 = some (r1, r2, r3)) ∧ Aside0 (kq ≤ kj33) ∧ Aside0 (Kd.R k53 53 wc w0.heap.size (fun k_ => (P4_ k_ ∨ w.heap.size ≤ k_) ∧ k_ ≠ gb159) v170 y169) ∧ Aside0 (wc.heap[gb159]? = some (.cells #[.int .i64 a1, .int .i64 a2, .int .i64 x160002_5, .string x160003_5, .int .i64 0] 53 (0, 0))) ∧ Aside0 (IsS232 w0 wc g s0_0 t176 t177) ∧ Aside0 (Kept w wc (fun k_ => (P4_ k_) ∨ k_ = g)) ∧ Aside0 (Below w0.heap.size w0 wc))
                  case first =>
                    have H := HC38.out
                    clear HC38
                    by_cases c40 : t175 = true
                    · subst c40
                      have H1 : (spec_l4DrawNode.j3 kj33 a1 a3 y169 (l4.length : Int) (wrap64 (x13_33 * 6)) s0_0 t176 t177) = some (r1, r2, r3) := by rw [if_pos rfl] at H; exact H
                      clear H
                      have H := H1
                      clear H1
                      have H' := Aside0.mk H
                      clear H
                      go_wp2
                      go_meet
                      case rel => exact ⟨_, (wrap64 (x13_33 * 6)), (by first | rfl | (simp; done) | (simp [*]; done)), H', ⟨by have := HJ5.out; have := HJ25.out; have := HJ33.out; first | omega | exact Nat.le_refl _⟩, ⟨by (with_reducible repeat (first | apply Kd.R_alloc | apply Kd.R_drewN | apply Kd.R_drew)); exact HO_4.out⟩, ⟨by (with_reducible repeat (first | refine blk_drewN ?_ _ | refine blk_drew ?_ | refine blk_alloc ?_ _)); exact BK159.out⟩, ⟨by repeat (first | (with_reducible first | exact HI0.out | apply IsS232.alloc | apply IsS232.drewN | apply IsS232.drew | apply IsS232.set_1 | apply IsS232.set_2 | refine IsS232.far ?_ NB0_159.out _) | exact HI0.out)⟩, ⟨by repeat (first | (with_reducible first | exact HK.out | apply Kept.alloc | apply Kept.drewN | apply Kept.drew | refine Kept.setCell ?_ (.inl (.inr rfl)) _ | refine Kept.setCell ?_ (.inr GW159.out) _) | exact HK.out)⟩, ⟨by repeat (first | (with_reducible first | exact HB.out | apply below_alloc | apply pw_below_drewN | apply below_drew1 | refine below_set ?_ (IsS232.ge HI0.out) | refine below_set ?_ GE159.out) | exact HB.out)⟩⟩
                    · replace c40 := Bool.eq_false_iff.mpr c40
                      subst c40
                      have H1 : (spec_l4DrawNode.j3 kj33 a1 a3 y169 (l4.length : Int) x13_33 s0_0 t176 t177) = some (r1, r2, r3) := by rw [if_neg (show ¬ (false = true) by decide)] at H; exact H
                      clear H
                      have H := H1
                      clear H1
                      have H' := Aside0.mk H
                      clear H
                      go_wp2
                      go_meet
                      case rel => exact ⟨_, (x13_33), (by first | rfl | (simp; done) | (simp [*]; done)), H', ⟨by have := HJ5.out; have := HJ25.out; have := HJ33.out; first | omega | exact Nat.le_refl _⟩, ⟨by (with_reducible repeat (first | apply Kd.R_alloc | apply Kd.R_drewN | apply Kd.R_drew)); exact HO_4.out⟩, ⟨by (with_reducible repeat (first | refine blk_drewN ?_ _ | refine blk_drew ?_ | refine blk_alloc ?_ _)); exact BK159.out⟩, ⟨by repeat (first | (with_reducible first | exact HI0.out | apply IsS232.alloc | apply IsS232.drewN | apply IsS232.drew | apply IsS232.set_1 | apply IsS232.set_2 | refine IsS232.far ?_ NB0_159.out _) | exact HI0.out)⟩, ⟨by repeat (first | (with_reducible first | exact HK.out | apply Kept.alloc | apply Kept.drewN | apply Kept.drew | refine Kept.setCell ?_ (.inl (.inr rfl)) _ | refine Kept.setCell ?_ (.inr GW159.out) _) | exact HK.out)⟩, ⟨by repeat (first | (with_reducible first | exact HB.out | apply below_alloc | apply pw_below_drewN | apply below_drew1 | refine below_set ?_ (IsS232.ge HI0.out) | refine below_set ?_ GE159.out) | exact HB.out)⟩⟩
                  case rest =>
                    clear HC38
                    try clear c1
                    try clear c2
                    try clear p2
                    try clear c3
                    try clear c4
                    try clear p6
                    try clear c8
                    try clear c10
                    try clear c10b0
                    try clear c10b1
                    try clear c13
                    try clear c15
                    try clear c15b0
                    try clear c15b1
                    try clear c16
                    try clear c18
                    try clear c20
                    try clear c20b0
                    try clear c20b1
                    try clear c23
                    try clear c25
                    try clear c28
                    try clear c31
                    try clear c31b0
                    try clear c31b1
                    try clear c32
                    try clear c36
                    try clear c36b0
                    try clear c36b1
                    try clear c40
                    try clear hcz14_0
                    try clear hcz14_1
                    try clear hcz14_2
                    try clear hcz14_3
                    try clear hcz14_4
                    try clear hcz19_0
                    try clear hcz19_1
                    try clear hcz19_2
                    try clear hcz19_3
                    try clear hcz19_4
                    try clear hcz24_0
                    try clear hcz24_1
                    try clear hcz24_2
                    try clear hcz24_3
                    try clear hcz24_4
                    try clear hcz29_0
                    try clear hcz29_1
                    try clear hcz29_2
                    try clear hcz29_3
                    try clear hcz29_4
                    try clear hcz9_0
                    try clear hcz9_1
                    try clear hcz9_2
                    try clear hcz9_3
                    try clear hcz9_4
                    try clear hfz14_0
                    try clear hfz14_1
                    try clear hfz14_2
                    try clear hfz14_3
                    try clear hfz14_4
                    try clear hfz19_0
                    try clear hfz19_1
                    try clear hfz19_2
                    try clear hfz19_3
                    try clear hfz19_4
                    try clear hfz24_0
                    try clear hfz24_1
                    try clear hfz24_2
                    try clear hfz24_3
                    try clear hfz24_4
                    try clear hfz29_0
                    try clear hfz29_1
                    try clear hfz29_2
                    try clear hfz29_3
                    try clear hfz29_4
                    try clear hfz9_0
                    try clear hfz9_1
                    try clear hfz9_2
                    try clear hfz9_3
                    try clear hfz9_4
                    try clear p2
                    try clear p6
                    obtain ⟨kq, x13_37, rfl, HA, HJ37, HO_4, BK159, HI0, HK, HB⟩ := hcut
                    cases kq with
                    | zero => exact absurd HA.out (by simp [spec_l4DrawNode.j3])
                    | succ kj37 =>
                      have H := HA.out
                      clear HA
                      simp only [spec_l4DrawNode.j3] at H
                      obtain ⟨y178, hy178⟩ : ∃ y_ : List Int, y_ = (([5, 8, 6, 12, 9] : List Int)) := ⟨_, rfl⟩
                      replace H : ((spec_l1PickInt.f s0_0 t176 t177 y178).bind fun bt181 => (if 0 ≤ (l4.length : Int) then (if (l4.length : Int) < (y169.length : Int) then ((some (y169.set ((l4.length : Int) : Int).toNat (⟨(rd_T53 y169 (l4.length : Int)).f0, (rd_T53 y169 (l4.length : Int)).f1, (rd_T53 y169 (l4.length : Int)).f2, (rd_T53 y169 (l4.length : Int)).f3, x13_37⟩ : S53) : List (S53))).bind fun y184 => (if a1 = 9 then (spec_l4DrawNode.j4 kj37 a1 a3 y184 (l4.length : Int) x13_37 bt181.1 (decide (x13_37 > 0)) s0_0 bt181.2.1 bt181.2.2) else (spec_l4DrawNode.j4 kj37 a1 a3 y184 (l4.length : Int) x13_37 bt181.1 false s0_0 bt181.2.1 bt181.2.2))) else (none)) else (none))) = some (r1, r2, r3) := by first | (rw [hy178]; with_reducible exact H) | (have H2_ := (Option.bind_some _ _).symm.trans H; rw [hy178]; with_reducible exact H2_) | (have H2_ := (Option.bind_some _ _).symm.trans H; with_reducible exact H2_) | with_reducible exact H | (rw [hy178]; exact H) | exact H
                      have Ny178 := Aside0.mk hy178
                      clear hy178
                      replace H := Option.bind_eq_some_iff.mp H
                      obtain ⟨⟨t181, t182, t183⟩, A410, H⟩ := H
                      replace H : (if 0 ≤ (l4.length : Int) then (if (l4.length : Int) < (y169.length : Int) then ((some (y169.set ((l4.length : Int) : Int).toNat (⟨(rd_T53 y169 (l4.length : Int)).f0, (rd_T53 y169 (l4.length : Int)).f1, (rd_T53 y169 (l4.length : Int)).f2, (rd_T53 y169 (l4.length : Int)).f3, x13_37⟩ : S53) : List (S53))).bind fun y184 => (if a1 = 9 then (spec_l4DrawNode.j4 kj37 a1 a3 y184 (l4.length : Int) x13_37 t181 (decide (x13_37 > 0)) s0_0 t182 t183) else (spec_l4DrawNode.j4 kj37 a1 a3 y184 (l4.length : Int) x13_37 t181 false s0_0 t182 t183))) else (none)) else (none)) = some (r1, r2, r3) := H
                      have A41 := Aside0.mk A410
                      clear A410
                      by_cases c42 : 0 ≤ (l4.length : Int)
                      · rw [if_pos c42] at H
                        have c42b0 : decide (0 ≤ (l4.length : Int)) = true := decide_eq_true c42
                        have c42b1 : decide (0 ≤ l4.length) = true := decide_eq_true (by omega)
                        clear c42
                        by_cases c43 : (l4.length : Int) < (y169.length : Int)
                        · rw [if_pos c43] at H
                          have c43b0 : decide ((l4.length : Int) < (y169.length : Int)) = true := decide_eq_true c43
                          have c43b1 : decide (l4.length < y169.length) = true := decide_eq_true (Int.ofNat_lt.mp c43)
                          clear c43
                          obtain ⟨y184, hy184⟩ : ∃ y_ : List (S53), y_ = (y169.set ((l4.length : Int) : Int).toNat (⟨(rd_T53 y169 (l4.length : Int)).f0, (rd_T53 y169 (l4.length : Int)).f1, (rd_T53 y169 (l4.length : Int)).f2, (rd_T53 y169 (l4.length : Int)).f3, x13_37⟩ : S53)) := ⟨_, rfl⟩
                          replace H : (if a1 = 9 then (spec_l4DrawNode.j4 kj37 a1 a3 y184 (l4.length : Int) x13_37 t181 (decide (x13_37 > 0)) s0_0 t182 t183) else (spec_l4DrawNode.j4 kj37 a1 a3 y184 (l4.length : Int) x13_37 t181 false s0_0 t182 t183)) = some (r1, r2, r3) := by first | (rw [hy184]; with_reducible exact H) | (have H2_ := (Option.bind_some _ _).symm.trans H; rw [hy184]; with_reducible exact H2_) | (have H2_ := (Option.bind_some _ _).symm.trans H; with_reducible exact H2_) | with_reducible exact H | (rw [hy184]; exact H) | exact H
                          have Ny184 := Aside0.mk hy184
                          clear hy184
                          have HC45 := Aside0.mk H
                          clear H
                          go_upto_region 20 with (first | ((with_reducible refine gate_dst (N := 60) rfl ?_); refine Kd.R_lit (Kd.int .i64) _ 3 ?hg (N := 60) ?hd (xs := ([5, 8, 6, 12, 9] : List Int)) (inner := [.int .i64 5, .int .i64 8, .int .i64 6, .int .i64 12, .int .i64 9]) (ok := fun _ => True) (okp := fun _ => True) ?hr ?hp (fun _ hk => hk) trivial (Below.refl _ _) (Nat.le_refl _) (by simp) ?_; (case hd => rfl); (case hg => rfl); (case hr => first | (go_simp; done) | (go_simp; rfl)); (case hp => exact (Reps.one (show Kd.M (Kd.int .i64) _ _ _ 5 [.int .i64 5] from rfl) (Reps.one (show Kd.M (Kd.int .i64) _ _ _ 8 [.int .i64 8] from rfl) (Reps.one (show Kd.M (Kd.int .i64) _ _ _ 6 [.int .i64 6] from rfl) (Reps.one (show Kd.M (Kd.int .i64) _ _ _ 12 [.int .i64 12] from rfl) (Reps.one (show Kd.M (Kd.int .i64) _ _ _ 9 [.int .i64 9] from rfl) (Reps.none _ _))))))); intro v179 w46 ho47 hb hg_ hnew_; clear hg_ hnew_; (first | rw [← Ny178.out] at ho47 | (simp only [Int.reduceToNat] at ho47; rw [← Ny178.out] at ho47)); have n0_ := Aside0.mk (Kd.R_below (by (with_reducible repeat (first | apply Kd.R_alloc | apply Kd.R_drewN | apply Kd.R_drew)); exact HO_4.out) hb); have n1_ := Aside0.mk (Kd.R_lower (Kd.R_newM (M := fun k_ => (P4_ k_ ∨ w.heap.size ≤ k_)) ho47 (by first | exact HK.out.1 | exact (show Kept w _ (fun k_ => (P4_ k_) ∨ k_ = g) from by repeat (first | (with_reducible first | exact HK.out | apply Kept.alloc | apply Kept.drewN | apply Kept.drew | refine Kept.setCell ?_ (.inl (.inr rfl)) _ | refine Kept.setCell ?_ (.inr GW159.out) _) | exact HK.out)).1) (fun k_ h_ => .inr h_)) (below_size (by repeat (first | (with_reducible first | exact HB.out | apply below_alloc | apply pw_below_drewN | apply below_drew1 | refine below_set ?_ (IsS232.ge HI0.out) | refine below_set ?_ GE159.out) | exact HB.out)))); have n2_ := Aside0.mk (blk_below (g := gb159) (o := .cells #[.int .i64 a1, .int .i64 a2, .int .i64 x160002_5, .string x160003_5, .int .i64 0] 53 (0, 0)) (by (with_reducible repeat (first | refine blk_drewN ?_ _ | refine blk_drew ?_ | refine blk_alloc ?_ _)); exact BK159.out) hb); have n3_ := Aside0.mk (IsS232.below (by repeat (first | (with_reducible first | exact HI0.out | apply IsS232.alloc | apply IsS232.drewN | apply IsS232.drew | apply IsS232.set_1 | apply IsS232.set_2 | refine IsS232.far ?_ NB0_159.out _) | exact HI0.out)) hb); have n4_ := Aside0.mk (Kept.below (S := (fun k_ => (P4_ k_) ∨ k_ = g)) (by repeat (first | (with_reducible first | exact HK.out | apply Kept.alloc | apply Kept.drewN | apply Kept.drew | refine Kept.setCell ?_ (.inl (.inr rfl)) _ | refine Kept.setCell ?_ (.inr GW159.out) _) | exact HK.out)) hb); have n5_ := Aside0.mk (below_step (by repeat (first | (with_reducible first | exact HB.out | apply below_alloc | apply pw_below_drewN | apply below_drew1 | refine below_set ?_ (IsS232.ge HI0.out) | refine below_set ?_ GE159.out) | exact HB.out)) hb); clear HO_4; clear BK159; clear HI0; clear HK; clear HB; have HO_4 := n0_; have HO180 := n1_; have BK159 := n2_; have HI0 := n3_; have HK := n4_; have HB := n5_; clear n0_ n1_ n2_ n3_ n4_ n5_; clear hb ho47; obtain ⟨Ao48, co48, eo48⟩ := Kd.R_slice HO180.out; subst eo48) | ((with_reducible refine gate_callee (f := 208) rfl ?_); refine goesL_ (some 61) rfl rfl Try.func208 (by kernel_rfl) rfl #[.pointer (some ⟨g, 0, none⟩), .slice Ao48 y178.length co48] rfl (by (try simp only [List.map_toArray, List.map_cons, List.map_nil]); first | done | rfl | (simp only [List.length_drop, List.length_take]; rfl)) ?_; (with_reducible refine (spec_l1PickInt.calls g s0_0 t176 t177 _ _ y178 t181 t182 t183 w0 _ ?side1 ?side2 ?side3 ?side4 ?side5 A41.out).mono ?_); (case side1 => repeat (first | (with_reducible first | exact HI0.out | apply IsS232.alloc | apply IsS232.drewN | apply IsS232.drew | apply IsS232.set_1 | apply IsS232.set_2 | refine IsS232.far ?_ NB0_159.out _) | exact HI0.out)); (case side2 => repeat (first | (with_reducible first | exact HB.out | apply below_alloc | apply pw_below_drewN | apply below_drew1 | refine below_set ?_ (IsS232.ge HI0.out) | refine below_set ?_ GE159.out) | exact HB.out)); (case side3 => repeat (first | exact (Kd.R_reads' HO180.out).2.2 | (with_reducible refine Kd.C_alloc ?_ _) | (with_reducible refine Kd.C_drewN ?_ _) | (with_reducible refine Kd.C_drew ?_))); (case side4 => exact (Kd.R_reads' HO180.out).2.1); (case side5 => exact far_slice (IsS232.own_ne HI0.out HO180.out (by decide))); rintro e w49 ⟨rfl, hi, hb, hk⟩; refine ⟨_, rfl, ?_⟩; have n0_ := Aside0.mk (Kd.R_mono (Kd.R_keep (IsS232.apart (show IsS232 w0 _ g s0_0 t176 t177 from by repeat (first | (with_reducible first | exact HI0.out | apply IsS232.alloc | apply IsS232.drewN | apply IsS232.drew | apply IsS232.set_1 | apply IsS232.set_2 | refine IsS232.far ?_ NB0_159.out _) | exact HI0.out)) (by (with_reducible repeat (first | apply Kd.R_alloc | apply Kd.R_drewN | apply Kd.R_drew)); exact HO_4.out) (by decide)) hk (fun _ h => h.2)) (fun _ h => h.1)); have n1_ := Aside0.mk (KeepBut.blk hk (g' := gb159) (o := .cells #[.int .i64 a1, .int .i64 a2, .int .i64 x160002_5, .string x160003_5, .int .i64 0] 53 (0, 0)) (by (with_reducible repeat (first | refine blk_drewN ?_ _ | refine blk_drew ?_ | refine blk_alloc ?_ _)); exact BK159.out) NB159_0.out (by simp)); have n2_ := Aside0.mk (Kd.R_mono (Kd.R_keep (IsS232.apart (show IsS232 w0 _ g s0_0 t176 t177 from by repeat (first | (with_reducible first | exact HI0.out | apply IsS232.alloc | apply IsS232.drewN | apply IsS232.drew | apply IsS232.set_1 | apply IsS232.set_2 | refine IsS232.far ?_ NB0_159.out _) | exact HI0.out)) (by (with_reducible repeat (first | apply Kd.R_alloc | apply Kd.R_drewN | apply Kd.R_drew)); exact HO180.out) (by decide)) hk (fun _ h => h.2)) (fun _ h => h.1)); have n3_ := Aside0.mk (Kept.of_keep (S := (fun k_ => (P4_ k_) ∨ k_ = g)) (by repeat (first | (with_reducible first | exact HK.out | apply Kept.alloc | apply Kept.drewN | apply Kept.drew | refine Kept.setCell ?_ (.inl (.inr rfl)) _ | refine Kept.setCell ?_ (.inr GW159.out) _) | exact HK.out)) hk (.inl (.inr rfl))); have n4_ := Aside0.mk (hb); have n5_ := Aside0.mk (hi); clear HO_4; clear BK159; clear HO180; clear HK; clear HB; clear HI0; have HO_4 := n0_; have BK159 := n1_; have HO180 := n2_; have HK := n3_; have HB := n4_; have HI0 := n5_; clear n0_ n1_ n2_ n3_ n4_ n5_; (try clear hb); (try clear hb2); (try clear hk); (try clear hi); have p44 : 0 ≤ ((l4.length : Int) : Int) := of_decide_eq_true (by first | (with_reducible assumption) | assumption); have q44 : ((l4.length : Int) : Int) < ((y169.length : Int) : Int) := of_decide_eq_true (by first | (with_reducible assumption) | assumption); obtain ⟨go44, co44, eo44, gb44, gl44, cl44, HG44⟩ := Kd.R_form HO_4.out (by omega); (first | cases eo44 | (injection eo44 with ea_ en_ ec_; (first | subst ea_ | (injection ea_ with ea_; subst ea_)); subst ec_; clear en_)); have GB44 := Aside0.mk gb44; have GG44 := Aside0.mk HG44; clear gb44 gl44 HG44; have HMgo44 := Aside0.mk (show (P4_ go44 ∨ w.heap.size ≤ go44) from (HO_4.out.1 _ rfl).1); obtain ⟨ce44, hcl44, hM44, hcc44, hfr44⟩ := Kd.R_elem HO_4.out z53 ((l4.length : Int) : Int) p44 q44; obtain rfl := k53_openM hM44; have hx44_0 : w49.cell? ⟨go44, ((l4.length : Int) : Int).toNat * 5, none⟩ = some (.int .i64 ((rd_T53 y169 (l4.length : Int)).f0)) := hcc44 0 _ rfl; have hx44_1 : w49.cell? ⟨go44, ((l4.length : Int) : Int).toNat * 5 + 1, none⟩ = some (.int .i64 ((rd_T53 y169 (l4.length : Int)).f1)) := hcc44 1 _ rfl; have hx44_2 : w49.cell? ⟨go44, ((l4.length : Int) : Int).toNat * 5 + 2, none⟩ = some (.int .i64 ((rd_T53 y169 (l4.length : Int)).f2)) := hcc44 2 _ rfl; have hx44_3 : w49.cell? ⟨go44, ((l4.length : Int) : Int).toNat * 5 + 3, none⟩ = some (.string ((rd_T53 y169 (l4.length : Int)).f3)) := hcc44 3 _ rfl; have hx44_4 : w49.cell? ⟨go44, ((l4.length : Int) : Int).toNat * 5 + 4, none⟩ = some (.int .i64 ((rd_T53 y169 (l4.length : Int)).f4)) := hcc44 4 _ rfl; have hf44_0 : w49.frozen? ⟨go44, ((l4.length : Int) : Int).toNat * 5, none⟩ = false := hfr44 0; have hf44_1 : w49.frozen? ⟨go44, ((l4.length : Int) : Int).toNat * 5 + 1, none⟩ = false := hfr44 1; have hf44_2 : w49.frozen? ⟨go44, ((l4.length : Int) : Int).toNat * 5 + 2, none⟩ = false := hfr44 2; have hf44_3 : w49.frozen? ⟨go44, ((l4.length : Int) : Int).toNat * 5 + 3, none⟩ = false := hfr44 3; have hf44_4 : w49.frozen? ⟨go44, ((l4.length : Int) : Int).toNat * 5 + 4, none⟩ = false := hfr44 4; clear hcl44 hcc44 hfr44 hM44; replace p44 := eq_true p44; replace q44 := eq_true q44; have HX50 := Aside0.mk (show Kd.R k53 53 w49 w0.heap.size (fun k_ => (P4_ k_ ∨ w.heap.size ≤ k_) ∧ k_ ≠ gb159) (.slice (some ⟨go44, 0, none⟩) y169.length co44) y169 from (by (with_reducible repeat (first | apply Kd.R_alloc | apply Kd.R_drewN | apply Kd.R_drew)); exact HO_4.out)); obtain ⟨ce50, hcl50, hM50, hcc50, hfr50⟩ := Kd.R_elem HX50.out z53 ((l4.length : Int) : Int) (of_decide_eq_true (by first | (with_reducible assumption) | assumption)) (by have h_ : ((l4.length : Int) : Int) < ((y169.length : Int) : Int) := of_decide_eq_true (by first | (with_reducible assumption) | assumption); first | exact h_ | (have e_ := (Kd.R_reads' HO_4.out).1; omega) | simpa using h_); obtain rfl := k53_openM hM50; have HP50 := Kd.R_seg HX50.out ((l4.length : Int) : Int) (of_decide_eq_true (by first | (with_reducible assumption) | assumption)) (by have h_ : ((l4.length : Int) : Int) < ((y169.length : Int) : Int) := of_decide_eq_true (by first | (with_reducible assumption) | assumption); first | exact h_ | (have e_ := (Kd.R_reads' HO_4.out).1; omega) | simpa using h_) (seg := [.int .i64 x13_37]) (j := 4) hcl50 hcc50 (show 5 ≤ 5 from by decide) (x' := (⟨(rd_T53 y169 (l4.length : Int)).f0, (rd_T53 y169 (l4.length : Int)).f1, (rd_T53 y169 (l4.length : Int)).f2, (rd_T53 y169 (l4.length : Int)).f3, x13_37⟩ : S53)) (k53_mkM _ _ _ (⟨(rd_T53 y169 (l4.length : Int)).f0, (rd_T53 y169 (l4.length : Int)).f1, (rd_T53 y169 (l4.length : Int)).f2, (rd_T53 y169 (l4.length : Int)).f3, x13_37⟩ : S53) ) (fun _ hk => hk); have hx50_4 := hcc50 4 _ rfl; (try simp only [show (k53).sz = 5 from rfl, Nat.mul_one, Nat.add_zero, Int.toNat_natCast] at hx50_4); have hf50_4 := hfr50 4; (try simp only [show (k53).sz = 5 from rfl, Nat.mul_one, Nat.add_zero, Int.toNat_natCast] at hf50_4); clear hcl50 hcc50 hfr50 hM50) | ((with_reducible refine gate_store (t := 3) (p := 66) rfl ?_); refine store_event (t := 3) (p := 66) (v := ?vo_w51) (w1 := (w49.setCell ⟨go44, ((l4.length : Int) : Int).toNat * 5 + 4, none⟩ (.int .i64 x13_37))) ?hg ?ho ?hn ?hr ?_; (case ho => rfl); (case hg => rfl); (case hn => rfl); (case hr => first | (go_simp; done) | (go_simp; rfl)); intro w51 hw; have hg : w49.grownBy w51 (some go44) := (by rw [hw]; exact HP50.2); have hp_ : Kd.R k53 53 w51 w0.heap.size (fun k_ => (P4_ k_ ∨ w.heap.size ≤ k_) ∧ k_ ≠ gb159) (.slice (some ⟨go44, 0, none⟩) y169.length co44) y184 := (by rw [hw, Ny184.out]; exact HP50.1); clear HP50; have n0_ := Aside0.mk (hp_); have n1_ := Aside0.mk (blk_grown (g := gb159) (o := .cells #[.int .i64 a1, .int .i64 a2, .int .i64 x160002_5, .string x160003_5, .int .i64 0] 53 (0, 0)) (by (with_reducible repeat (first | refine blk_drewN ?_ _ | refine blk_drew ?_ | refine blk_alloc ?_ _)); exact BK159.out) hg (Kd.R_away HO_4.out (fun _ hk => hk.2))); have n2_ := Aside0.mk (IsS232.grown (by repeat (first | (with_reducible first | exact HI0.out | apply IsS232.alloc | apply IsS232.drewN | apply IsS232.drew | apply IsS232.set_1 | apply IsS232.set_2 | refine IsS232.far ?_ NB0_159.out _) | exact HI0.out)) hg (IsS232.own_ne HI0.out HO_4.out (by decide))); have n3_ := Aside0.mk (Kd.R_over' (v := (.slice (some ⟨go44, 0, none⟩) y169.length co44)) (by (with_reducible repeat (first | apply Kd.R_alloc | apply Kd.R_drewN | apply Kd.R_drew)); exact HO180.out) (Kd.R_typed HO_4.out) (by decide) hg); have n4_ := Aside0.mk ((by rw [hw]; exact below_set (HB.out) GB44.out : Below w0.heap.size w0 w51)); have n5_ := Aside0.mk (Kept.of_grown (S := (fun k_ => (P4_ k_) ∨ k_ = g)) hg (by repeat (first | (with_reducible first | exact HK.out | apply Kept.alloc | apply Kept.drewN | apply Kept.drew | refine Kept.setCell ?_ (.inl (.inr rfl)) _ | refine Kept.setCell ?_ (.inr GW159.out) _) | exact HK.out)) (fun k_ e_ => Or.imp_left Or.inl ((HO_4.out.1 k_ e_).1))); clear HO_4; clear BK159; clear HI0; clear HO180; clear HB; clear HK; have HO_4 := n0_; have BK159 := n1_; have HI0 := n2_; have HO180 := n3_; have HB := n4_; have HK := n5_; clear n0_ n1_ n2_ n3_ n4_ n5_; clear hg hw hp_))
                          (try simp only [Act.put, List.setIfInBounds_toArray, List.set_cons_zero, List.set_cons_succ])
                          go_cut [72] (fun v72 wc => ∃ (kq : Nat) (x72_44 : Bool), v72 = .bool x72_44 ∧ Aside0 (spec_l4DrawNode.j4 kq a1 a3 y184 (l4.length : Int) x13_37 t181 x72_44 s0_0 t182 t183 = some (r1, r2, r3)) ∧ Aside0 (kq ≤ kj37) ∧ Aside0 (Kd.R k53 53 wc w0.heap.size (fun k_ => (P4_ k_ ∨ w.heap.size ≤ k_) ∧ k_ ≠ gb159) (.slice (some ⟨go44, 0, none⟩) y169.length co44) y184) ∧ Aside0 (wc.heap[gb159]? = some (.cells #[.int .i64 a1, .int .i64 a2, .int .i64 x160002_5, .string x160003_5, .int .i64 0] 53 (0, 0))) ∧ Aside0 (IsS232 w0 wc g s0_0 t182 t183) ∧ Aside0 (Kept w wc (fun k_ => (P4_ k_) ∨ k_ = g)) ∧ Aside0 (Below w0.heap.size w0 wc))
                          case first =>
                            have H := HC45.out
                            clear HC45
                            by_cases c52 : a1 = 9
                            · rw [if_pos c52] at H
                              have c52b0 : (a1 == 9) = true := beq_iff_eq.mpr c52
                              have c52b1 : (a1 != 9) = false := bne_eq_false_iff_eq.mpr c52
                              clear c52
                              (first | rw [c52b0] | rw [c52b1] | (simp only [i64_w, i32_w]; rw [c52b0]) | skip)
                              have H' := Aside0.mk H
                              clear H
                              go_wp2
                              go_meet
                              case rel => exact ⟨_, (decide (x13_37 > 0)), (by first | rfl | (simp; done) | (simp [*]; done)), H', ⟨by have := HJ5.out; have := HJ25.out; have := HJ33.out; have := HJ37.out; first | omega | exact Nat.le_refl _⟩, ⟨by (with_reducible repeat (first | apply Kd.R_alloc | apply Kd.R_drewN | apply Kd.R_drew)); exact HO_4.out⟩, ⟨by (with_reducible repeat (first | refine blk_drewN ?_ _ | refine blk_drew ?_ | refine blk_alloc ?_ _)); exact BK159.out⟩, ⟨by repeat (first | (with_reducible first | exact HI0.out | apply IsS232.alloc | apply IsS232.drewN | apply IsS232.drew | apply IsS232.set_1 | apply IsS232.set_2 | refine IsS232.far ?_ NB0_159.out _) | exact HI0.out)⟩, ⟨by repeat (first | (with_reducible first | exact HK.out | apply Kept.alloc | apply Kept.drewN | apply Kept.drew | refine Kept.setCell ?_ (.inl (.inr rfl)) _ | refine Kept.setCell ?_ (.inr GW159.out) _) | exact HK.out)⟩, ⟨by repeat (first | (with_reducible first | exact HB.out | apply below_alloc | apply pw_below_drewN | apply below_drew1 | refine below_set ?_ (IsS232.ge HI0.out) | refine below_set ?_ GE159.out) | exact HB.out)⟩⟩
                            · rw [if_neg c52] at H
                              have c52b0 : (a1 == 9) = false := beq_eq_false_iff_ne.mpr c52
                              have c52b1 : (a1 != 9) = true := bne_iff_ne.mpr c52
                              (first | rw [c52b0] | rw [c52b1] | (simp only [i64_w, i32_w]; rw [c52b0]) | skip)
                              have H' := Aside0.mk H
                              clear H
                              go_wp2
                              go_meet
                              case rel => exact ⟨_, (false), (by first | rfl | (simp; done) | (simp [*]; done)), H', ⟨by have := HJ5.out; have := HJ25.out; have := HJ33.out; have := HJ37.out; first | omega | exact Nat.le_refl _⟩, ⟨by (with_reducible repeat (first | apply Kd.R_alloc | apply Kd.R_drewN | apply Kd.R_drew)); exact HO_4.out⟩, ⟨by (with_reducible repeat (first | refine blk_drewN ?_ _ | refine blk_drew ?_ | refine blk_alloc ?_ _)); exact BK159.out⟩, ⟨by repeat (first | (with_reducible first | exact HI0.out | apply IsS232.alloc | apply IsS232.drewN | apply IsS232.drew | apply IsS232.set_1 | apply IsS232.set_2 | refine IsS232.far ?_ NB0_159.out _) | exact HI0.out)⟩, ⟨by repeat (first | (with_reducible first | exact HK.out | apply Kept.alloc | apply Kept.drewN | apply Kept.drew | refine Kept.setCell ?_ (.inl (.inr rfl)) _ | refine Kept.setCell ?_ (.inr GW159.out) _) | exact HK.out)⟩, ⟨by repeat (first | (with_reducible first | exact HB.out | apply below_alloc | apply pw_below_drewN | apply below_drew1 | refine below_set ?_ (IsS232.ge HI0.out) | refine below_set ?_ GE159.out) | exact HB.out)⟩⟩
                          case rest =>
                            clear HC45
                            try clear c1
                            try clear c2
                            try clear p2
                            try clear c3
                            try clear c4
                            try clear p4
                            try clear q4
                            try clear hx4
                            try clear c5
                            try clear hx5
                            try clear hf5
                            try clear p6
                            try clear c8
                            try clear c10
                            try clear c10b0
                            try clear c10b1
                            try clear c13
                            try clear c15
                            try clear c15b0
                            try clear c15b1
                            try clear c16
                            try clear c18
                            try clear c20
                            try clear c20b0
                            try clear c20b1
                            try clear c23
                            try clear c25
                            try clear c28
                            try clear c31
                            try clear c31b0
                            try clear c31b1
                            try clear c32
                            try clear c36
                            try clear c36b0
                            try clear c36b1
                            try clear c40
                            try clear c42
                            try clear c42b0
                            try clear c42b1
                            try clear c43
                            try clear c43b0
                            try clear c43b1
                            try clear c44
                            try clear p44
                            try clear q44
                            try clear hx44
                            try clear hf44
                            try clear c50
                            try clear hx50
                            try clear hf50
                            try clear c52
                            try clear c52b0
                            try clear c52b1
                            try clear hcz14_0
                            try clear hcz14_1
                            try clear hcz14_2
                            try clear hcz14_3
                            try clear hcz14_4
                            try clear hcz19_0
                            try clear hcz19_1
                            try clear hcz19_2
                            try clear hcz19_3
                            try clear hcz19_4
                            try clear hcz24_0
                            try clear hcz24_1
                            try clear hcz24_2
                            try clear hcz24_3
                            try clear hcz24_4
                            try clear hcz29_0
                            try clear hcz29_1
                            try clear hcz29_2
                            try clear hcz29_3
                            try clear hcz29_4
                            try clear hcz9_0
                            try clear hcz9_1
                            try clear hcz9_2
                            try clear hcz9_3
                            try clear hcz9_4
                            try clear hfz14_0
                            try clear hfz14_1
                            try clear hfz14_2
                            try clear hfz14_3
                            try clear hfz14_4
                            try clear hfz19_0
                            try clear hfz19_1
                            try clear hfz19_2
                            try clear hfz19_3
                            try clear hfz19_4
                            try clear hfz24_0
                            try clear hfz24_1
                            try clear hfz24_2
                            try clear hfz24_3
                            try clear hfz24_4
                            try clear hfz29_0
                            try clear hfz29_1
                            try clear hfz29_2
                            try clear hfz29_3
                            try clear hfz29_4
                            try clear hfz9_0
                            try clear hfz9_1
                            try clear hfz9_2
                            try clear hfz9_3
                            try clear hfz9_4
                            try clear hx44_0
                            try clear hx44_1
                            try clear hx44_2
                            try clear hx44_3
                            try clear hx44_4
                            try clear hx50_4
                            try clear p2
                            try clear p44
                            try clear p6
                            try clear q44
                            obtain ⟨kq, x72_44, rfl, HA, HJ44, HO_4, BK159, HI0, HK, HB⟩ := hcut
                            have hl4_44 := (Kd.R_reads' HO_4.out).1
                            rw [hl4_44] at HO_4
                            (try simp only [hl4_44])
                            (try simp only [hl4_44] at BK159)
                            cases kq with
                            | zero => exact absurd HA.out (by simp [spec_l4DrawNode.j4])
                            | succ kj44 =>
                              have H := HA.out
                              clear HA
                              simp only [spec_l4DrawNode.j4] at H
                              have HC53 := Aside0.mk H
                              clear H
                              go_upto_if 72 with (fail)
                              go_cut [] (fun wc => ∃ (kq : Nat) (x4_52 : List (S53)) (x160002_52 : Int), Aside0 (spec_l4DrawNode.j5 kq a1 a3 x4_52 x13_37 t181 s0_0 t182 t183 = some (r1, r2, r3)) ∧ Aside0 (kq ≤ kj44) ∧ Aside0 (Kd.R k53 53 wc w0.heap.size (fun k_ => (P4_ k_ ∨ w.heap.size ≤ k_) ∧ k_ ≠ gb159) (.slice (some ⟨go44, 0, none⟩) y184.length co44) x4_52) ∧ Aside0 (wc.heap[gb159]? = some (.cells #[.int .i64 a1, .int .i64 a2, .int .i64 x160002_52, .string x160003_5, .int .i64 0] 53 (0, 0))) ∧ Aside0 (IsS232 w0 wc g s0_0 t182 t183) ∧ Aside0 (Kept w wc (fun k_ => (P4_ k_) ∨ k_ = g)) ∧ Aside0 (Below w0.heap.size w0 wc))
                              case first =>
                                have H := HC53.out
                                clear HC53
                                by_cases c54 : x72_44 = true
                                · subst c54
                                  have H1 : (if 0 ≤ (l4.length : Int) then (if (l4.length : Int) < (y184.length : Int) then (spec_l4DrawNode.j5 kj44 a1 a3 (y184.set ((l4.length : Int) : Int).toNat (⟨(rd_T53 y184 (l4.length : Int)).f0, (rd_T53 y184 (l4.length : Int)).f1, t181, (rd_T53 y184 (l4.length : Int)).f3, (rd_T53 y184 (l4.length : Int)).f4⟩ : S53)) x13_37 t181 s0_0 t182 t183) else (none)) else (none)) = some (r1, r2, r3) := by rw [if_pos rfl] at H; exact H
                                  clear H
                                  have H := H1
                                  clear H1
                                  by_cases c55 : 0 ≤ (l4.length : Int)
                                  · rw [if_pos c55] at H
                                    have c55b0 : decide (0 ≤ (l4.length : Int)) = true := decide_eq_true c55
                                    have c55b1 : decide (0 ≤ l4.length) = true := decide_eq_true (by omega)
                                    clear c55
                                    (first | rw [c55b0] | rw [c55b1] | (simp only [i64_w, i32_w]; rw [c55b0]) | skip)
                                    by_cases c56 : (l4.length : Int) < (y184.length : Int)
                                    · rw [if_pos c56] at H
                                      have c56b0 : decide ((l4.length : Int) < (y184.length : Int)) = true := decide_eq_true c56
                                      have c56b1 : decide (l4.length < y184.length) = true := decide_eq_true (Int.ofNat_lt.mp c56)
                                      clear c56
                                      obtain ⟨y185, hy185⟩ : ∃ y_ : List (S53), y_ = (y184.set ((l4.length : Int) : Int).toNat (⟨(rd_T53 y184 (l4.length : Int)).f0, (rd_T53 y184 (l4.length : Int)).f1, t181, (rd_T53 y184 (l4.length : Int)).f3, (rd_T53 y184 (l4.length : Int)).f4⟩ : S53)) := ⟨_, rfl⟩
                                      replace H : (spec_l4DrawNode.j5 kj44 a1 a3 y185 x13_37 t181 s0_0 t182 t183) = some (r1, r2, r3) := by first | (rw [hy185]; with_reducible exact H) | (have H2_ := (Option.bind_some _ _).symm.trans H; rw [hy185]; with_reducible exact H2_) | (have H2_ := (Option.bind_some _ _).symm.trans H; with_reducible exact H2_) | with_reducible exact H | (rw [hy185]; exact H) | exact H
                                      have Ny185 := Aside0.mk hy185
                                      clear hy185
                                      have H' := Aside0.mk H
                                      clear H
                                      have p57 : 0 ≤ ((l4.length : Int) : Int) := of_decide_eq_true (by first | (with_reducible assumption) | assumption)
                                      have q57 : ((l4.length : Int) : Int) < ((y184.length : Int) : Int) := of_decide_eq_true (by first | (with_reducible assumption) | assumption)
                                      obtain ⟨ce57, hcl57, hM57, hcc57, hfr57⟩ := Kd.R_elem HO_4.out z53 ((l4.length : Int) : Int) p57 q57
                                      obtain rfl := k53_openM hM57
                                      have hx57_0 : wc.cell? ⟨go44, ((l4.length : Int) : Int).toNat * 5, none⟩ = some (.int .i64 ((rd_T53 y184 (l4.length : Int)).f0)) := hcc57 0 _ rfl
                                      have hx57_1 : wc.cell? ⟨go44, ((l4.length : Int) : Int).toNat * 5 + 1, none⟩ = some (.int .i64 ((rd_T53 y184 (l4.length : Int)).f1)) := hcc57 1 _ rfl
                                      have hx57_2 : wc.cell? ⟨go44, ((l4.length : Int) : Int).toNat * 5 + 2, none⟩ = some (.int .i64 ((rd_T53 y184 (l4.length : Int)).f2)) := hcc57 2 _ rfl
                                      have hx57_3 : wc.cell? ⟨go44, ((l4.length : Int) : Int).toNat * 5 + 3, none⟩ = some (.string ((rd_T53 y184 (l4.length : Int)).f3)) := hcc57 3 _ rfl
                                      have hx57_4 : wc.cell? ⟨go44, ((l4.length : Int) : Int).toNat * 5 + 4, none⟩ = some (.int .i64 ((rd_T53 y184 (l4.length : Int)).f4)) := hcc57 4 _ rfl
                                      have hf57_0 : wc.frozen? ⟨go44, ((l4.length : Int) : Int).toNat * 5, none⟩ = false := hfr57 0
                                      have hf57_1 : wc.frozen? ⟨go44, ((l4.length : Int) : Int).toNat * 5 + 1, none⟩ = false := hfr57 1
                                      have hf57_2 : wc.frozen? ⟨go44, ((l4.length : Int) : Int).toNat * 5 + 2, none⟩ = false := hfr57 2
                                      have hf57_3 : wc.frozen? ⟨go44, ((l4.length : Int) : Int).toNat * 5 + 3, none⟩ = false := hfr57 3
                                      have hf57_4 : wc.frozen? ⟨go44, ((l4.length : Int) : Int).toNat * 5 + 4, none⟩ = false := hfr57 4
                                      clear hcl57 hcc57 hfr57 hM57
                                      replace p57 := eq_true p57
                                      replace q57 := eq_true q57
                                      have HX58 := Aside0.mk (show Kd.R k53 53 wc w0.heap.size (fun k_ => (P4_ k_ ∨ w.heap.size ≤ k_) ∧ k_ ≠ gb159) (.slice (some ⟨go44, 0, none⟩) y184.length co44) y184 from (by (with_reducible repeat (first | apply Kd.R_alloc | apply Kd.R_drewN | apply Kd.R_drew)); exact HO_4.out))
                                      obtain ⟨ce58, hcl58, hM58, hcc58, hfr58⟩ := Kd.R_elem HX58.out z53 ((l4.length : Int) : Int) (of_decide_eq_true (by first | (with_reducible assumption) | assumption)) (by have h_ : ((l4.length : Int) : Int) < ((y184.length : Int) : Int) := of_decide_eq_true (by first | (with_reducible assumption) | assumption); first | exact h_ | (have e_ := (Kd.R_reads' HO_4.out).1; omega) | simpa using h_)
                                      obtain rfl := k53_openM hM58
                                      have HP58 := Kd.R_seg HX58.out ((l4.length : Int) : Int) (of_decide_eq_true (by first | (with_reducible assumption) | assumption)) (by have h_ : ((l4.length : Int) : Int) < ((y184.length : Int) : Int) := of_decide_eq_true (by first | (with_reducible assumption) | assumption); first | exact h_ | (have e_ := (Kd.R_reads' HO_4.out).1; omega) | simpa using h_) (seg := [.int .i64 t181]) (j := 2) hcl58 hcc58 (show 3 ≤ 5 from by decide) (x' := (⟨(rd_T53 y184 (l4.length : Int)).f0, (rd_T53 y184 (l4.length : Int)).f1, t181, (rd_T53 y184 (l4.length : Int)).f3, (rd_T53 y184 (l4.length : Int)).f4⟩ : S53)) (k53_mkM _ _ _ (⟨(rd_T53 y184 (l4.length : Int)).f0, (rd_T53 y184 (l4.length : Int)).f1, t181, (rd_T53 y184 (l4.length : Int)).f3, (rd_T53 y184 (l4.length : Int)).f4⟩ : S53) ) (fun _ hk => hk)
                                      have hx58_2 := hcc58 2 _ rfl
                                      (try simp only [show (k53).sz = 5 from rfl, Nat.mul_one, Nat.add_zero, Int.toNat_natCast] at hx58_2)
                                      have hf58_2 := hfr58 2
                                      (try simp only [show (k53).sz = 5 from rfl, Nat.mul_one, Nat.add_zero, Int.toNat_natCast] at hf58_2)
                                      clear hcl58 hcc58 hfr58 hM58
                                      go_wp2_with (first | ((with_reducible refine gate_store (t := 3) (p := 77) rfl ?_); refine store_event (t := 3) (p := 77) (v := ?vo_w59) (w1 := (wc.setCell ⟨go44, ((l4.length : Int) : Int).toNat * 5 + 2, none⟩ (.int .i64 t181))) ?hg ?ho ?hn ?hr ?_; (case ho => rfl); (case hg => rfl); (case hn => rfl); (case hr => first | (go_simp; done) | (go_simp; rfl)); intro w59 hw; have hg : wc.grownBy w59 (some go44) := (by rw [hw]; exact HP58.2); have hp_ : Kd.R k53 53 w59 w0.heap.size (fun k_ => (P4_ k_ ∨ w.heap.size ≤ k_) ∧ k_ ≠ gb159) (.slice (some ⟨go44, 0, none⟩) y184.length co44) y185 := (by rw [hw, Ny185.out]; exact HP58.1); clear HP58; have n0_ := Aside0.mk (hp_); have n1_ := Aside0.mk (blk_grown (g := gb159) (o := .cells #[.int .i64 a1, .int .i64 a2, .int .i64 x160002_5, .string x160003_5, .int .i64 0] 53 (0, 0)) (by (with_reducible repeat (first | refine blk_drewN ?_ _ | refine blk_drew ?_ | refine blk_alloc ?_ _)); exact BK159.out) hg (Kd.R_away HO_4.out (fun _ hk => hk.2))); have n2_ := Aside0.mk (IsS232.grown (by repeat (first | (with_reducible first | exact HI0.out | apply IsS232.alloc | apply IsS232.drewN | apply IsS232.drew | apply IsS232.set_1 | apply IsS232.set_2 | refine IsS232.far ?_ NB0_159.out _) | exact HI0.out)) hg (IsS232.own_ne HI0.out HO_4.out (by decide))); have n3_ := Aside0.mk ((by rw [hw]; exact below_set (HB.out) GB44.out : Below w0.heap.size w0 w59)); have n4_ := Aside0.mk (Kept.of_grown (S := (fun k_ => (P4_ k_) ∨ k_ = g)) hg (by repeat (first | (with_reducible first | exact HK.out | apply Kept.alloc | apply Kept.drewN | apply Kept.drew | refine Kept.setCell ?_ (.inl (.inr rfl)) _ | refine Kept.setCell ?_ (.inr GW159.out) _) | exact HK.out)) (fun k_ e_ => Or.imp_left Or.inl ((HO_4.out.1 k_ e_).1))); clear HO_4; clear BK159; clear HI0; clear HB; clear HK; have HO_4 := n0_; have BK159 := n1_; have HI0 := n2_; have HB := n3_; have HK := n4_; clear n0_ n1_ n2_ n3_ n4_; clear hg hw hp_))
                                      go_meet
                                      case rel => exact ⟨_, (y185), (x160002_5), H', ⟨by have := HJ5.out; have := HJ25.out; have := HJ33.out; have := HJ37.out; have := HJ44.out; first | omega | exact Nat.le_refl _⟩, ⟨by (try simp only [hl4_44]); (with_reducible repeat (first | apply Kd.R_alloc | apply Kd.R_drewN | apply Kd.R_drew)); exact HO_4.out⟩, ⟨by (try simp only [hl4_44]); (with_reducible repeat (first | refine blk_drewN ?_ _ | refine blk_drew ?_ | refine blk_alloc ?_ _)); exact BK159.out⟩, ⟨by repeat (first | (with_reducible first | exact HI0.out | apply IsS232.alloc | apply IsS232.drewN | apply IsS232.drew | apply IsS232.set_1 | apply IsS232.set_2 | refine IsS232.far ?_ NB0_159.out _) | exact HI0.out)⟩, ⟨by repeat (first | (with_reducible first | exact HK.out | apply Kept.alloc | apply Kept.drewN | apply Kept.drew | refine Kept.setCell ?_ (.inl (.inr rfl)) _ | refine Kept.setCell ?_ (.inr GW159.out) _) | exact HK.out)⟩, ⟨by repeat (first | (with_reducible first | exact HB.out | apply below_alloc | apply pw_below_drewN | apply below_drew1 | refine below_set ?_ (IsS232.ge HI0.out) | refine below_set ?_ GE159.out) | exact HB.out)⟩⟩
                                    · rw [if_neg c56] at H
                                      exact absurd H (by simp)
                                  · rw [if_neg c55] at H
                                    exact absurd H (by simp)
                                · replace c54 := Bool.eq_false_iff.mpr c54
                                  subst c54
                                  have H1 : (spec_l4DrawNode.j5 kj44 a1 a3 y184 x13_37 t181 s0_0 t182 t183) = some (r1, r2, r3) := by rw [if_neg (show ¬ (false = true) by decide)] at H; exact H
                                  clear H
                                  have H := H1
                                  clear H1
                                  have H' := Aside0.mk H
                                  clear H
                                  go_wp2
                                  go_meet
                                  case rel => exact ⟨_, (y184), (x160002_5), H', ⟨by have := HJ5.out; have := HJ25.out; have := HJ33.out; have := HJ37.out; have := HJ44.out; first | omega | exact Nat.le_refl _⟩, ⟨by (try simp only [hl4_44]); (with_reducible repeat (first | apply Kd.R_alloc | apply Kd.R_drewN | apply Kd.R_drew)); exact HO_4.out⟩, ⟨by (try simp only [hl4_44]); (with_reducible repeat (first | refine blk_drewN ?_ _ | refine blk_drew ?_ | refine blk_alloc ?_ _)); exact BK159.out⟩, ⟨by repeat (first | (with_reducible first | exact HI0.out | apply IsS232.alloc | apply IsS232.drewN | apply IsS232.drew | apply IsS232.set_1 | apply IsS232.set_2 | refine IsS232.far ?_ NB0_159.out _) | exact HI0.out)⟩, ⟨by repeat (first | (with_reducible first | exact HK.out | apply Kept.alloc | apply Kept.drewN | apply Kept.drew | refine Kept.setCell ?_ (.inl (.inr rfl)) _ | refine Kept.setCell ?_ (.inr GW159.out) _) | exact HK.out)⟩, ⟨by repeat (first | (with_reducible first | exact HB.out | apply below_alloc | apply pw_below_drewN | apply below_drew1 | refine below_set ?_ (IsS232.ge HI0.out) | refine below_set ?_ GE159.out) | exact HB.out)⟩⟩
                              case rest =>
                                clear HC53
                                try clear c1
                                try clear c2
                                try clear p2
                                try clear c3
                                try clear c4
                                try clear p4
                                try clear q4
                                try clear hx4
                                try clear c5
                                try clear p5
                                try clear q5
                                try clear hx5
                                try clear hf5
                                try clear p6
                                try clear c8
                                try clear c10
                                try clear c10b0
                                try clear c10b1
                                try clear c13
                                try clear c15
                                try clear c15b0
                                try clear c15b1
                                try clear c16
                                try clear c18
                                try clear c20
                                try clear c20b0
                                try clear c20b1
                                try clear c23
                                try clear c25
                                try clear c28
                                try clear c31
                                try clear c31b0
                                try clear c31b1
                                try clear c32
                                try clear c36
                                try clear c36b0
                                try clear c36b1
                                try clear c40
                                try clear c42
                                try clear c42b0
                                try clear c42b1
                                try clear c43
                                try clear c43b0
                                try clear c43b1
                                try clear c44
                                try clear p44
                                try clear q44
                                try clear hx44
                                try clear hf44
                                try clear c50
                                try clear hx50
                                try clear hf50
                                try clear c52
                                try clear c52b0
                                try clear c52b1
                                try clear c54
                                try clear c55
                                try clear c55b0
                                try clear c55b1
                                try clear c56
                                try clear c56b0
                                try clear c56b1
                                try clear c57
                                try clear p57
                                try clear q57
                                try clear hx57
                                try clear hf57
                                try clear c58
                                try clear hx58
                                try clear hf58
                                try clear hcz14_0
                                try clear hcz14_1
                                try clear hcz14_2
                                try clear hcz14_3
                                try clear hcz14_4
                                try clear hcz19_0
                                try clear hcz19_1
                                try clear hcz19_2
                                try clear hcz19_3
                                try clear hcz19_4
                                try clear hcz24_0
                                try clear hcz24_1
                                try clear hcz24_2
                                try clear hcz24_3
                                try clear hcz24_4
                                try clear hcz29_0
                                try clear hcz29_1
                                try clear hcz29_2
                                try clear hcz29_3
                                try clear hcz29_4
                                try clear hcz9_0
                                try clear hcz9_1
                                try clear hcz9_2
                                try clear hcz9_3
                                try clear hcz9_4
                                try clear hfz14_0
                                try clear hfz14_1
                                try clear hfz14_2
                                try clear hfz14_3
                                try clear hfz14_4
                                try clear hfz19_0
                                try clear hfz19_1
                                try clear hfz19_2
                                try clear hfz19_3
                                try clear hfz19_4
                                try clear hfz24_0
                                try clear hfz24_1
                                try clear hfz24_2
                                try clear hfz24_3
                                try clear hfz24_4
                                try clear hfz29_0
                                try clear hfz29_1
                                try clear hfz29_2
                                try clear hfz29_3
                                try clear hfz29_4
                                try clear hfz9_0
                                try clear hfz9_1
                                try clear hfz9_2
                                try clear hfz9_3
                                try clear hfz9_4
                                try clear hx44_0
                                try clear hx44_1
                                try clear hx44_2
                                try clear hx44_3
                                try clear hx44_4
                                try clear hx50_4
                                try clear hx57_0
                                try clear hx57_1
                                try clear hx57_2
                                try clear hx57_3
                                try clear hx57_4
                                try clear hx58_2
                                try clear p2
                                try clear p4
                                try clear p44
                                try clear p57
                                try clear p6
                                try clear q4
                                try clear q44
                                try clear q57
                                obtain ⟨kq, x4_52, x160002_52, HA, HJ52, HO_4, BK159, HI0, HK, HB⟩ := hcut
                                have hl4_52 := (Kd.R_reads' HO_4.out).1
                                rw [hl4_52] at HO_4
                                (try simp only [hl4_52])
                                (try simp only [hl4_52] at BK159)
                                cases kq with
                                | zero => exact absurd HA.out (by simp [spec_l4DrawNode.j5])
                                | succ kj52 =>
                                  have H := HA.out
                                  clear HA
                                  simp only [spec_l4DrawNode.j5] at H
                                  have H' := Aside0.mk H
                                  clear H
                                  go_wp2
                                  go_loopg [4, 15, 16] kj52 (fun kq v4 v15 v16 w' => ∃ (x4_7 : List (S53)) (x15_7 : Int) (x16_7 : Int) (x1001_7 : Int) (x1002_7 : Int), v15 = .int .i64 x15_7 ∧ v16 = .int .i64 x16_7 ∧ Aside0 (spec_l4DrawNode.l0 kq a1 a3 x4_7 x13_37 t181 x15_7 x16_7 s0_0 x1001_7 x1002_7 = some (r1, r2, r3)) ∧ Aside0 (kq ≤ kj52) ∧ Aside0 (Kd.R k53 53 w' w0.heap.size (fun k_ => (P4_ k_ ∨ w.heap.size ≤ k_) ∧ k_ ≠ gb159) v4 x4_7) ∧ Aside0 (w'.heap[gb159]? = some (.cells #[.int .i64 a1, .int .i64 a2, .int .i64 x160002_52, .string x160003_5, .int .i64 0] 53 (0, 0))) ∧ Aside0 (IsS232 w0 w' g s0_0 x1001_7 x1002_7) ∧ Aside0 (Kept w w' (fun k_ => (P4_ k_) ∨ k_ = g)) ∧ Aside0 (Below w0.heap.size w0 w'))
                                  case atStart => exact ⟨(x4_52), (0), (0), (t182), (t183), (by first | rfl | (simp; done) | (simp [*]; done)), (by first | rfl | (simp; done) | (simp [*]; done)), H', ⟨Nat.le_refl _⟩, ⟨by (try simp only [hl4_44]); (try simp only [hl4_52]); (with_reducible repeat (first | apply Kd.R_alloc | apply Kd.R_drewN | apply Kd.R_drew)); exact HO_4.out⟩, ⟨by (try simp only [hl4_44]); (try simp only [hl4_52]); (with_reducible repeat (first | refine blk_drewN ?_ _ | refine blk_drew ?_ | refine blk_alloc ?_ _)); exact BK159.out⟩, ⟨by repeat (first | (with_reducible first | exact HI0.out | apply IsS232.alloc | apply IsS232.drewN | apply IsS232.drew | apply IsS232.set_1 | apply IsS232.set_2 | refine IsS232.far ?_ NB0_159.out _) | exact HI0.out)⟩, ⟨by repeat (first | (with_reducible first | exact HK.out | apply Kept.alloc | apply Kept.drewN | apply Kept.drew | refine Kept.setCell ?_ (.inl (.inr rfl)) _ | refine Kept.setCell ?_ (.inr GW159.out) _) | exact HK.out)⟩, ⟨by repeat (first | (with_reducible first | exact HB.out | apply below_alloc | apply pw_below_drewN | apply below_drew1 | refine below_set ?_ (IsS232.ge HI0.out) | refine below_set ?_ GE159.out) | exact HB.out)⟩⟩
                                  case round =>
                                    clear H'
                                    try clear c1
                                    try clear c2
                                    try clear p2
                                    try clear c3
                                    try clear c4
                                    try clear p4
                                    try clear q4
                                    try clear hx4
                                    try clear c5
                                    try clear p5
                                    try clear q5
                                    try clear hx5
                                    try clear hf5
                                    try clear p6
                                    try clear c8
                                    try clear c10
                                    try clear c10b0
                                    try clear c10b1
                                    try clear c13
                                    try clear c15
                                    try clear c15b0
                                    try clear c15b1
                                    try clear c16
                                    try clear c18
                                    try clear c20
                                    try clear c20b0
                                    try clear c20b1
                                    try clear c23
                                    try clear c25
                                    try clear c28
                                    try clear c31
                                    try clear c31b0
                                    try clear c31b1
                                    try clear c32
                                    try clear c36
                                    try clear c36b0
                                    try clear c36b1
                                    try clear c40
                                    try clear c42
                                    try clear c42b0
                                    try clear c42b1
                                    try clear c43
                                    try clear c43b0
                                    try clear c43b1
                                    try clear c44
                                    try clear p44
                                    try clear q44
                                    try clear hx44
                                    try clear hf44
                                    try clear c50
                                    try clear hx50
                                    try clear hf50
                                    try clear c52
                                    try clear c52b0
                                    try clear c52b1
                                    try clear c54
                                    try clear c55
                                    try clear c55b0
                                    try clear c55b1
                                    try clear c56
                                    try clear c56b0
                                    try clear c56b1
                                    try clear c57
                                    try clear p57
                                    try clear q57
                                    try clear hx57
                                    try clear hf57
                                    try clear c58
                                    try clear hx58
                                    try clear hf58
                                    try clear hcz14_0
                                    try clear hcz14_1
                                    try clear hcz14_2
                                    try clear hcz14_3
                                    try clear hcz14_4
                                    try clear hcz19_0
                                    try clear hcz19_1
                                    try clear hcz19_2
                                    try clear hcz19_3
                                    try clear hcz19_4
                                    try clear hcz24_0
                                    try clear hcz24_1
                                    try clear hcz24_2
                                    try clear hcz24_3
                                    try clear hcz24_4
                                    try clear hcz29_0
                                    try clear hcz29_1
                                    try clear hcz29_2
                                    try clear hcz29_3
                                    try clear hcz29_4
                                    try clear hcz9_0
                                    try clear hcz9_1
                                    try clear hcz9_2
                                    try clear hcz9_3
                                    try clear hcz9_4
                                    try clear hfz14_0
                                    try clear hfz14_1
                                    try clear hfz14_2
                                    try clear hfz14_3
                                    try clear hfz14_4
                                    try clear hfz19_0
                                    try clear hfz19_1
                                    try clear hfz19_2
                                    try clear hfz19_3
                                    try clear hfz19_4
                                    try clear hfz24_0
                                    try clear hfz24_1
                                    try clear hfz24_2
                                    try clear hfz24_3
                                    try clear hfz24_4
                                    try clear hfz29_0
                                    try clear hfz29_1
                                    try clear hfz29_2
                                    try clear hfz29_3
                                    try clear hfz29_4
                                    try clear hfz9_0
                                    try clear hfz9_1
                                    try clear hfz9_2
                                    try clear hfz9_3
                                    try clear hfz9_4
                                    try clear hx44_0
                                    try clear hx44_1
                                    try clear hx44_2
                                    try clear hx44_3
                                    try clear hx44_4
                                    try clear hx50_4
                                    try clear hx57_0
                                    try clear hx57_1
                                    try clear hx57_2
                                    try clear hx57_3
                                    try clear hx57_4
                                    try clear hx58_2
                                    try clear p2
                                    try clear p4
                                    try clear p44
                                    try clear p5
                                    try clear p57
                                    try clear p6
                                    try clear q4
                                    try clear q44
                                    try clear q5
                                    try clear q57
                                    obtain ⟨x4_7, x15_7, x16_7, x1001_7, x1002_7, rfl, rfl, HA, HK7, HO_4, BK159, HI0, HK, HB⟩ := hrel
                                    cases gk with
                                    | zero => exact absurd HA.out (by simp [spec_l4DrawNode.l0])
                                    | succ k7 =>
                                      have H := HA.out
                                      clear HA
                                      simp only [spec_l4DrawNode.l0] at H
                                      by_cases c60 : x16_7 < x13_37
                                      · rw [if_pos c60] at H
                                        have c60b0 : decide (x16_7 < x13_37) = true := decide_eq_true c60
                                        clear c60
                                        by_cases c61 : a1 = 12
                                        · rw [if_pos c61] at H
                                          have c61b0 : (a1 == 12) = true := beq_iff_eq.mpr c61
                                          have c61b1 : (a1 != 12) = false := bne_eq_false_iff_eq.mpr c61
                                          clear c61
                                          obtain ⟨y186, hy186⟩ : ∃ y_ : List Int, y_ = (([1, 2, 5, 6, 8, 9, 12] : List Int)) := ⟨_, rfl⟩
                                          replace H : ((spec_l1PickInt.f s0_0 x1001_7 x1002_7 y186).bind fun bt189 => ((spec_l1Below.f s0_0 bt189.2.1 bt189.2.2 3).bind fun bt192 => ((spec_l1Below.f s0_0 bt192.2.1 bt192.2.2 6).bind fun bt195 => ((spec_l4DrawNode.f k7 s0_0 bt195.2.1 bt195.2.2 bt189.1 (wrap64 ((wrap64 ((wrap64 (x15_7 + 1)) + bt192.1)) + (wrap64 ((wrap64 (Int.tdiv bt195.1 5)) * 20)))) (wrap64 (a3 - 1)) x4_7).bind fun bt198 => (spec_l4DrawNode.l0 k7 a1 a3 bt198.1 x13_37 t181 (wrap64 ((wrap64 ((wrap64 (x15_7 + 1)) + bt192.1)) + (wrap64 ((wrap64 (Int.tdiv bt195.1 5)) * 20)))) (wrap64 (x16_7 + 1)) s0_0 bt198.2.1 bt198.2.2))))) = some (r1, r2, r3) := by first | (rw [hy186]; with_reducible exact H) | (have H2_ := (Option.bind_some _ _).symm.trans H; rw [hy186]; with_reducible exact H2_) | (have H2_ := (Option.bind_some _ _).symm.trans H; with_reducible exact H2_) | with_reducible exact H | (rw [hy186]; exact H) | exact H
                                          have Ny186 := Aside0.mk hy186
                                          clear hy186
                                          replace H := Option.bind_eq_some_iff.mp H
                                          obtain ⟨⟨t189, t190, t191⟩, A620, H⟩ := H
                                          replace H : ((spec_l1Below.f s0_0 t190 t191 3).bind fun bt192 => ((spec_l1Below.f s0_0 bt192.2.1 bt192.2.2 6).bind fun bt195 => ((spec_l4DrawNode.f k7 s0_0 bt195.2.1 bt195.2.2 t189 (wrap64 ((wrap64 ((wrap64 (x15_7 + 1)) + bt192.1)) + (wrap64 ((wrap64 (Int.tdiv bt195.1 5)) * 20)))) (wrap64 (a3 - 1)) x4_7).bind fun bt198 => (spec_l4DrawNode.l0 k7 a1 a3 bt198.1 x13_37 t181 (wrap64 ((wrap64 ((wrap64 (x15_7 + 1)) + bt192.1)) + (wrap64 ((wrap64 (Int.tdiv bt195.1 5)) * 20)))) (wrap64 (x16_7 + 1)) s0_0 bt198.2.1 bt198.2.2)))) = some (r1, r2, r3) := H
                                          have A62 := Aside0.mk A620
                                          clear A620
                                          replace H := Option.bind_eq_some_iff.mp H
                                          obtain ⟨⟨t192, t193, t194⟩, A630, H⟩ := H
                                          replace H : ((spec_l1Below.f s0_0 t193 t194 6).bind fun bt195 => ((spec_l4DrawNode.f k7 s0_0 bt195.2.1 bt195.2.2 t189 (wrap64 ((wrap64 ((wrap64 (x15_7 + 1)) + t192)) + (wrap64 ((wrap64 (Int.tdiv bt195.1 5)) * 20)))) (wrap64 (a3 - 1)) x4_7).bind fun bt198 => (spec_l4DrawNode.l0 k7 a1 a3 bt198.1 x13_37 t181 (wrap64 ((wrap64 ((wrap64 (x15_7 + 1)) + t192)) + (wrap64 ((wrap64 (Int.tdiv bt195.1 5)) * 20)))) (wrap64 (x16_7 + 1)) s0_0 bt198.2.1 bt198.2.2))) = some (r1, r2, r3) := H
                                          have A63 := Aside0.mk A630
                                          clear A630
                                          replace H := Option.bind_eq_some_iff.mp H
                                          obtain ⟨⟨t195, t196, t197⟩, A640, H⟩ := H
                                          replace H : ((spec_l4DrawNode.f k7 s0_0 t196 t197 t189 (wrap64 ((wrap64 ((wrap64 (x15_7 + 1)) + t192)) + (wrap64 ((wrap64 (Int.tdiv t195 5)) * 20)))) (wrap64 (a3 - 1)) x4_7).bind fun bt198 => (spec_l4DrawNode.l0 k7 a1 a3 bt198.1 x13_37 t181 (wrap64 ((wrap64 ((wrap64 (x15_7 + 1)) + t192)) + (wrap64 ((wrap64 (Int.tdiv t195 5)) * 20)))) (wrap64 (x16_7 + 1)) s0_0 bt198.2.1 bt198.2.2)) = some (r1, r2, r3) := H
                                          have A64 := Aside0.mk A640
                                          clear A640
                                          replace H := Option.bind_eq_some_iff.mp H
                                          obtain ⟨⟨t198, t201, t202⟩, A650, H⟩ := H
                                          replace H : (spec_l4DrawNode.l0 k7 a1 a3 t198 x13_37 t181 (wrap64 ((wrap64 ((wrap64 (x15_7 + 1)) + t192)) + (wrap64 ((wrap64 (Int.tdiv t195 5)) * 20)))) (wrap64 (x16_7 + 1)) s0_0 t201 t202) = some (r1, r2, r3) := H
                                          have A65 := Aside0.mk A650
                                          clear A650
                                          have H' := Aside0.mk H
                                          clear H
                                          go_wp2_with (first | ((with_reducible refine gate_dst (N := 87) rfl ?_); refine Kd.R_lit (Kd.int .i64) _ 3 ?hg (N := 87) ?hd (xs := ([1, 2, 5, 6, 8, 9, 12] : List Int)) (inner := [.int .i64 1, .int .i64 2, .int .i64 5, .int .i64 6, .int .i64 8, .int .i64 9, .int .i64 12]) (ok := fun _ => True) (okp := fun _ => True) ?hr ?hp (fun _ hk => hk) trivial (Below.refl _ _) (Nat.le_refl _) (by simp) ?_; (case hd => rfl); (case hg => rfl); (case hr => first | (go_simp; done) | (go_simp; rfl)); (case hp => exact (Reps.one (show Kd.M (Kd.int .i64) _ _ _ 1 [.int .i64 1] from rfl) (Reps.one (show Kd.M (Kd.int .i64) _ _ _ 2 [.int .i64 2] from rfl) (Reps.one (show Kd.M (Kd.int .i64) _ _ _ 5 [.int .i64 5] from rfl) (Reps.one (show Kd.M (Kd.int .i64) _ _ _ 6 [.int .i64 6] from rfl) (Reps.one (show Kd.M (Kd.int .i64) _ _ _ 8 [.int .i64 8] from rfl) (Reps.one (show Kd.M (Kd.int .i64) _ _ _ 9 [.int .i64 9] from rfl) (Reps.one (show Kd.M (Kd.int .i64) _ _ _ 12 [.int .i64 12] from rfl) (Reps.none _ _))))))))); intro v187 w66 ho67 hb hg_ hnew_; clear hg_ hnew_; (first | rw [← Ny186.out] at ho67 | (simp only [Int.reduceToNat] at ho67; rw [← Ny186.out] at ho67)); have n0_ := Aside0.mk (Kd.R_below (by (with_reducible repeat (first | apply Kd.R_alloc | apply Kd.R_drewN | apply Kd.R_drew)); exact HO_4.out) hb); have n1_ := Aside0.mk (Kd.R_lower (Kd.R_newM (M := fun k_ => (P4_ k_ ∨ w.heap.size ≤ k_)) ho67 (by first | exact HK.out.1 | exact (show Kept w _ (fun k_ => (P4_ k_) ∨ k_ = g) from by repeat (first | (with_reducible first | exact HK.out | apply Kept.alloc | apply Kept.drewN | apply Kept.drew | refine Kept.setCell ?_ (.inl (.inr rfl)) _ | refine Kept.setCell ?_ (.inr GW159.out) _) | exact HK.out)).1) (fun k_ h_ => .inr h_)) (below_size (by repeat (first | (with_reducible first | exact HB.out | apply below_alloc | apply pw_below_drewN | apply below_drew1 | refine below_set ?_ (IsS232.ge HI0.out) | refine below_set ?_ GE159.out) | exact HB.out)))); have n2_ := Aside0.mk (blk_below (g := gb159) (o := .cells #[.int .i64 a1, .int .i64 a2, .int .i64 x160002_52, .string x160003_5, .int .i64 0] 53 (0, 0)) (by (with_reducible repeat (first | refine blk_drewN ?_ _ | refine blk_drew ?_ | refine blk_alloc ?_ _)); exact BK159.out) hb); have n3_ := Aside0.mk (IsS232.below (by repeat (first | (with_reducible first | exact HI0.out | apply IsS232.alloc | apply IsS232.drewN | apply IsS232.drew | apply IsS232.set_1 | apply IsS232.set_2 | refine IsS232.far ?_ NB0_159.out _) | exact HI0.out)) hb); have n4_ := Aside0.mk (Kept.below (S := (fun k_ => (P4_ k_) ∨ k_ = g)) (by repeat (first | (with_reducible first | exact HK.out | apply Kept.alloc | apply Kept.drewN | apply Kept.drew | refine Kept.setCell ?_ (.inl (.inr rfl)) _ | refine Kept.setCell ?_ (.inr GW159.out) _) | exact HK.out)) hb); have n5_ := Aside0.mk (below_step (by repeat (first | (with_reducible first | exact HB.out | apply below_alloc | apply pw_below_drewN | apply below_drew1 | refine below_set ?_ (IsS232.ge HI0.out) | refine below_set ?_ GE159.out) | exact HB.out)) hb); clear HO_4; clear BK159; clear HI0; clear HK; clear HB; have HO_4 := n0_; have HO188 := n1_; have BK159 := n2_; have HI0 := n3_; have HK := n4_; have HB := n5_; clear n0_ n1_ n2_ n3_ n4_ n5_; clear hb ho67; obtain ⟨Ao68, co68, eo68⟩ := Kd.R_slice HO188.out; subst eo68) | ((with_reducible refine gate_callee (f := 208) rfl ?_); refine goesL_ (some 88) rfl rfl Try.func208 (by kernel_rfl) rfl #[.pointer (some ⟨g, 0, none⟩), .slice Ao68 y186.length co68] rfl (by (try simp only [List.map_toArray, List.map_cons, List.map_nil]); first | done | rfl | (simp only [List.length_drop, List.length_take]; rfl)) ?_; (with_reducible refine (spec_l1PickInt.calls g s0_0 x1001_7 x1002_7 _ _ y186 t189 t190 t191 w0 _ ?side1 ?side2 ?side3 ?side4 ?side5 A62.out).mono ?_); (case side1 => repeat (first | (with_reducible first | exact HI0.out | apply IsS232.alloc | apply IsS232.drewN | apply IsS232.drew | apply IsS232.set_1 | apply IsS232.set_2 | refine IsS232.far ?_ NB0_159.out _) | exact HI0.out)); (case side2 => repeat (first | (with_reducible first | exact HB.out | apply below_alloc | apply pw_below_drewN | apply below_drew1 | refine below_set ?_ (IsS232.ge HI0.out) | refine below_set ?_ GE159.out) | exact HB.out)); (case side3 => repeat (first | exact (Kd.R_reads' HO188.out).2.2 | (with_reducible refine Kd.C_alloc ?_ _) | (with_reducible refine Kd.C_drewN ?_ _) | (with_reducible refine Kd.C_drew ?_))); (case side4 => exact (Kd.R_reads' HO188.out).2.1); (case side5 => exact far_slice (IsS232.own_ne HI0.out HO188.out (by decide))); rintro e w69 ⟨rfl, hi, hb, hk⟩; refine ⟨_, rfl, ?_⟩; have n0_ := Aside0.mk (Kd.R_mono (Kd.R_keep (IsS232.apart (show IsS232 w0 _ g s0_0 x1001_7 x1002_7 from by repeat (first | (with_reducible first | exact HI0.out | apply IsS232.alloc | apply IsS232.drewN | apply IsS232.drew | apply IsS232.set_1 | apply IsS232.set_2 | refine IsS232.far ?_ NB0_159.out _) | exact HI0.out)) (by (with_reducible repeat (first | apply Kd.R_alloc | apply Kd.R_drewN | apply Kd.R_drew)); exact HO_4.out) (by decide)) hk (fun _ h => h.2)) (fun _ h => h.1)); have n1_ := Aside0.mk (KeepBut.blk hk (g' := gb159) (o := .cells #[.int .i64 a1, .int .i64 a2, .int .i64 x160002_52, .string x160003_5, .int .i64 0] 53 (0, 0)) (by (with_reducible repeat (first | refine blk_drewN ?_ _ | refine blk_drew ?_ | refine blk_alloc ?_ _)); exact BK159.out) NB159_0.out (by simp)); have n2_ := Aside0.mk (Kd.R_mono (Kd.R_keep (IsS232.apart (show IsS232 w0 _ g s0_0 x1001_7 x1002_7 from by repeat (first | (with_reducible first | exact HI0.out | apply IsS232.alloc | apply IsS232.drewN | apply IsS232.drew | apply IsS232.set_1 | apply IsS232.set_2 | refine IsS232.far ?_ NB0_159.out _) | exact HI0.out)) (by (with_reducible repeat (first | apply Kd.R_alloc | apply Kd.R_drewN | apply Kd.R_drew)); exact HO188.out) (by decide)) hk (fun _ h => h.2)) (fun _ h => h.1)); have n3_ := Aside0.mk (Kept.of_keep (S := (fun k_ => (P4_ k_) ∨ k_ = g)) (by repeat (first | (with_reducible first | exact HK.out | apply Kept.alloc | apply Kept.drewN | apply Kept.drew | refine Kept.setCell ?_ (.inl (.inr rfl)) _ | refine Kept.setCell ?_ (.inr GW159.out) _) | exact HK.out)) hk (.inl (.inr rfl))); have n4_ := Aside0.mk (hb); have n5_ := Aside0.mk (hi); clear HO_4; clear BK159; clear HO188; clear HK; clear HB; clear HI0; have HO_4 := n0_; have BK159 := n1_; have HO188 := n2_; have HK := n3_; have HB := n4_; have HI0 := n5_; clear n0_ n1_ n2_ n3_ n4_ n5_; (try clear hb); (try clear hb2); (try clear hk); (try clear hi)) | ((with_reducible refine gate_callee (f := 162) rfl ?_); refine goesL_ (some 92) rfl rfl Try.func162 (by kernel_rfl) rfl #[.pointer (some ⟨g, 0, none⟩), .int .i64 3] rfl (by (try simp only [List.map_toArray, List.map_cons, List.map_nil]); first | done | rfl | (simp only [List.length_drop, List.length_take]; rfl)) ?_; (with_reducible refine (spec_l1Below.calls g s0_0 t190 t191 3 t192 t193 t194 w0 _ ?side1 ?side2 A63.out).mono ?_); (case side1 => repeat (first | (with_reducible first | exact HI0.out | apply IsS232.alloc | apply IsS232.drewN | apply IsS232.drew | apply IsS232.set_1 | apply IsS232.set_2 | refine IsS232.far ?_ NB0_159.out _) | exact HI0.out)); (case side2 => repeat (first | (with_reducible first | exact HB.out | apply below_alloc | apply pw_below_drewN | apply below_drew1 | refine below_set ?_ (IsS232.ge HI0.out) | refine below_set ?_ GE159.out) | exact HB.out)); rintro e w70 ⟨rfl, hi, hb, hk⟩; refine ⟨_, rfl, ?_⟩; have n0_ := Aside0.mk (Kd.R_mono (Kd.R_keep (IsS232.apart (show IsS232 w0 _ g s0_0 t190 t191 from by repeat (first | (with_reducible first | exact HI0.out | apply IsS232.alloc | apply IsS232.drewN | apply IsS232.drew | apply IsS232.set_1 | apply IsS232.set_2 | refine IsS232.far ?_ NB0_159.out _) | exact HI0.out)) (by (with_reducible repeat (first | apply Kd.R_alloc | apply Kd.R_drewN | apply Kd.R_drew)); exact HO_4.out) (by decide)) hk (fun _ h => h.2)) (fun _ h => h.1)); have n1_ := Aside0.mk (KeepBut.blk hk (g' := gb159) (o := .cells #[.int .i64 a1, .int .i64 a2, .int .i64 x160002_52, .string x160003_5, .int .i64 0] 53 (0, 0)) (by (with_reducible repeat (first | refine blk_drewN ?_ _ | refine blk_drew ?_ | refine blk_alloc ?_ _)); exact BK159.out) NB159_0.out (by simp)); have n2_ := Aside0.mk (Kd.R_mono (Kd.R_keep (IsS232.apart (show IsS232 w0 _ g s0_0 t190 t191 from by repeat (first | (with_reducible first | exact HI0.out | apply IsS232.alloc | apply IsS232.drewN | apply IsS232.drew | apply IsS232.set_1 | apply IsS232.set_2 | refine IsS232.far ?_ NB0_159.out _) | exact HI0.out)) (by (with_reducible repeat (first | apply Kd.R_alloc | apply Kd.R_drewN | apply Kd.R_drew)); exact HO188.out) (by decide)) hk (fun _ h => h.2)) (fun _ h => h.1)); have n3_ := Aside0.mk (Kept.of_keep (S := (fun k_ => (P4_ k_) ∨ k_ = g)) (by repeat (first | (with_reducible first | exact HK.out | apply Kept.alloc | apply Kept.drewN | apply Kept.drew | refine Kept.setCell ?_ (.inl (.inr rfl)) _ | refine Kept.setCell ?_ (.inr GW159.out) _) | exact HK.out)) hk (.inl (.inr rfl))); have n4_ := Aside0.mk (hb); have n5_ := Aside0.mk (hi); clear HO_4; clear BK159; clear HO188; clear HK; clear HB; clear HI0; have HO_4 := n0_; have BK159 := n1_; have HO188 := n2_; have HK := n3_; have HB := n4_; have HI0 := n5_; clear n0_ n1_ n2_ n3_ n4_ n5_; (try clear hb); (try clear hb2); (try clear hk); (try clear hi)) | ((with_reducible refine gate_callee (f := 162) rfl ?_); refine goesL_ (some 95) rfl rfl Try.func162 (by kernel_rfl) rfl #[.pointer (some ⟨g, 0, none⟩), .int .i64 6] rfl (by (try simp only [List.map_toArray, List.map_cons, List.map_nil]); first | done | rfl | (simp only [List.length_drop, List.length_take]; rfl)) ?_; (with_reducible refine (spec_l1Below.calls g s0_0 t193 t194 6 t195 t196 t197 w0 _ ?side1 ?side2 A64.out).mono ?_); (case side1 => repeat (first | (with_reducible first | exact HI0.out | apply IsS232.alloc | apply IsS232.drewN | apply IsS232.drew | apply IsS232.set_1 | apply IsS232.set_2 | refine IsS232.far ?_ NB0_159.out _) | exact HI0.out)); (case side2 => repeat (first | (with_reducible first | exact HB.out | apply below_alloc | apply pw_below_drewN | apply below_drew1 | refine below_set ?_ (IsS232.ge HI0.out) | refine below_set ?_ GE159.out) | exact HB.out)); rintro e w71 ⟨rfl, hi, hb, hk⟩; refine ⟨_, rfl, ?_⟩; have n0_ := Aside0.mk (Kd.R_mono (Kd.R_keep (IsS232.apart (show IsS232 w0 _ g s0_0 t193 t194 from by repeat (first | (with_reducible first | exact HI0.out | apply IsS232.alloc | apply IsS232.drewN | apply IsS232.drew | apply IsS232.set_1 | apply IsS232.set_2 | refine IsS232.far ?_ NB0_159.out _) | exact HI0.out)) (by (with_reducible repeat (first | apply Kd.R_alloc | apply Kd.R_drewN | apply Kd.R_drew)); exact HO_4.out) (by decide)) hk (fun _ h => h.2)) (fun _ h => h.1)); have n1_ := Aside0.mk (KeepBut.blk hk (g' := gb159) (o := .cells #[.int .i64 a1, .int .i64 a2, .int .i64 x160002_52, .string x160003_5, .int .i64 0] 53 (0, 0)) (by (with_reducible repeat (first | refine blk_drewN ?_ _ | refine blk_drew ?_ | refine blk_alloc ?_ _)); exact BK159.out) NB159_0.out (by simp)); have n2_ := Aside0.mk (Kd.R_mono (Kd.R_keep (IsS232.apart (show IsS232 w0 _ g s0_0 t193 t194 from by repeat (first | (with_reducible first | exact HI0.out | apply IsS232.alloc | apply IsS232.drewN | apply IsS232.drew | apply IsS232.set_1 | apply IsS232.set_2 | refine IsS232.far ?_ NB0_159.out _) | exact HI0.out)) (by (with_reducible repeat (first | apply Kd.R_alloc | apply Kd.R_drewN | apply Kd.R_drew)); exact HO188.out) (by decide)) hk (fun _ h => h.2)) (fun _ h => h.1)); have n3_ := Aside0.mk (Kept.of_keep (S := (fun k_ => (P4_ k_) ∨ k_ = g)) (by repeat (first | (with_reducible first | exact HK.out | apply Kept.alloc | apply Kept.drewN | apply Kept.drew | refine Kept.setCell ?_ (.inl (.inr rfl)) _ | refine Kept.setCell ?_ (.inr GW159.out) _) | exact HK.out)) hk (.inl (.inr rfl))); have n4_ := Aside0.mk (hb); have n5_ := Aside0.mk (hi); clear HO_4; clear BK159; clear HO188; clear HK; clear HB; clear HI0; have HO_4 := n0_; have BK159 := n1_; have HO188 := n2_; have HK := n3_; have HB := n4_; have HI0 := n5_; clear n0_ n1_ n2_ n3_ n4_ n5_; (try clear hb); (try clear hb2); (try clear hk); (try clear hi); obtain ⟨Ao72, co72, eo72⟩ := Kd.R_slice HO_4.out; subst eo72) | ((with_reducible refine gate_callee (f := 235) rfl ?_); refine goesL_ (some 105) rfl rfl Try.func235 (by kernel_rfl) rfl #[.pointer (some ⟨g, 0, none⟩), .int .i64 t189, .int .i64 (wrap64 ((wrap64 ((wrap64 (x15_7 + 1)) + t192)) + (wrap64 ((wrap64 (Int.tdiv t195 5)) * 20)))), .int .i64 (wrap64 (a3 - 1)), .slice Ao72 x4_7.length co72] rfl (by (try simp only [List.map_toArray, List.map_cons, List.map_nil]); first | done | rfl | (simp only [List.length_drop, List.length_take]; rfl)) ?_; (with_reducible refine (ih k7 (by have := HJ5.out; have := HJ25.out; have := HJ33.out; have := HJ37.out; have := HJ44.out; have := HJ52.out; have := HK7.out; omega) g s0_0 t196 t197 t189 (wrap64 ((wrap64 ((wrap64 (x15_7 + 1)) + t192)) + (wrap64 ((wrap64 (Int.tdiv t195 5)) * 20)))) (wrap64 (a3 - 1)) (fun k_ => some k_ = (.slice Ao72 x4_7.length co72 : Value).ownBlock) (.slice Ao72 x4_7.length co72) x4_7 t198 t201 t202 w0 _ ?side1 ?side2 ?side3 A65.out).mono ?_); (case side1 => repeat (first | (with_reducible first | exact HI0.out | apply IsS232.alloc | apply IsS232.drewN | apply IsS232.drew | apply IsS232.set_1 | apply IsS232.set_2 | refine IsS232.far ?_ NB0_159.out _) | exact HI0.out)); (case side2 => repeat (first | (with_reducible first | exact HB.out | apply below_alloc | apply pw_below_drewN | apply below_drew1 | refine below_set ?_ (IsS232.ge HI0.out) | refine below_set ?_ GE159.out) | exact HB.out)); (case side3 => exact Kd.R_tight rfl HO_4.out); rintro e w73 ⟨v199, rfl, ho0, hi, hb, hkp⟩; refine ⟨_, rfl, ?_⟩; have n0_ := Aside0.mk (blk_kept (by (with_reducible repeat (first | refine blk_drewN ?_ _ | refine blk_drew ?_ | refine blk_alloc ?_ _)); exact BK159.out) hkp (fun hs_ => Or.elim hs_ (fun hs_ => (fun e_ => (Kd.R_away HO_4.out (fun _ hk => hk.2)) e_) hs_) (fun e_ => NB159_0.out e_))); have n1_ := Aside0.mk (hi); have n2_ := Aside0.mk (Kd.R_mono (ok' := fun k_ => (P4_ k_ ∨ w.heap.size ≤ k_)) (Kd.R_keptB ((IsS232.apart HI0.out (Kd.R_apart' HO188.out (Kd.R_typed HO_4.out) (by decide)) (by decide))) hkp (fun k_ hk_ hs_ => Or.elim hs_ (fun hs_ => (hk_.1.2) hs_) (fun e_ => (hk_.2) e_))) (fun k_ hk_ => hk_.1.1.1.1)); have n3_ := Aside0.mk (Kd.R_mono (ok' := fun k_ => (P4_ k_ ∨ w.heap.size ≤ k_) ∧ k_ ≠ gb159) ho0 (fun k_ hk_ => ⟨Or.elim hk_ (fun hs_ => (HO_4.out.1 k_ (hs_).symm).1) (fun hn_ => (.inr (Nat.le_trans (by first | exact HK.out.1 | exact (show Kept w _ (fun k_ => (P4_ k_) ∨ k_ = g) from by repeat (first | (with_reducible first | exact HK.out | apply Kept.alloc | apply Kept.drewN | apply Kept.drew | refine Kept.setCell ?_ (.inl (.inr rfl)) _ | refine Kept.setCell ?_ (.inr GW159.out) _) | exact HK.out)).1) hn_))), Or.elim hk_ (fun hs_ => fun e_ => (Kd.R_away HO_4.out (fun _ hk => hk.2)) (by rw [← e_]; exact hs_)) (fun hn_ => (Kd.freshB (g := gb159) (o := .cells #[.int .i64 a1, .int .i64 a2, .int .i64 x160002_52, .string x160003_5, .int .i64 0] 53 (0, 0)) (by (with_reducible repeat (first | refine blk_drewN ?_ _ | refine blk_drew ?_ | refine blk_alloc ?_ _)); exact BK159.out) k_ hn_))⟩)); have n4_ := Aside0.mk (Kept.then_ (S := (fun k_ => (P4_ k_) ∨ k_ = g)) (by repeat (first | (with_reducible first | exact HK.out | apply Kept.alloc | apply Kept.drewN | apply Kept.drew | refine Kept.setCell ?_ (.inl (.inr rfl)) _ | refine Kept.setCell ?_ (.inr GW159.out) _) | exact HK.out)) hkp (fun k_ hs_ => Or.elim hs_ (fun hs_ => (fun e_ => Or.imp_left Or.inl ((HO_4.out.1 k_ e_.symm).1)) hs_) (fun e_ => .inl (.inr e_)))); have n5_ := Aside0.mk (hb); clear BK159; clear HI0; clear HO188; clear HK; clear HB; clear HO_4; have BK159 := n0_; have HI0 := n1_; have HO188 := n2_; have HO200 := n3_; have HK := n4_; have HB := n5_; clear n0_ n1_ n2_ n3_ n4_ n5_; (try clear hb); (try clear hkp); (try clear ho0)))
                                          go_roundg k7
                                          case measure => have := HJ5.out; have := HJ25.out; have := HJ33.out; have := HJ37.out; have := HJ44.out; have := HJ52.out; have := HK7.out; omega
                                          case rel => exact ⟨(t198), (wrap64 ((wrap64 ((wrap64 (x15_7 + 1)) + t192)) + (wrap64 ((wrap64 (Int.tdiv t195 5)) * 20)))), (wrap64 (x16_7 + 1)), (t201), (t202), (by first | rfl | (simp; done) | (simp [*]; done)), (by first | rfl | (simp; done) | (simp [*]; done)), H', ⟨by have := HJ5.out; have := HJ25.out; have := HJ33.out; have := HJ37.out; have := HJ44.out; have := HJ52.out; have := HK7.out; omega⟩, ⟨by (try simp only [hl4_44]); (try simp only [hl4_52]); (with_reducible repeat (first | apply Kd.R_alloc | apply Kd.R_drewN | apply Kd.R_drew)); exact HO200.out⟩, ⟨by (try simp only [hl4_44]); (try simp only [hl4_52]); (with_reducible repeat (first | refine blk_drewN ?_ _ | refine blk_drew ?_ | refine blk_alloc ?_ _)); exact BK159.out⟩, ⟨by repeat (first | (with_reducible first | exact HI0.out | apply IsS232.alloc | apply IsS232.drewN | apply IsS232.drew | apply IsS232.set_1 | apply IsS232.set_2 | refine IsS232.far ?_ NB0_159.out _) | exact HI0.out)⟩, ⟨by repeat (first | (with_reducible first | exact HK.out | apply Kept.alloc | apply Kept.drewN | apply Kept.drew | refine Kept.setCell ?_ (.inl (.inr rfl)) _ | refine Kept.setCell ?_ (.inr GW159.out) _) | exact HK.out)⟩, ⟨by repeat (first | (with_reducible first | exact HB.out | apply below_alloc | apply pw_below_drewN | apply below_drew1 | refine below_set ?_ (IsS232.ge HI0.out) | refine below_set ?_ GE159.out) | exact HB.out)⟩⟩
                                        · rw [if_neg c61] at H
                                          have c61b0 : (a1 == 12) = false := beq_eq_false_iff_ne.mpr c61
                                          have c61b1 : (a1 != 12) = true := bne_iff_ne.mpr c61
                                          replace H := Option.bind_eq_some_iff.mp H
                                          obtain ⟨⟨t203, t206, t207⟩, A740, H⟩ := H
                                          replace H : (spec_l4DrawNode.l0 k7 a1 a3 t203 x13_37 t181 x15_7 (wrap64 (x16_7 + 1)) s0_0 t206 t207) = some (r1, r2, r3) := H
                                          have A74 := Aside0.mk A740
                                          clear A740
                                          have H' := Aside0.mk H
                                          clear H
                                          obtain ⟨Ao75, co75, eo75⟩ := Kd.R_slice HO_4.out
                                          subst eo75
                                          go_wp2_with (first | ((with_reducible refine gate_callee (f := 235) rfl ?_); refine goesL_ (some 111) rfl rfl Try.func235 (by kernel_rfl) rfl #[.pointer (some ⟨g, 0, none⟩), .int .i64 t181, .int .i64 0, .int .i64 (wrap64 (a3 - 1)), .slice Ao75 x4_7.length co75] rfl (by (try simp only [List.map_toArray, List.map_cons, List.map_nil]); first | done | rfl | (simp only [List.length_drop, List.length_take]; rfl)) ?_; (with_reducible refine (ih k7 (by have := HJ5.out; have := HJ25.out; have := HJ33.out; have := HJ37.out; have := HJ44.out; have := HJ52.out; have := HK7.out; omega) g s0_0 x1001_7 x1002_7 t181 0 (wrap64 (a3 - 1)) (fun k_ => some k_ = (.slice Ao75 x4_7.length co75 : Value).ownBlock) (.slice Ao75 x4_7.length co75) x4_7 t203 t206 t207 w0 _ ?side1 ?side2 ?side3 A74.out).mono ?_); (case side1 => repeat (first | (with_reducible first | exact HI0.out | apply IsS232.alloc | apply IsS232.drewN | apply IsS232.drew | apply IsS232.set_1 | apply IsS232.set_2 | refine IsS232.far ?_ NB0_159.out _) | exact HI0.out)); (case side2 => repeat (first | (with_reducible first | exact HB.out | apply below_alloc | apply pw_below_drewN | apply below_drew1 | refine below_set ?_ (IsS232.ge HI0.out) | refine below_set ?_ GE159.out) | exact HB.out)); (case side3 => exact Kd.R_tight rfl HO_4.out); rintro e w76 ⟨v204, rfl, ho0, hi, hb, hkp⟩; refine ⟨_, rfl, ?_⟩; have n0_ := Aside0.mk (blk_kept (by (with_reducible repeat (first | refine blk_drewN ?_ _ | refine blk_drew ?_ | refine blk_alloc ?_ _)); exact BK159.out) hkp (fun hs_ => Or.elim hs_ (fun hs_ => (fun e_ => (Kd.R_away HO_4.out (fun _ hk => hk.2)) e_) hs_) (fun e_ => NB159_0.out e_))); have n1_ := Aside0.mk (hi); have n2_ := Aside0.mk (Kd.R_mono (ok' := fun k_ => (P4_ k_ ∨ w.heap.size ≤ k_) ∧ k_ ≠ gb159) ho0 (fun k_ hk_ => ⟨Or.elim hk_ (fun hs_ => (HO_4.out.1 k_ (hs_).symm).1) (fun hn_ => (.inr (Nat.le_trans (by first | exact HK.out.1 | exact (show Kept w _ (fun k_ => (P4_ k_) ∨ k_ = g) from by repeat (first | (with_reducible first | exact HK.out | apply Kept.alloc | apply Kept.drewN | apply Kept.drew | refine Kept.setCell ?_ (.inl (.inr rfl)) _ | refine Kept.setCell ?_ (.inr GW159.out) _) | exact HK.out)).1) hn_))), Or.elim hk_ (fun hs_ => fun e_ => (Kd.R_away HO_4.out (fun _ hk => hk.2)) (by rw [← e_]; exact hs_)) (fun hn_ => (Kd.freshB (g := gb159) (o := .cells #[.int .i64 a1, .int .i64 a2, .int .i64 x160002_52, .string x160003_5, .int .i64 0] 53 (0, 0)) (by (with_reducible repeat (first | refine blk_drewN ?_ _ | refine blk_drew ?_ | refine blk_alloc ?_ _)); exact BK159.out) k_ hn_))⟩)); have n3_ := Aside0.mk (Kept.then_ (S := (fun k_ => (P4_ k_) ∨ k_ = g)) (by repeat (first | (with_reducible first | exact HK.out | apply Kept.alloc | apply Kept.drewN | apply Kept.drew | refine Kept.setCell ?_ (.inl (.inr rfl)) _ | refine Kept.setCell ?_ (.inr GW159.out) _) | exact HK.out)) hkp (fun k_ hs_ => Or.elim hs_ (fun hs_ => (fun e_ => Or.imp_left Or.inl ((HO_4.out.1 k_ e_.symm).1)) hs_) (fun e_ => .inl (.inr e_)))); have n4_ := Aside0.mk (hb); clear BK159; clear HI0; clear HK; clear HB; clear HO_4; have BK159 := n0_; have HI0 := n1_; have HO205 := n2_; have HK := n3_; have HB := n4_; clear n0_ n1_ n2_ n3_ n4_; (try clear hb); (try clear hkp); (try clear ho0)))
                                          go_roundg k7
                                          case measure => have := HJ5.out; have := HJ25.out; have := HJ33.out; have := HJ37.out; have := HJ44.out; have := HJ52.out; have := HK7.out; omega
                                          case rel => exact ⟨(t203), (x15_7), (wrap64 (x16_7 + 1)), (t206), (t207), (by first | rfl | (simp; done) | (simp [*]; done)), (by first | rfl | (simp; done) | (simp [*]; done)), H', ⟨by have := HJ5.out; have := HJ25.out; have := HJ33.out; have := HJ37.out; have := HJ44.out; have := HJ52.out; have := HK7.out; omega⟩, ⟨by (try simp only [hl4_44]); (try simp only [hl4_52]); (with_reducible repeat (first | apply Kd.R_alloc | apply Kd.R_drewN | apply Kd.R_drew)); exact HO205.out⟩, ⟨by (try simp only [hl4_44]); (try simp only [hl4_52]); (with_reducible repeat (first | refine blk_drewN ?_ _ | refine blk_drew ?_ | refine blk_alloc ?_ _)); exact BK159.out⟩, ⟨by repeat (first | (with_reducible first | exact HI0.out | apply IsS232.alloc | apply IsS232.drewN | apply IsS232.drew | apply IsS232.set_1 | apply IsS232.set_2 | refine IsS232.far ?_ NB0_159.out _) | exact HI0.out)⟩, ⟨by repeat (first | (with_reducible first | exact HK.out | apply Kept.alloc | apply Kept.drewN | apply Kept.drew | refine Kept.setCell ?_ (.inl (.inr rfl)) _ | refine Kept.setCell ?_ (.inr GW159.out) _) | exact HK.out)⟩, ⟨by repeat (first | (with_reducible first | exact HB.out | apply below_alloc | apply pw_below_drewN | apply below_drew1 | refine below_set ?_ (IsS232.ge HI0.out) | refine below_set ?_ GE159.out) | exact HB.out)⟩⟩
                                      · rw [if_neg c60] at H
                                        have c60b0 : decide (x16_7 < x13_37) = false := decide_eq_false c60
                                        clear c60
                                        simp only [Option.some.injEq, Prod.mk.injEq] at H
                                        obtain ⟨rfl, rfl, rfl⟩ := H
                                        go_wp2
                                        go_ret
                                        exact ⟨_, by first | rfl | (simp [errW_none, errW_some] <;> rfl) | (simp [*, errW_none, errW_some] <;> rfl), by (with_reducible repeat (first | apply Kd.R_alloc | apply Kd.R_drewN | apply Kd.R_drew)); exact Kd.R_mono HO_4.out (fun _ hk => hk.1), by repeat (first | (with_reducible first | exact HI0.out | apply IsS232.alloc | apply IsS232.drewN | apply IsS232.drew | apply IsS232.set_1 | apply IsS232.set_2 | refine IsS232.far ?_ NB0_159.out _) | exact HI0.out), by repeat (first | (with_reducible first | exact HB.out | apply below_alloc | apply pw_below_drewN | apply below_drew1 | refine below_set ?_ (IsS232.ge HI0.out) | refine below_set ?_ GE159.out) | exact HB.out), by repeat (first | (with_reducible first | exact HK.out | apply Kept.alloc | apply Kept.drewN | apply Kept.drew | refine Kept.setCell ?_ (.inl (.inr rfl)) _ | refine Kept.setCell ?_ (.inr GW159.out) _) | exact HK.out)⟩
                        · rw [if_neg c43] at H
                          exact absurd H (by simp)
                      · rw [if_neg c42] at H
                        exact absurd H (by simp)
      · rw [if_neg c25] at H
        exact absurd H (by simp)

end Go.Proofs.Ytnfamhegbfjggaa.PFnTreeParts
