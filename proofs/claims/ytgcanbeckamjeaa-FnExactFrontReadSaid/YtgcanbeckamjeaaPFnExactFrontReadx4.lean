/- The machine's side of FnExactFrontRead, written by wip/tools/hyb.py of this repo: each Go function as a plain Lean function, and the proof that the call comes to just its answer. No condition. -/
import Derived.Test.YtgcanbeckamjeaaPFnExactFrontReadx0
import Derived.Test.YtgcanbeckamjeaaPFnExactFrontReadx2
import Derived.Test.YtgcanbeckamjeaaPFnExactFrontReadx3
namespace Go.Proofs.Ytgcanbeckamjeaa.PFnExactFrontRead
open Go.RowKit Go.Proofs.YtgcanbeckamjeaaW.PrintWords Go.Proofs.YtgcanbeckamjeaaW.PrintLast Go.Proofs.YtgcanbeckamjeaaW.PrintMore Go.Proofs.YtgcanbeckamjeaaW.PrintMore2
attribute [local go_sem] max2_int min2_int max_two min_two max_three min_three max_four min_four   -- for this text's walks alone
set_option linter.unusedVariables false
set_option linter.unusedSimpArgs false

/-! ### spec_DeltaRead: function 15 -/
mutual
def spec_DeltaRead.j0 : Nat → List Int → Int → List Int → Int → Int → Int → Int → Bool → Option (List Int × Int × Bool)
  | 0, _, _, _, _, _, _, _, _ => none
  | k + 1, x0, x1, x7, x8, x10, x12, x14, x107 => if x107 = true then (some (x7, 0, false)) else ((some (([] : List Int) : List Int)).bind fun y157 => (if x12 > 0 then (if y157.length < 17592186044416 then (spec_DeltaRead.j1 k x0 x1 x7 x8 x10 x12 (y157 ++ [x14])) else (none)) else (spec_DeltaRead.j1 k x0 x1 x7 x8 x10 x12 y157)))
def spec_DeltaRead.j1 : Nat → List Int → Int → List Int → Int → Int → Int → List Int → Option (List Int × Int × Bool)
  | 0, _, _, _, _, _, _, _ => none
  | k + 1, x0, x1, x7, x8, x10, x12, x16 => spec_DeltaRead.l0 k x0 x1 x7 x8 x10 x12 x16
def spec_DeltaRead.l0 : Nat → List Int → Int → List Int → Int → Int → Int → List Int → Option (List Int × Int × Bool)
  | 0, _, _, _, _, _, _, _ => none
  | k + 1, x0, x1, x7, x8, x10, x12, x16 => if (x16.length : Int) < x12 then ((spec_ZigGet.f k x0 x1).bind fun bt163 => (if bt163.2.2 = true then (spec_DeltaRead.j3 k x0 x7 x8 x10 x12 x16 bt163.1 bt163.2.1 (decide ((wrap64 ((x0.length : Int) - bt163.2.1)) < x10))) else (spec_DeltaRead.j3 k x0 x7 x8 x10 x12 x16 bt163.1 bt163.2.1 true))) else (some (x16, x1, true))
def spec_DeltaRead.j3 : Nat → List Int → List Int → Int → Int → Int → List Int → Int → Int → Bool → Option (List Int × Int × Bool)
  | 0, _, _, _, _, _, _, _, _, _ => none
  | k + 1, x0, x7, x8, x10, x12, x16, x17, x18, x136 => if x136 = true then (some (x7, 0, false)) else (spec_DeltaRead.l1 k x0 (wrap64 (x18 + x10)) x7 x8 x10 x12 x16 x17 x18 0)
def spec_DeltaRead.l1 : Nat → List Int → Int → List Int → Int → Int → Int → List Int → Int → Int → Int → Option (List Int × Int × Bool)
  | 0, _, _, _, _, _, _, _, _, _, _ => none
  | k + 1, x0, x1, x7, x8, x10, x12, x16, x17, x18, x20 => if x20 < x10 then (spec_DeltaRead.j5 k x0 x1 x7 x8 x10 x12 x16 x17 x18 x20 (decide ((x16.length : Int) < x12))) else (spec_DeltaRead.j5 k x0 x1 x7 x8 x10 x12 x16 x17 x18 x20 false)
def spec_DeltaRead.j5 : Nat → List Int → Int → List Int → Int → Int → Int → List Int → Int → Int → Int → Bool → Option (List Int × Int × Bool)
  | 0, _, _, _, _, _, _, _, _, _, _, _ => none
  | k + 1, x0, x1, x7, x8, x10, x12, x16, x17, x18, x20, x149 => if x149 = true then (if x10 = 0 then (none) else (if 0 ≤ (wrap64 (x18 + x20)) then (if (wrap64 (x18 + x20)) < (x0.length : Int) then ((spec_l9Mini.f k x0 x1 (wrap64 (Int.tdiv x8 x10)) (wrap64 (rd x0 (wrap64 (x18 + x20))))).bind fun bt167 => (if bt167.2.2 = true then (spec_DeltaRead.l2 k x0 bt167.2.1 x7 x8 x10 x12 x16 x17 x18 x20 bt167.1 0) else (some (x7, 0, false)))) else (none)) else (none))) else (spec_DeltaRead.l0 k x0 x1 x7 x8 x10 x12 x16)
def spec_DeltaRead.l2 : Nat → List Int → Int → List Int → Int → Int → Int → List Int → Int → Int → Int → List Int → Int → Option (List Int × Int × Bool)
  | 0, _, _, _, _, _, _, _, _, _, _, _, _ => none
  | k + 1, x0, x1, x7, x8, x10, x12, x16, x17, x18, x20, x21, x24 => if x24 < (x21.length : Int) then (if (x16.length : Int) < x12 then (if 0 ≤ (wrap64 ((x16.length : Int) - 1)) then (if (wrap64 ((x16.length : Int) - 1)) < (x16.length : Int) then (if 0 ≤ x24 then (if x16.length < 17592186044416 then (spec_DeltaRead.l2 k x0 x1 x7 x8 x10 x12 (x16 ++ [wrap64 ((wrap64 ((rd x16 (wrap64 ((x16.length : Int) - 1))) + (rd x21 x24))) + x17)]) x17 x18 x20 x21 (wrap64 (x24 + 1))) else (none)) else (none)) else (none)) else (none)) else (spec_DeltaRead.l1 k x0 x1 x7 x8 x10 x12 x16 x17 x18 (wrap64 (x20 + 1)))) else (spec_DeltaRead.l1 k x0 x1 x7 x8 x10 x12 x16 x17 x18 (wrap64 (x20 + 1)))
end
def spec_DeltaRead.f (k : Nat) (l0 : List Int) (a1 : Int) : Option (List Int × Int × Bool) := (some (([] : List Int) : List Int)).bind fun y138 => ((spec_l1In.f a1 0 (l0.length : Int)).bind fun t141 => (if t141 = true then ((spec_UvarGet.f k l0 a1).bind fun bt142 => ((spec_UvarGet.f k l0 bt142.2.1).bind fun bt145 => ((spec_UvarGet.f k l0 bt145.2.1).bind fun bt148 => ((spec_ZigGet.f k l0 bt148.2.1).bind fun bt151 => (if bt142.2.2 = true then (if bt145.2.2 = true then (if bt148.2.2 = true then (if bt151.2.2 = true then ((spec_l1In.f bt142.1 128 1024).bind fun t154 => (if t154 = true then (if (Int.tmod bt142.1 128) = 0 then ((spec_l1In.f bt145.1 1 bt142.1).bind fun t155 => (if t155 = true then (if bt145.1 = 0 then (none) else (if (Int.tmod bt142.1 bt145.1) = 0 then (if (Int.tmod (wrap64 (Int.tdiv bt142.1 bt145.1)) 32) = 0 then ((spec_l1In.f bt148.1 0 2000).bind fun t156 => (spec_DeltaRead.j0 k l0 bt151.2.1 y138 bt142.1 bt145.1 bt148.1 bt151.1 (!t156))) else (spec_DeltaRead.j0 k l0 bt151.2.1 y138 bt142.1 bt145.1 bt148.1 bt151.1 true)) else (spec_DeltaRead.j0 k l0 bt151.2.1 y138 bt142.1 bt145.1 bt148.1 bt151.1 true))) else (spec_DeltaRead.j0 k l0 bt151.2.1 y138 bt142.1 bt145.1 bt148.1 bt151.1 true))) else (spec_DeltaRead.j0 k l0 bt151.2.1 y138 bt142.1 bt145.1 bt148.1 bt151.1 true)) else (spec_DeltaRead.j0 k l0 bt151.2.1 y138 bt142.1 bt145.1 bt148.1 bt151.1 true))) else (spec_DeltaRead.j0 k l0 bt151.2.1 y138 bt142.1 bt145.1 bt148.1 bt151.1 true)) else (spec_DeltaRead.j0 k l0 bt151.2.1 y138 bt142.1 bt145.1 bt148.1 bt151.1 true)) else (spec_DeltaRead.j0 k l0 bt151.2.1 y138 bt142.1 bt145.1 bt148.1 bt151.1 true)) else (spec_DeltaRead.j0 k l0 bt151.2.1 y138 bt142.1 bt145.1 bt148.1 bt151.1 true)))))) else (some (y138, 0, false))))
theorem spec_DeltaRead.mono_l : ∀ k, (∀ y0 y1 y2 y3 y4 y5 y6 y7, LeO (spec_DeltaRead.j0 k y0 y1 y2 y3 y4 y5 y6 y7) (spec_DeltaRead.j0 (k + 1) y0 y1 y2 y3 y4 y5 y6 y7)) ∧ (∀ y0 y1 y2 y3 y4 y5 y6, LeO (spec_DeltaRead.j1 k y0 y1 y2 y3 y4 y5 y6) (spec_DeltaRead.j1 (k + 1) y0 y1 y2 y3 y4 y5 y6)) ∧ (∀ y0 y1 y2 y3 y4 y5 y6, LeO (spec_DeltaRead.l0 k y0 y1 y2 y3 y4 y5 y6) (spec_DeltaRead.l0 (k + 1) y0 y1 y2 y3 y4 y5 y6)) ∧ (∀ y0 y1 y2 y3 y4 y5 y6 y7 y8, LeO (spec_DeltaRead.j3 k y0 y1 y2 y3 y4 y5 y6 y7 y8) (spec_DeltaRead.j3 (k + 1) y0 y1 y2 y3 y4 y5 y6 y7 y8)) ∧ (∀ y0 y1 y2 y3 y4 y5 y6 y7 y8 y9, LeO (spec_DeltaRead.l1 k y0 y1 y2 y3 y4 y5 y6 y7 y8 y9) (spec_DeltaRead.l1 (k + 1) y0 y1 y2 y3 y4 y5 y6 y7 y8 y9)) ∧ (∀ y0 y1 y2 y3 y4 y5 y6 y7 y8 y9 y10, LeO (spec_DeltaRead.j5 k y0 y1 y2 y3 y4 y5 y6 y7 y8 y9 y10) (spec_DeltaRead.j5 (k + 1) y0 y1 y2 y3 y4 y5 y6 y7 y8 y9 y10)) ∧ (∀ y0 y1 y2 y3 y4 y5 y6 y7 y8 y9 y10 y11, LeO (spec_DeltaRead.l2 k y0 y1 y2 y3 y4 y5 y6 y7 y8 y9 y10 y11) (spec_DeltaRead.l2 (k + 1) y0 y1 y2 y3 y4 y5 y6 y7 y8 y9 y10 y11))
  | 0 => ⟨fun _ _ _ _ _ _ _ _ r h => by simp [spec_DeltaRead.j0] at h, fun _ _ _ _ _ _ _ r h => by simp [spec_DeltaRead.j1] at h, fun _ _ _ _ _ _ _ r h => by simp [spec_DeltaRead.l0] at h, fun _ _ _ _ _ _ _ _ _ r h => by simp [spec_DeltaRead.j3] at h, fun _ _ _ _ _ _ _ _ _ _ r h => by simp [spec_DeltaRead.l1] at h, fun _ _ _ _ _ _ _ _ _ _ _ r h => by simp [spec_DeltaRead.j5] at h, fun _ _ _ _ _ _ _ _ _ _ _ _ r h => by simp [spec_DeltaRead.l2] at h⟩
  | k + 1 => by
    obtain ⟨ih0, ih1, ih2, ih3, ih4, ih5, ih6⟩ := spec_DeltaRead.mono_l k
    refine ⟨?_, ?_, ?_, ?_, ?_, ?_, ?_⟩
    · intro y0 y1 y2 y3 y4 y5 y6 y7
      unfold spec_DeltaRead.j0
      repeat' first
      | (with_reducible exact ih0 _ _ _ _ _ _ _ _)
      | (with_reducible exact ih1 _ _ _ _ _ _ _)
      | (with_reducible exact ih2 _ _ _ _ _ _ _)
      | (with_reducible exact ih3 _ _ _ _ _ _ _ _ _)
      | (with_reducible exact ih4 _ _ _ _ _ _ _ _ _ _)
      | (with_reducible exact ih5 _ _ _ _ _ _ _ _ _ _ _)
      | (with_reducible exact ih6 _ _ _ _ _ _ _ _ _ _ _ _)
      | (with_reducible exact spec_UvarGet.mono _ _ _)
      | (with_reducible exact spec_ZigGet.mono _ _ _)
      | (with_reducible exact spec_l9Mini.mono _ _ _ _ _)
      | (with_reducible exact LeO.refl _)
      | (with_reducible exact LeO.none _)
      | (with_reducible refine LeO.ite ?_ ?_)
      | (with_reducible refine LeO.bind ?_ (fun _ => ?_))
      | exact ih0 _ _ _ _ _ _ _ _
      | exact ih1 _ _ _ _ _ _ _
      | exact ih2 _ _ _ _ _ _ _
      | exact ih3 _ _ _ _ _ _ _ _ _
      | exact ih4 _ _ _ _ _ _ _ _ _ _
      | exact ih5 _ _ _ _ _ _ _ _ _ _ _
      | exact ih6 _ _ _ _ _ _ _ _ _ _ _ _
      | exact spec_UvarGet.mono _ _ _
      | exact spec_ZigGet.mono _ _ _
      | exact spec_l9Mini.mono _ _ _ _ _
      | exact LeO.none _
      | refine LeO.ite ?_ ?_
      | refine LeO.bind ?_ (fun _ => ?_)
    · intro y0 y1 y2 y3 y4 y5 y6
      unfold spec_DeltaRead.j1
      repeat' first
      | (with_reducible exact ih0 _ _ _ _ _ _ _ _)
      | (with_reducible exact ih1 _ _ _ _ _ _ _)
      | (with_reducible exact ih2 _ _ _ _ _ _ _)
      | (with_reducible exact ih3 _ _ _ _ _ _ _ _ _)
      | (with_reducible exact ih4 _ _ _ _ _ _ _ _ _ _)
      | (with_reducible exact ih5 _ _ _ _ _ _ _ _ _ _ _)
      | (with_reducible exact ih6 _ _ _ _ _ _ _ _ _ _ _ _)
      | (with_reducible exact spec_UvarGet.mono _ _ _)
      | (with_reducible exact spec_ZigGet.mono _ _ _)
      | (with_reducible exact spec_l9Mini.mono _ _ _ _ _)
      | (with_reducible exact LeO.refl _)
      | (with_reducible exact LeO.none _)
      | (with_reducible refine LeO.ite ?_ ?_)
      | (with_reducible refine LeO.bind ?_ (fun _ => ?_))
      | exact ih0 _ _ _ _ _ _ _ _
      | exact ih1 _ _ _ _ _ _ _
      | exact ih2 _ _ _ _ _ _ _
      | exact ih3 _ _ _ _ _ _ _ _ _
      | exact ih4 _ _ _ _ _ _ _ _ _ _
      | exact ih5 _ _ _ _ _ _ _ _ _ _ _
      | exact ih6 _ _ _ _ _ _ _ _ _ _ _ _
      | exact spec_UvarGet.mono _ _ _
      | exact spec_ZigGet.mono _ _ _
      | exact spec_l9Mini.mono _ _ _ _ _
      | exact LeO.none _
      | refine LeO.ite ?_ ?_
      | refine LeO.bind ?_ (fun _ => ?_)
    · intro y0 y1 y2 y3 y4 y5 y6
      unfold spec_DeltaRead.l0
      repeat' first
      | (with_reducible exact ih0 _ _ _ _ _ _ _ _)
      | (with_reducible exact ih1 _ _ _ _ _ _ _)
      | (with_reducible exact ih2 _ _ _ _ _ _ _)
      | (with_reducible exact ih3 _ _ _ _ _ _ _ _ _)
      | (with_reducible exact ih4 _ _ _ _ _ _ _ _ _ _)
      | (with_reducible exact ih5 _ _ _ _ _ _ _ _ _ _ _)
      | (with_reducible exact ih6 _ _ _ _ _ _ _ _ _ _ _ _)
      | (with_reducible exact spec_UvarGet.mono _ _ _)
      | (with_reducible exact spec_ZigGet.mono _ _ _)
      | (with_reducible exact spec_l9Mini.mono _ _ _ _ _)
      | (with_reducible exact LeO.refl _)
      | (with_reducible exact LeO.none _)
      | (with_reducible refine LeO.ite ?_ ?_)
      | (with_reducible refine LeO.bind ?_ (fun _ => ?_))
      | exact ih0 _ _ _ _ _ _ _ _
      | exact ih1 _ _ _ _ _ _ _
      | exact ih2 _ _ _ _ _ _ _
      | exact ih3 _ _ _ _ _ _ _ _ _
      | exact ih4 _ _ _ _ _ _ _ _ _ _
      | exact ih5 _ _ _ _ _ _ _ _ _ _ _
      | exact ih6 _ _ _ _ _ _ _ _ _ _ _ _
      | exact spec_UvarGet.mono _ _ _
      | exact spec_ZigGet.mono _ _ _
      | exact spec_l9Mini.mono _ _ _ _ _
      | exact LeO.none _
      | refine LeO.ite ?_ ?_
      | refine LeO.bind ?_ (fun _ => ?_)
    · intro y0 y1 y2 y3 y4 y5 y6 y7 y8
      unfold spec_DeltaRead.j3
      repeat' first
      | (with_reducible exact ih0 _ _ _ _ _ _ _ _)
      | (with_reducible exact ih1 _ _ _ _ _ _ _)
      | (with_reducible exact ih2 _ _ _ _ _ _ _)
      | (with_reducible exact ih3 _ _ _ _ _ _ _ _ _)
      | (with_reducible exact ih4 _ _ _ _ _ _ _ _ _ _)
      | (with_reducible exact ih5 _ _ _ _ _ _ _ _ _ _ _)
      | (with_reducible exact ih6 _ _ _ _ _ _ _ _ _ _ _ _)
      | (with_reducible exact spec_UvarGet.mono _ _ _)
      | (with_reducible exact spec_ZigGet.mono _ _ _)
      | (with_reducible exact spec_l9Mini.mono _ _ _ _ _)
      | (with_reducible exact LeO.refl _)
      | (with_reducible exact LeO.none _)
      | (with_reducible refine LeO.ite ?_ ?_)
      | (with_reducible refine LeO.bind ?_ (fun _ => ?_))
      | exact ih0 _ _ _ _ _ _ _ _
      | exact ih1 _ _ _ _ _ _ _
      | exact ih2 _ _ _ _ _ _ _
      | exact ih3 _ _ _ _ _ _ _ _ _
      | exact ih4 _ _ _ _ _ _ _ _ _ _
      | exact ih5 _ _ _ _ _ _ _ _ _ _ _
      | exact ih6 _ _ _ _ _ _ _ _ _ _ _ _
      | exact spec_UvarGet.mono _ _ _
      | exact spec_ZigGet.mono _ _ _
      | exact spec_l9Mini.mono _ _ _ _ _
      | exact LeO.none _
      | refine LeO.ite ?_ ?_
      | refine LeO.bind ?_ (fun _ => ?_)
    · intro y0 y1 y2 y3 y4 y5 y6 y7 y8 y9
      unfold spec_DeltaRead.l1
      repeat' first
      | (with_reducible exact ih0 _ _ _ _ _ _ _ _)
      | (with_reducible exact ih1 _ _ _ _ _ _ _)
      | (with_reducible exact ih2 _ _ _ _ _ _ _)
      | (with_reducible exact ih3 _ _ _ _ _ _ _ _ _)
      | (with_reducible exact ih4 _ _ _ _ _ _ _ _ _ _)
      | (with_reducible exact ih5 _ _ _ _ _ _ _ _ _ _ _)
      | (with_reducible exact ih6 _ _ _ _ _ _ _ _ _ _ _ _)
      | (with_reducible exact spec_UvarGet.mono _ _ _)
      | (with_reducible exact spec_ZigGet.mono _ _ _)
      | (with_reducible exact spec_l9Mini.mono _ _ _ _ _)
      | (with_reducible exact LeO.refl _)
      | (with_reducible exact LeO.none _)
      | (with_reducible refine LeO.ite ?_ ?_)
      | (with_reducible refine LeO.bind ?_ (fun _ => ?_))
      | exact ih0 _ _ _ _ _ _ _ _
      | exact ih1 _ _ _ _ _ _ _
      | exact ih2 _ _ _ _ _ _ _
      | exact ih3 _ _ _ _ _ _ _ _ _
      | exact ih4 _ _ _ _ _ _ _ _ _ _
      | exact ih5 _ _ _ _ _ _ _ _ _ _ _
      | exact ih6 _ _ _ _ _ _ _ _ _ _ _ _
      | exact spec_UvarGet.mono _ _ _
      | exact spec_ZigGet.mono _ _ _
      | exact spec_l9Mini.mono _ _ _ _ _
      | exact LeO.none _
      | refine LeO.ite ?_ ?_
      | refine LeO.bind ?_ (fun _ => ?_)
    · intro y0 y1 y2 y3 y4 y5 y6 y7 y8 y9 y10
      unfold spec_DeltaRead.j5
      repeat' first
      | (with_reducible exact ih0 _ _ _ _ _ _ _ _)
      | (with_reducible exact ih1 _ _ _ _ _ _ _)
      | (with_reducible exact ih2 _ _ _ _ _ _ _)
      | (with_reducible exact ih3 _ _ _ _ _ _ _ _ _)
      | (with_reducible exact ih4 _ _ _ _ _ _ _ _ _ _)
      | (with_reducible exact ih5 _ _ _ _ _ _ _ _ _ _ _)
      | (with_reducible exact ih6 _ _ _ _ _ _ _ _ _ _ _ _)
      | (with_reducible exact spec_UvarGet.mono _ _ _)
      | (with_reducible exact spec_ZigGet.mono _ _ _)
      | (with_reducible exact spec_l9Mini.mono _ _ _ _ _)
      | (with_reducible exact LeO.refl _)
      | (with_reducible exact LeO.none _)
      | (with_reducible refine LeO.ite ?_ ?_)
      | (with_reducible refine LeO.bind ?_ (fun _ => ?_))
      | exact ih0 _ _ _ _ _ _ _ _
      | exact ih1 _ _ _ _ _ _ _
      | exact ih2 _ _ _ _ _ _ _
      | exact ih3 _ _ _ _ _ _ _ _ _
      | exact ih4 _ _ _ _ _ _ _ _ _ _
      | exact ih5 _ _ _ _ _ _ _ _ _ _ _
      | exact ih6 _ _ _ _ _ _ _ _ _ _ _ _
      | exact spec_UvarGet.mono _ _ _
      | exact spec_ZigGet.mono _ _ _
      | exact spec_l9Mini.mono _ _ _ _ _
      | exact LeO.none _
      | refine LeO.ite ?_ ?_
      | refine LeO.bind ?_ (fun _ => ?_)
    · intro y0 y1 y2 y3 y4 y5 y6 y7 y8 y9 y10 y11
      unfold spec_DeltaRead.l2
      repeat' first
      | (with_reducible exact ih0 _ _ _ _ _ _ _ _)
      | (with_reducible exact ih1 _ _ _ _ _ _ _)
      | (with_reducible exact ih2 _ _ _ _ _ _ _)
      | (with_reducible exact ih3 _ _ _ _ _ _ _ _ _)
      | (with_reducible exact ih4 _ _ _ _ _ _ _ _ _ _)
      | (with_reducible exact ih5 _ _ _ _ _ _ _ _ _ _ _)
      | (with_reducible exact ih6 _ _ _ _ _ _ _ _ _ _ _ _)
      | (with_reducible exact spec_UvarGet.mono _ _ _)
      | (with_reducible exact spec_ZigGet.mono _ _ _)
      | (with_reducible exact spec_l9Mini.mono _ _ _ _ _)
      | (with_reducible exact LeO.refl _)
      | (with_reducible exact LeO.none _)
      | (with_reducible refine LeO.ite ?_ ?_)
      | (with_reducible refine LeO.bind ?_ (fun _ => ?_))
      | exact ih0 _ _ _ _ _ _ _ _
      | exact ih1 _ _ _ _ _ _ _
      | exact ih2 _ _ _ _ _ _ _
      | exact ih3 _ _ _ _ _ _ _ _ _
      | exact ih4 _ _ _ _ _ _ _ _ _ _
      | exact ih5 _ _ _ _ _ _ _ _ _ _ _
      | exact ih6 _ _ _ _ _ _ _ _ _ _ _ _
      | exact spec_UvarGet.mono _ _ _
      | exact spec_ZigGet.mono _ _ _
      | exact spec_l9Mini.mono _ _ _ _ _
      | exact LeO.none _
      | refine LeO.ite ?_ ?_
      | refine LeO.bind ?_ (fun _ => ?_)
theorem spec_DeltaRead.mono : ∀ a0 a1 k, LeO (spec_DeltaRead.f k a0 a1) (spec_DeltaRead.f (k + 1) a0 a1) := by
  intro a0 a1 k
  obtain ⟨ih0, ih1, ih2, ih3, ih4, ih5, ih6⟩ := spec_DeltaRead.mono_l k
  unfold spec_DeltaRead.f
  repeat' first
      | (with_reducible exact ih0 _ _ _ _ _ _ _ _)
      | (with_reducible exact ih1 _ _ _ _ _ _ _)
      | (with_reducible exact ih2 _ _ _ _ _ _ _)
      | (with_reducible exact ih3 _ _ _ _ _ _ _ _ _)
      | (with_reducible exact ih4 _ _ _ _ _ _ _ _ _ _)
      | (with_reducible exact ih5 _ _ _ _ _ _ _ _ _ _ _)
      | (with_reducible exact ih6 _ _ _ _ _ _ _ _ _ _ _ _)
      | (with_reducible exact spec_UvarGet.mono _ _ _)
      | (with_reducible exact spec_ZigGet.mono _ _ _)
      | (with_reducible exact spec_l9Mini.mono _ _ _ _ _)
      | (with_reducible exact LeO.refl _)
      | (with_reducible exact LeO.none _)
      | (with_reducible refine LeO.ite ?_ ?_)
      | (with_reducible refine LeO.bind ?_ (fun _ => ?_))
      | exact ih0 _ _ _ _ _ _ _ _
      | exact ih1 _ _ _ _ _ _ _
      | exact ih2 _ _ _ _ _ _ _
      | exact ih3 _ _ _ _ _ _ _ _ _
      | exact ih4 _ _ _ _ _ _ _ _ _ _
      | exact ih5 _ _ _ _ _ _ _ _ _ _ _
      | exact ih6 _ _ _ _ _ _ _ _ _ _ _ _
      | exact spec_UvarGet.mono _ _ _
      | exact spec_ZigGet.mono _ _ _
      | exact spec_l9Mini.mono _ _ _ _ _
      | exact LeO.none _
      | refine LeO.ite ?_ ?_
      | refine LeO.bind ?_ (fun _ => ?_)
def spec_DeltaRead.T21 : Bool × List (List Nat × List Nat) := (true, [([], []), ([], []), ([], []), ([], []), ([2, 3], [2, 3]), ([], []), ([], []), ([], []), ([6, 7], [6, 7]), ([5, 8], [5, 8]), ([9], [9]), ([10], [10]), ([0, 1, 4, 11], [0, 1, 4, 11]), ([12], [12]), ([13], [13]), ([13], [13]), ([13], [13]), ([14, 12, 0, 1, 2, 3, 4, 5, 6, 7, 8, 9, 10, 11, 12, 13, 14], [14]), ([15, 17, 0, 1, 2, 3, 4, 5, 6, 7, 8, 9, 10, 11, 12, 13, 14, 15, 17], [15]), ([16, 18, 0, 1, 2, 3, 4, 5, 6, 7, 8, 9, 10, 11, 12, 13, 14, 15, 16, 17, 18], [16])])
def spec_DeltaRead.B21 : List Nat := [0, 0, 0, 0, 12, 0, 0, 0, 192, 480, 992, 2016, 4095, 8191, 16383, 16383, 16383, 32767, 196607, 524287]
theorem spec_DeltaRead.tab21 : rtab .any (opsOf Try.f15 21) = spec_DeltaRead.T21 := by kernel_rfl
theorem spec_DeltaRead.bits21 : waitsOk spec_DeltaRead.T21.2 spec_DeltaRead.B21 = true := by kernel_rfl
def spec_DeltaRead.T28 : Bool × List (List Nat × List Nat) := (true, [([], []), ([], []), ([], []), ([2], [2]), ([3], [3]), ([1, 4], [1, 4]), ([5], [5]), ([], []), ([], []), ([7, 8], [7, 8]), ([9], [9]), ([6, 10], [6, 10]), ([], []), ([11, 12], [11, 12]), ([13], [13]), ([0, 14], [0, 14]), ([15, 15, 0, 1, 2, 3, 4, 5, 6, 7, 8, 9, 10, 11, 12, 13, 14, 15], [0, 1, 2, 15])])
def spec_DeltaRead.B28 : List Nat := [0, 0, 0, 4, 12, 30, 62, 0, 0, 384, 896, 2046, 0, 8190, 16382, 32767, 65535]
theorem spec_DeltaRead.tab28 : rtab .any (opsOf Try.f15 28) = spec_DeltaRead.T28 := by kernel_rfl
theorem spec_DeltaRead.bits28 : waitsOk spec_DeltaRead.T28.2 spec_DeltaRead.B28 = true := by kernel_rfl
set_option maxHeartbeats 8000000 in
set_option maxRecDepth 100000 in
theorem spec_DeltaRead.calls (k : Nat) (A0 : Option Addr) (c0 : Nat) (l0 : List Int) (a1 : Int) (r1 : List Int) (r2 : Int) (r3 : Bool) (w : World) (hr0 : Kd.C (Kd.int .u8) w A0 l0.length l0) (hc0 : l0.length ≤ c0) (h : spec_DeltaRead.f k l0 a1 = some (r1, r2, r3)) :
    Calls Try.prog 15 #[.slice A0 l0.length c0, .int .i64 a1] w fun e w' => ∃ v0_ : Value, e = .returned (.tuple #[v0_, .int .i64 r2, .bool r3]) ∧ Kd.R (Kd.int .i64) 3 w' w.heap.size (fun _ => True) v0_ r1 ∧ Below w.heap.size w w' := by
  have HR0 := Aside0.mk hr0
  have HC0 := Aside0.mk hc0
  clear hr0 hc0
  have HB := Aside0.mk (Below.refl w.heap.size w)
  have H : ((some (([] : List Int) : List Int)).bind fun y138 => ((spec_l1In.f a1 0 (l0.length : Int)).bind fun t141 => (if t141 = true then ((spec_UvarGet.f k l0 a1).bind fun bt142 => ((spec_UvarGet.f k l0 bt142.2.1).bind fun bt145 => ((spec_UvarGet.f k l0 bt145.2.1).bind fun bt148 => ((spec_ZigGet.f k l0 bt148.2.1).bind fun bt151 => (if bt142.2.2 = true then (if bt145.2.2 = true then (if bt148.2.2 = true then (if bt151.2.2 = true then ((spec_l1In.f bt142.1 128 1024).bind fun t154 => (if t154 = true then (if (Int.tmod bt142.1 128) = 0 then ((spec_l1In.f bt145.1 1 bt142.1).bind fun t155 => (if t155 = true then (if bt145.1 = 0 then (none) else (if (Int.tmod bt142.1 bt145.1) = 0 then (if (Int.tmod (wrap64 (Int.tdiv bt142.1 bt145.1)) 32) = 0 then ((spec_l1In.f bt148.1 0 2000).bind fun t156 => (spec_DeltaRead.j0 k l0 bt151.2.1 y138 bt142.1 bt145.1 bt148.1 bt151.1 (!t156))) else (spec_DeltaRead.j0 k l0 bt151.2.1 y138 bt142.1 bt145.1 bt148.1 bt151.1 true)) else (spec_DeltaRead.j0 k l0 bt151.2.1 y138 bt142.1 bt145.1 bt148.1 bt151.1 true))) else (spec_DeltaRead.j0 k l0 bt151.2.1 y138 bt142.1 bt145.1 bt148.1 bt151.1 true))) else (spec_DeltaRead.j0 k l0 bt151.2.1 y138 bt142.1 bt145.1 bt148.1 bt151.1 true)) else (spec_DeltaRead.j0 k l0 bt151.2.1 y138 bt142.1 bt145.1 bt148.1 bt151.1 true))) else (spec_DeltaRead.j0 k l0 bt151.2.1 y138 bt142.1 bt145.1 bt148.1 bt151.1 true)) else (spec_DeltaRead.j0 k l0 bt151.2.1 y138 bt142.1 bt145.1 bt148.1 bt151.1 true)) else (spec_DeltaRead.j0 k l0 bt151.2.1 y138 bt142.1 bt145.1 bt148.1 bt151.1 true)) else (spec_DeltaRead.j0 k l0 bt151.2.1 y138 bt142.1 bt145.1 bt148.1 bt151.1 true)))))) else (some (y138, 0, false))))) = some (r1, r2, r3) := h
  clear h
  obtain ⟨y138, hy138⟩ : ∃ y_ : List Int, y_ = (([] : List Int)) := ⟨_, rfl⟩
  replace H : ((spec_l1In.f a1 0 (l0.length : Int)).bind fun t141 => (if t141 = true then ((spec_UvarGet.f k l0 a1).bind fun bt142 => ((spec_UvarGet.f k l0 bt142.2.1).bind fun bt145 => ((spec_UvarGet.f k l0 bt145.2.1).bind fun bt148 => ((spec_ZigGet.f k l0 bt148.2.1).bind fun bt151 => (if bt142.2.2 = true then (if bt145.2.2 = true then (if bt148.2.2 = true then (if bt151.2.2 = true then ((spec_l1In.f bt142.1 128 1024).bind fun t154 => (if t154 = true then (if (Int.tmod bt142.1 128) = 0 then ((spec_l1In.f bt145.1 1 bt142.1).bind fun t155 => (if t155 = true then (if bt145.1 = 0 then (none) else (if (Int.tmod bt142.1 bt145.1) = 0 then (if (Int.tmod (wrap64 (Int.tdiv bt142.1 bt145.1)) 32) = 0 then ((spec_l1In.f bt148.1 0 2000).bind fun t156 => (spec_DeltaRead.j0 k l0 bt151.2.1 y138 bt142.1 bt145.1 bt148.1 bt151.1 (!t156))) else (spec_DeltaRead.j0 k l0 bt151.2.1 y138 bt142.1 bt145.1 bt148.1 bt151.1 true)) else (spec_DeltaRead.j0 k l0 bt151.2.1 y138 bt142.1 bt145.1 bt148.1 bt151.1 true))) else (spec_DeltaRead.j0 k l0 bt151.2.1 y138 bt142.1 bt145.1 bt148.1 bt151.1 true))) else (spec_DeltaRead.j0 k l0 bt151.2.1 y138 bt142.1 bt145.1 bt148.1 bt151.1 true)) else (spec_DeltaRead.j0 k l0 bt151.2.1 y138 bt142.1 bt145.1 bt148.1 bt151.1 true))) else (spec_DeltaRead.j0 k l0 bt151.2.1 y138 bt142.1 bt145.1 bt148.1 bt151.1 true)) else (spec_DeltaRead.j0 k l0 bt151.2.1 y138 bt142.1 bt145.1 bt148.1 bt151.1 true)) else (spec_DeltaRead.j0 k l0 bt151.2.1 y138 bt142.1 bt145.1 bt148.1 bt151.1 true)) else (spec_DeltaRead.j0 k l0 bt151.2.1 y138 bt142.1 bt145.1 bt148.1 bt151.1 true)))))) else (some (y138, 0, false)))) = some (r1, r2, r3) := by first | (rw [hy138]; with_reducible exact H) | (have H2_ := (Option.bind_some _ _).symm.trans H; rw [hy138]; with_reducible exact H2_) | (have H2_ := (Option.bind_some _ _).symm.trans H; with_reducible exact H2_) | with_reducible exact H | (rw [hy138]; exact H) | exact H
  have Ny138 := Aside0.mk hy138
  clear hy138
  replace H := Option.bind_eq_some_iff.mp H
  obtain ⟨t141, A30, H⟩ := H
  replace H : (if t141 = true then ((spec_UvarGet.f k l0 a1).bind fun bt142 => ((spec_UvarGet.f k l0 bt142.2.1).bind fun bt145 => ((spec_UvarGet.f k l0 bt145.2.1).bind fun bt148 => ((spec_ZigGet.f k l0 bt148.2.1).bind fun bt151 => (if bt142.2.2 = true then (if bt145.2.2 = true then (if bt148.2.2 = true then (if bt151.2.2 = true then ((spec_l1In.f bt142.1 128 1024).bind fun t154 => (if t154 = true then (if (Int.tmod bt142.1 128) = 0 then ((spec_l1In.f bt145.1 1 bt142.1).bind fun t155 => (if t155 = true then (if bt145.1 = 0 then (none) else (if (Int.tmod bt142.1 bt145.1) = 0 then (if (Int.tmod (wrap64 (Int.tdiv bt142.1 bt145.1)) 32) = 0 then ((spec_l1In.f bt148.1 0 2000).bind fun t156 => (spec_DeltaRead.j0 k l0 bt151.2.1 y138 bt142.1 bt145.1 bt148.1 bt151.1 (!t156))) else (spec_DeltaRead.j0 k l0 bt151.2.1 y138 bt142.1 bt145.1 bt148.1 bt151.1 true)) else (spec_DeltaRead.j0 k l0 bt151.2.1 y138 bt142.1 bt145.1 bt148.1 bt151.1 true))) else (spec_DeltaRead.j0 k l0 bt151.2.1 y138 bt142.1 bt145.1 bt148.1 bt151.1 true))) else (spec_DeltaRead.j0 k l0 bt151.2.1 y138 bt142.1 bt145.1 bt148.1 bt151.1 true)) else (spec_DeltaRead.j0 k l0 bt151.2.1 y138 bt142.1 bt145.1 bt148.1 bt151.1 true))) else (spec_DeltaRead.j0 k l0 bt151.2.1 y138 bt142.1 bt145.1 bt148.1 bt151.1 true)) else (spec_DeltaRead.j0 k l0 bt151.2.1 y138 bt142.1 bt145.1 bt148.1 bt151.1 true)) else (spec_DeltaRead.j0 k l0 bt151.2.1 y138 bt142.1 bt145.1 bt148.1 bt151.1 true)) else (spec_DeltaRead.j0 k l0 bt151.2.1 y138 bt142.1 bt145.1 bt148.1 bt151.1 true)))))) else (some (y138, 0, false))) = some (r1, r2, r3) := H
  have A3 := Aside0.mk A30
  clear A30
  by_cases c4 : t141 = true
  · subst c4
    have H1 : ((spec_UvarGet.f k l0 a1).bind fun bt142 => ((spec_UvarGet.f k l0 bt142.2.1).bind fun bt145 => ((spec_UvarGet.f k l0 bt145.2.1).bind fun bt148 => ((spec_ZigGet.f k l0 bt148.2.1).bind fun bt151 => (if bt142.2.2 = true then (if bt145.2.2 = true then (if bt148.2.2 = true then (if bt151.2.2 = true then ((spec_l1In.f bt142.1 128 1024).bind fun t154 => (if t154 = true then (if (Int.tmod bt142.1 128) = 0 then ((spec_l1In.f bt145.1 1 bt142.1).bind fun t155 => (if t155 = true then (if bt145.1 = 0 then (none) else (if (Int.tmod bt142.1 bt145.1) = 0 then (if (Int.tmod (wrap64 (Int.tdiv bt142.1 bt145.1)) 32) = 0 then ((spec_l1In.f bt148.1 0 2000).bind fun t156 => (spec_DeltaRead.j0 k l0 bt151.2.1 y138 bt142.1 bt145.1 bt148.1 bt151.1 (!t156))) else (spec_DeltaRead.j0 k l0 bt151.2.1 y138 bt142.1 bt145.1 bt148.1 bt151.1 true)) else (spec_DeltaRead.j0 k l0 bt151.2.1 y138 bt142.1 bt145.1 bt148.1 bt151.1 true))) else (spec_DeltaRead.j0 k l0 bt151.2.1 y138 bt142.1 bt145.1 bt148.1 bt151.1 true))) else (spec_DeltaRead.j0 k l0 bt151.2.1 y138 bt142.1 bt145.1 bt148.1 bt151.1 true)) else (spec_DeltaRead.j0 k l0 bt151.2.1 y138 bt142.1 bt145.1 bt148.1 bt151.1 true))) else (spec_DeltaRead.j0 k l0 bt151.2.1 y138 bt142.1 bt145.1 bt148.1 bt151.1 true)) else (spec_DeltaRead.j0 k l0 bt151.2.1 y138 bt142.1 bt145.1 bt148.1 bt151.1 true)) else (spec_DeltaRead.j0 k l0 bt151.2.1 y138 bt142.1 bt145.1 bt148.1 bt151.1 true)) else (spec_DeltaRead.j0 k l0 bt151.2.1 y138 bt142.1 bt145.1 bt148.1 bt151.1 true)))))) = some (r1, r2, r3) := by rw [if_pos rfl] at H; exact H
    clear H
    have H := H1
    clear H1
    replace H := Option.bind_eq_some_iff.mp H
    obtain ⟨⟨t142, t143, t144⟩, A50, H⟩ := H
    replace H : ((spec_UvarGet.f k l0 t143).bind fun bt145 => ((spec_UvarGet.f k l0 bt145.2.1).bind fun bt148 => ((spec_ZigGet.f k l0 bt148.2.1).bind fun bt151 => (if t144 = true then (if bt145.2.2 = true then (if bt148.2.2 = true then (if bt151.2.2 = true then ((spec_l1In.f t142 128 1024).bind fun t154 => (if t154 = true then (if (Int.tmod t142 128) = 0 then ((spec_l1In.f bt145.1 1 t142).bind fun t155 => (if t155 = true then (if bt145.1 = 0 then (none) else (if (Int.tmod t142 bt145.1) = 0 then (if (Int.tmod (wrap64 (Int.tdiv t142 bt145.1)) 32) = 0 then ((spec_l1In.f bt148.1 0 2000).bind fun t156 => (spec_DeltaRead.j0 k l0 bt151.2.1 y138 t142 bt145.1 bt148.1 bt151.1 (!t156))) else (spec_DeltaRead.j0 k l0 bt151.2.1 y138 t142 bt145.1 bt148.1 bt151.1 true)) else (spec_DeltaRead.j0 k l0 bt151.2.1 y138 t142 bt145.1 bt148.1 bt151.1 true))) else (spec_DeltaRead.j0 k l0 bt151.2.1 y138 t142 bt145.1 bt148.1 bt151.1 true))) else (spec_DeltaRead.j0 k l0 bt151.2.1 y138 t142 bt145.1 bt148.1 bt151.1 true)) else (spec_DeltaRead.j0 k l0 bt151.2.1 y138 t142 bt145.1 bt148.1 bt151.1 true))) else (spec_DeltaRead.j0 k l0 bt151.2.1 y138 t142 bt145.1 bt148.1 bt151.1 true)) else (spec_DeltaRead.j0 k l0 bt151.2.1 y138 t142 bt145.1 bt148.1 bt151.1 true)) else (spec_DeltaRead.j0 k l0 bt151.2.1 y138 t142 bt145.1 bt148.1 bt151.1 true)) else (spec_DeltaRead.j0 k l0 bt151.2.1 y138 t142 bt145.1 bt148.1 bt151.1 true))))) = some (r1, r2, r3) := H
    have A5 := Aside0.mk A50
    clear A50
    replace H := Option.bind_eq_some_iff.mp H
    obtain ⟨⟨t145, t146, t147⟩, A60, H⟩ := H
    replace H : ((spec_UvarGet.f k l0 t146).bind fun bt148 => ((spec_ZigGet.f k l0 bt148.2.1).bind fun bt151 => (if t144 = true then (if t147 = true then (if bt148.2.2 = true then (if bt151.2.2 = true then ((spec_l1In.f t142 128 1024).bind fun t154 => (if t154 = true then (if (Int.tmod t142 128) = 0 then ((spec_l1In.f t145 1 t142).bind fun t155 => (if t155 = true then (if t145 = 0 then (none) else (if (Int.tmod t142 t145) = 0 then (if (Int.tmod (wrap64 (Int.tdiv t142 t145)) 32) = 0 then ((spec_l1In.f bt148.1 0 2000).bind fun t156 => (spec_DeltaRead.j0 k l0 bt151.2.1 y138 t142 t145 bt148.1 bt151.1 (!t156))) else (spec_DeltaRead.j0 k l0 bt151.2.1 y138 t142 t145 bt148.1 bt151.1 true)) else (spec_DeltaRead.j0 k l0 bt151.2.1 y138 t142 t145 bt148.1 bt151.1 true))) else (spec_DeltaRead.j0 k l0 bt151.2.1 y138 t142 t145 bt148.1 bt151.1 true))) else (spec_DeltaRead.j0 k l0 bt151.2.1 y138 t142 t145 bt148.1 bt151.1 true)) else (spec_DeltaRead.j0 k l0 bt151.2.1 y138 t142 t145 bt148.1 bt151.1 true))) else (spec_DeltaRead.j0 k l0 bt151.2.1 y138 t142 t145 bt148.1 bt151.1 true)) else (spec_DeltaRead.j0 k l0 bt151.2.1 y138 t142 t145 bt148.1 bt151.1 true)) else (spec_DeltaRead.j0 k l0 bt151.2.1 y138 t142 t145 bt148.1 bt151.1 true)) else (spec_DeltaRead.j0 k l0 bt151.2.1 y138 t142 t145 bt148.1 bt151.1 true)))) = some (r1, r2, r3) := H
    have A6 := Aside0.mk A60
    clear A60
    replace H := Option.bind_eq_some_iff.mp H
    obtain ⟨⟨t148, t149, t150⟩, A70, H⟩ := H
    replace H : ((spec_ZigGet.f k l0 t149).bind fun bt151 => (if t144 = true then (if t147 = true then (if t150 = true then (if bt151.2.2 = true then ((spec_l1In.f t142 128 1024).bind fun t154 => (if t154 = true then (if (Int.tmod t142 128) = 0 then ((spec_l1In.f t145 1 t142).bind fun t155 => (if t155 = true then (if t145 = 0 then (none) else (if (Int.tmod t142 t145) = 0 then (if (Int.tmod (wrap64 (Int.tdiv t142 t145)) 32) = 0 then ((spec_l1In.f t148 0 2000).bind fun t156 => (spec_DeltaRead.j0 k l0 bt151.2.1 y138 t142 t145 t148 bt151.1 (!t156))) else (spec_DeltaRead.j0 k l0 bt151.2.1 y138 t142 t145 t148 bt151.1 true)) else (spec_DeltaRead.j0 k l0 bt151.2.1 y138 t142 t145 t148 bt151.1 true))) else (spec_DeltaRead.j0 k l0 bt151.2.1 y138 t142 t145 t148 bt151.1 true))) else (spec_DeltaRead.j0 k l0 bt151.2.1 y138 t142 t145 t148 bt151.1 true)) else (spec_DeltaRead.j0 k l0 bt151.2.1 y138 t142 t145 t148 bt151.1 true))) else (spec_DeltaRead.j0 k l0 bt151.2.1 y138 t142 t145 t148 bt151.1 true)) else (spec_DeltaRead.j0 k l0 bt151.2.1 y138 t142 t145 t148 bt151.1 true)) else (spec_DeltaRead.j0 k l0 bt151.2.1 y138 t142 t145 t148 bt151.1 true)) else (spec_DeltaRead.j0 k l0 bt151.2.1 y138 t142 t145 t148 bt151.1 true))) = some (r1, r2, r3) := H
    have A7 := Aside0.mk A70
    clear A70
    replace H := Option.bind_eq_some_iff.mp H
    obtain ⟨⟨t151, t152, t153⟩, A80, H⟩ := H
    replace H : (if t144 = true then (if t147 = true then (if t150 = true then (if t153 = true then ((spec_l1In.f t142 128 1024).bind fun t154 => (if t154 = true then (if (Int.tmod t142 128) = 0 then ((spec_l1In.f t145 1 t142).bind fun t155 => (if t155 = true then (if t145 = 0 then (none) else (if (Int.tmod t142 t145) = 0 then (if (Int.tmod (wrap64 (Int.tdiv t142 t145)) 32) = 0 then ((spec_l1In.f t148 0 2000).bind fun t156 => (spec_DeltaRead.j0 k l0 t152 y138 t142 t145 t148 t151 (!t156))) else (spec_DeltaRead.j0 k l0 t152 y138 t142 t145 t148 t151 true)) else (spec_DeltaRead.j0 k l0 t152 y138 t142 t145 t148 t151 true))) else (spec_DeltaRead.j0 k l0 t152 y138 t142 t145 t148 t151 true))) else (spec_DeltaRead.j0 k l0 t152 y138 t142 t145 t148 t151 true)) else (spec_DeltaRead.j0 k l0 t152 y138 t142 t145 t148 t151 true))) else (spec_DeltaRead.j0 k l0 t152 y138 t142 t145 t148 t151 true)) else (spec_DeltaRead.j0 k l0 t152 y138 t142 t145 t148 t151 true)) else (spec_DeltaRead.j0 k l0 t152 y138 t142 t145 t148 t151 true)) else (spec_DeltaRead.j0 k l0 t152 y138 t142 t145 t148 t151 true)) = some (r1, r2, r3) := H
    have A8 := Aside0.mk A80
    clear A80
    have HC9 := Aside0.mk H
    clear H
    go_enter Try.func15, Try.ntmps15
    go_upto_region 8 with (first | ((with_reducible refine gate_dst (N := 25) rfl ?_); (try (refine gate_guard (by rfl) ?_; dsimp only)); refine Kd.R_lit (Kd.int .i64) _ 3 ?hg (N := 25) ?hd (xs := ([] : List Int)) (inner := []) (ok := fun _ => True) (okp := fun _ => True) ?hr ?hp (fun _ hk => hk) trivial (Below.refl _ _) (Nat.le_refl _) (by simp) ?_; (case hd => rfl); (case hg => rfl); (case hr => first | (go_simp; done) | (go_simp; rfl)); (case hp => exact (Reps.none _ _)); intro v139 w10 ho11 hb hg_ hnew_; clear hg_ hnew_; (first | rw [← Ny138.out] at ho11 | (simp only [Int.reduceToNat] at ho11; rw [← Ny138.out] at ho11)); have n0_ := Aside0.mk (Kd.R_lower ho11 (below_size (below_later HB.out))); have n1_ := Aside0.mk (below_step (below_later HB.out) hb); clear HB; have HO140 := n0_; have HB := n1_; clear n0_ n1_; clear hb ho11) | ((with_reducible refine gate_callee (f := 44) rfl ?_); refine goesL_ (some 29) rfl rfl Try.func44 (by kernel_rfl) rfl #[.int .i64 a1, .int .i64 0, .int .i64 (l0.length : Int)] rfl (by (try simp only [List.map_toArray, List.map_cons, List.map_nil]); first | done | rfl | (simp only [List.length_drop, List.length_take]; rfl)) ?_; (with_reducible refine (spec_l1In.calls a1 0 (l0.length : Int) true _ A3.out).mono ?_); rintro e w' ⟨rfl, ⟨nd, rfl⟩⟩; refine ⟨_, rfl, ?_⟩) | ((with_reducible refine gate_callee (f := 45) rfl ?_); refine goesL_ (some 35) rfl rfl Try.func45 (by kernel_rfl) rfl #[.slice A0 l0.length c0, .int .i64 a1] rfl (by (try simp only [List.map_toArray, List.map_cons, List.map_nil]); first | done | rfl | (simp only [List.length_drop, List.length_take]; rfl)) ?_; (with_reducible refine (spec_UvarGet.calls k _ _ l0 a1 t142 t143 t144 _ ?side1 ?side2 A5.out).mono ?_); (case side1 => repeat (first | exact (Kd.C_below HR0.out (below_later HB.out)) | (with_reducible refine Kd.C_alloc ?_ _) | (with_reducible refine Kd.C_drewN ?_ _) | (with_reducible refine Kd.C_drew ?_))); (case side2 => exact HC0.out); rintro e w' ⟨rfl, ⟨nd, rfl⟩⟩; refine ⟨_, rfl, ?_⟩) | ((with_reducible refine gate_callee (f := 45) rfl ?_); refine goesL_ (some 42) rfl rfl Try.func45 (by kernel_rfl) rfl #[.slice A0 l0.length c0, .int .i64 t143] rfl (by (try simp only [List.map_toArray, List.map_cons, List.map_nil]); first | done | rfl | (simp only [List.length_drop, List.length_take]; rfl)) ?_; (with_reducible refine (spec_UvarGet.calls k _ _ l0 t143 t145 t146 t147 _ ?side1 ?side2 A6.out).mono ?_); (case side1 => repeat (first | exact (Kd.C_below HR0.out (below_later HB.out)) | (with_reducible refine Kd.C_alloc ?_ _) | (with_reducible refine Kd.C_drewN ?_ _) | (with_reducible refine Kd.C_drew ?_))); (case side2 => exact HC0.out); rintro e w' ⟨rfl, ⟨nd, rfl⟩⟩; refine ⟨_, rfl, ?_⟩) | ((with_reducible refine gate_callee (f := 45) rfl ?_); refine goesL_ (some 49) rfl rfl Try.func45 (by kernel_rfl) rfl #[.slice A0 l0.length c0, .int .i64 t146] rfl (by (try simp only [List.map_toArray, List.map_cons, List.map_nil]); first | done | rfl | (simp only [List.length_drop, List.length_take]; rfl)) ?_; (with_reducible refine (spec_UvarGet.calls k _ _ l0 t146 t148 t149 t150 _ ?side1 ?side2 A7.out).mono ?_); (case side1 => repeat (first | exact (Kd.C_below HR0.out (below_later HB.out)) | (with_reducible refine Kd.C_alloc ?_ _) | (with_reducible refine Kd.C_drewN ?_ _) | (with_reducible refine Kd.C_drew ?_))); (case side2 => exact HC0.out); rintro e w' ⟨rfl, ⟨nd, rfl⟩⟩; refine ⟨_, rfl, ?_⟩) | ((with_reducible refine gate_callee (f := 46) rfl ?_); refine goesL_ (some 56) rfl rfl Try.func46 (by kernel_rfl) rfl #[.slice A0 l0.length c0, .int .i64 t149] rfl (by (try simp only [List.map_toArray, List.map_cons, List.map_nil]); first | done | rfl | (simp only [List.length_drop, List.length_take]; rfl)) ?_; (with_reducible refine (spec_ZigGet.calls k _ _ l0 t149 t151 t152 t153 _ ?side1 ?side2 A8.out).mono ?_); (case side1 => repeat (first | exact (Kd.C_below HR0.out (below_later HB.out)) | (with_reducible refine Kd.C_alloc ?_ _) | (with_reducible refine Kd.C_drewN ?_ _) | (with_reducible refine Kd.C_drew ?_))); (case side2 => exact HC0.out); rintro e w' ⟨rfl, ⟨nd, rfl⟩⟩; refine ⟨_, rfl, ?_⟩))
    (try simp only [Act.put, List.setIfInBounds_toArray, List.set_cons_zero, List.set_cons_succ])
    go_cut [107] (fun v107 wc => ∃ (kq : Nat) (x107_8 : Bool), v107 = .bool x107_8 ∧ Aside0 (spec_DeltaRead.j0 kq l0 t152 y138 t142 t145 t148 t151 x107_8 = some (r1, r2, r3)) ∧ Aside0 (kq ≤ k) ∧ Aside0 (Kd.R (Kd.int .i64) 3 wc w.heap.size (fun _ => True) v139 y138) ∧ Aside0 (Below w.heap.size w wc))
    case first => as_aux_lemma =>
      have H := HC9.out
      clear HC9
      by_cases c12 : t144 = true
      · subst c12
        have H1 : (if t147 = true then (if t150 = true then (if t153 = true then ((spec_l1In.f t142 128 1024).bind fun t154 => (if t154 = true then (if (Int.tmod t142 128) = 0 then ((spec_l1In.f t145 1 t142).bind fun t155 => (if t155 = true then (if t145 = 0 then (none) else (if (Int.tmod t142 t145) = 0 then (if (Int.tmod (wrap64 (Int.tdiv t142 t145)) 32) = 0 then ((spec_l1In.f t148 0 2000).bind fun t156 => (spec_DeltaRead.j0 k l0 t152 y138 t142 t145 t148 t151 (!t156))) else (spec_DeltaRead.j0 k l0 t152 y138 t142 t145 t148 t151 true)) else (spec_DeltaRead.j0 k l0 t152 y138 t142 t145 t148 t151 true))) else (spec_DeltaRead.j0 k l0 t152 y138 t142 t145 t148 t151 true))) else (spec_DeltaRead.j0 k l0 t152 y138 t142 t145 t148 t151 true)) else (spec_DeltaRead.j0 k l0 t152 y138 t142 t145 t148 t151 true))) else (spec_DeltaRead.j0 k l0 t152 y138 t142 t145 t148 t151 true)) else (spec_DeltaRead.j0 k l0 t152 y138 t142 t145 t148 t151 true)) else (spec_DeltaRead.j0 k l0 t152 y138 t142 t145 t148 t151 true)) = some (r1, r2, r3) := by rw [if_pos rfl] at H; exact H
        clear H
        have H := H1
        clear H1
        by_cases c13 : t147 = true
        · subst c13
          have H1 : (if t150 = true then (if t153 = true then ((spec_l1In.f t142 128 1024).bind fun t154 => (if t154 = true then (if (Int.tmod t142 128) = 0 then ((spec_l1In.f t145 1 t142).bind fun t155 => (if t155 = true then (if t145 = 0 then (none) else (if (Int.tmod t142 t145) = 0 then (if (Int.tmod (wrap64 (Int.tdiv t142 t145)) 32) = 0 then ((spec_l1In.f t148 0 2000).bind fun t156 => (spec_DeltaRead.j0 k l0 t152 y138 t142 t145 t148 t151 (!t156))) else (spec_DeltaRead.j0 k l0 t152 y138 t142 t145 t148 t151 true)) else (spec_DeltaRead.j0 k l0 t152 y138 t142 t145 t148 t151 true))) else (spec_DeltaRead.j0 k l0 t152 y138 t142 t145 t148 t151 true))) else (spec_DeltaRead.j0 k l0 t152 y138 t142 t145 t148 t151 true)) else (spec_DeltaRead.j0 k l0 t152 y138 t142 t145 t148 t151 true))) else (spec_DeltaRead.j0 k l0 t152 y138 t142 t145 t148 t151 true)) else (spec_DeltaRead.j0 k l0 t152 y138 t142 t145 t148 t151 true)) = some (r1, r2, r3) := by rw [if_pos rfl] at H; exact H
          clear H
          have H := H1
          clear H1
          by_cases c14 : t150 = true
          · subst c14
            have H1 : (if t153 = true then ((spec_l1In.f t142 128 1024).bind fun t154 => (if t154 = true then (if (Int.tmod t142 128) = 0 then ((spec_l1In.f t145 1 t142).bind fun t155 => (if t155 = true then (if t145 = 0 then (none) else (if (Int.tmod t142 t145) = 0 then (if (Int.tmod (wrap64 (Int.tdiv t142 t145)) 32) = 0 then ((spec_l1In.f t148 0 2000).bind fun t156 => (spec_DeltaRead.j0 k l0 t152 y138 t142 t145 t148 t151 (!t156))) else (spec_DeltaRead.j0 k l0 t152 y138 t142 t145 t148 t151 true)) else (spec_DeltaRead.j0 k l0 t152 y138 t142 t145 t148 t151 true))) else (spec_DeltaRead.j0 k l0 t152 y138 t142 t145 t148 t151 true))) else (spec_DeltaRead.j0 k l0 t152 y138 t142 t145 t148 t151 true)) else (spec_DeltaRead.j0 k l0 t152 y138 t142 t145 t148 t151 true))) else (spec_DeltaRead.j0 k l0 t152 y138 t142 t145 t148 t151 true)) = some (r1, r2, r3) := by rw [if_pos rfl] at H; exact H
            clear H
            have H := H1
            clear H1
            by_cases c15 : t153 = true
            · subst c15
              have H1 : ((spec_l1In.f t142 128 1024).bind fun t154 => (if t154 = true then (if (Int.tmod t142 128) = 0 then ((spec_l1In.f t145 1 t142).bind fun t155 => (if t155 = true then (if t145 = 0 then (none) else (if (Int.tmod t142 t145) = 0 then (if (Int.tmod (wrap64 (Int.tdiv t142 t145)) 32) = 0 then ((spec_l1In.f t148 0 2000).bind fun t156 => (spec_DeltaRead.j0 k l0 t152 y138 t142 t145 t148 t151 (!t156))) else (spec_DeltaRead.j0 k l0 t152 y138 t142 t145 t148 t151 true)) else (spec_DeltaRead.j0 k l0 t152 y138 t142 t145 t148 t151 true))) else (spec_DeltaRead.j0 k l0 t152 y138 t142 t145 t148 t151 true))) else (spec_DeltaRead.j0 k l0 t152 y138 t142 t145 t148 t151 true)) else (spec_DeltaRead.j0 k l0 t152 y138 t142 t145 t148 t151 true))) = some (r1, r2, r3) := by rw [if_pos rfl] at H; exact H
              clear H
              have H := H1
              clear H1
              replace H := Option.bind_eq_some_iff.mp H
              obtain ⟨t154, A160, H⟩ := H
              replace H : (if t154 = true then (if (Int.tmod t142 128) = 0 then ((spec_l1In.f t145 1 t142).bind fun t155 => (if t155 = true then (if t145 = 0 then (none) else (if (Int.tmod t142 t145) = 0 then (if (Int.tmod (wrap64 (Int.tdiv t142 t145)) 32) = 0 then ((spec_l1In.f t148 0 2000).bind fun t156 => (spec_DeltaRead.j0 k l0 t152 y138 t142 t145 t148 t151 (!t156))) else (spec_DeltaRead.j0 k l0 t152 y138 t142 t145 t148 t151 true)) else (spec_DeltaRead.j0 k l0 t152 y138 t142 t145 t148 t151 true))) else (spec_DeltaRead.j0 k l0 t152 y138 t142 t145 t148 t151 true))) else (spec_DeltaRead.j0 k l0 t152 y138 t142 t145 t148 t151 true)) else (spec_DeltaRead.j0 k l0 t152 y138 t142 t145 t148 t151 true)) = some (r1, r2, r3) := H
              have A16 := Aside0.mk A160
              clear A160
              by_cases c17 : t154 = true
              · subst c17
                have H1 : (if (Int.tmod t142 128) = 0 then ((spec_l1In.f t145 1 t142).bind fun t155 => (if t155 = true then (if t145 = 0 then (none) else (if (Int.tmod t142 t145) = 0 then (if (Int.tmod (wrap64 (Int.tdiv t142 t145)) 32) = 0 then ((spec_l1In.f t148 0 2000).bind fun t156 => (spec_DeltaRead.j0 k l0 t152 y138 t142 t145 t148 t151 (!t156))) else (spec_DeltaRead.j0 k l0 t152 y138 t142 t145 t148 t151 true)) else (spec_DeltaRead.j0 k l0 t152 y138 t142 t145 t148 t151 true))) else (spec_DeltaRead.j0 k l0 t152 y138 t142 t145 t148 t151 true))) else (spec_DeltaRead.j0 k l0 t152 y138 t142 t145 t148 t151 true)) = some (r1, r2, r3) := by rw [if_pos rfl] at H; exact H
                clear H
                have H := H1
                clear H1
                by_cases c18 : (Int.tmod t142 128) = 0
                · rw [if_pos c18] at H
                  have c18b0 : ((Int.tmod t142 128) == 0) = true := beq_iff_eq.mpr c18
                  have c18b1 : ((Int.tmod t142 128) != 0) = false := bne_eq_false_iff_eq.mpr c18
                  clear c18
                  (first | rw [c18b0] | rw [c18b1] | (simp only [i64_w, i32_w]; rw [c18b0]) | skip)
                  replace H := Option.bind_eq_some_iff.mp H
                  obtain ⟨t155, A190, H⟩ := H
                  replace H : (if t155 = true then (if t145 = 0 then (none) else (if (Int.tmod t142 t145) = 0 then (if (Int.tmod (wrap64 (Int.tdiv t142 t145)) 32) = 0 then ((spec_l1In.f t148 0 2000).bind fun t156 => (spec_DeltaRead.j0 k l0 t152 y138 t142 t145 t148 t151 (!t156))) else (spec_DeltaRead.j0 k l0 t152 y138 t142 t145 t148 t151 true)) else (spec_DeltaRead.j0 k l0 t152 y138 t142 t145 t148 t151 true))) else (spec_DeltaRead.j0 k l0 t152 y138 t142 t145 t148 t151 true)) = some (r1, r2, r3) := H
                  have A19 := Aside0.mk A190
                  clear A190
                  by_cases c20 : t155 = true
                  · subst c20
                    have H1 : (if t145 = 0 then (none) else (if (Int.tmod t142 t145) = 0 then (if (Int.tmod (wrap64 (Int.tdiv t142 t145)) 32) = 0 then ((spec_l1In.f t148 0 2000).bind fun t156 => (spec_DeltaRead.j0 k l0 t152 y138 t142 t145 t148 t151 (!t156))) else (spec_DeltaRead.j0 k l0 t152 y138 t142 t145 t148 t151 true)) else (spec_DeltaRead.j0 k l0 t152 y138 t142 t145 t148 t151 true))) = some (r1, r2, r3) := by rw [if_pos rfl] at H; exact H
                    clear H
                    have H := H1
                    clear H1
                    by_cases c21 : t145 = 0
                    · rw [if_pos c21] at H
                      exact absurd H (by simp)
                    · rw [if_neg c21] at H
                      have c21b0 : (t145 == 0) = false := beq_eq_false_iff_ne.mpr c21
                      have c21b1 : (t145 != 0) = true := bne_iff_ne.mpr c21
                      by_cases c22 : (Int.tmod t142 t145) = 0
                      · rw [if_pos c22] at H
                        have c22b0 : ((Int.tmod t142 t145) == 0) = true := beq_iff_eq.mpr c22
                        have c22b1 : ((Int.tmod t142 t145) != 0) = false := bne_eq_false_iff_eq.mpr c22
                        clear c22
                        by_cases c23 : (Int.tmod (wrap64 (Int.tdiv t142 t145)) 32) = 0
                        · rw [if_pos c23] at H
                          have c23b0 : ((Int.tmod (wrap64 (Int.tdiv t142 t145)) 32) == 0) = true := beq_iff_eq.mpr c23
                          have c23b1 : ((Int.tmod (wrap64 (Int.tdiv t142 t145)) 32) != 0) = false := bne_eq_false_iff_eq.mpr c23
                          clear c23
                          replace H := Option.bind_eq_some_iff.mp H
                          obtain ⟨t156, A240, H⟩ := H
                          replace H : (spec_DeltaRead.j0 k l0 t152 y138 t142 t145 t148 t151 (!t156)) = some (r1, r2, r3) := H
                          have A24 := Aside0.mk A240
                          clear A240
                          have H' := Aside0.mk H
                          clear H
                          go_wp2_with (first | (go_at_call 44; (with_reducible refine (spec_l1In.calls t142 128 1024 true _ A16.out).mono ?_); rintro e w' ⟨rfl, ⟨nd, rfl⟩⟩) | (go_at_call 44; (with_reducible refine (spec_l1In.calls t145 1 t142 true _ A19.out).mono ?_); rintro e w' ⟨rfl, ⟨nd, rfl⟩⟩) | (go_at_call 44; (with_reducible refine (spec_l1In.calls t148 0 2000 t156 _ A24.out).mono ?_); rintro e w' ⟨rfl, ⟨nd, rfl⟩⟩))
                          go_meet
                          case rel => exact ⟨_, (!t156), (by first | rfl | (simp; done) | (simp [*]; done)), H', ⟨by first | omega | exact Nat.le_refl _⟩, ⟨by (with_reducible repeat (first | apply Kd.R_alloc | apply Kd.R_drewN | apply Kd.R_drew)); exact HO140.out⟩, ⟨below_later HB.out⟩⟩
                        · rw [if_neg c23] at H
                          have c23b0 : ((Int.tmod (wrap64 (Int.tdiv t142 t145)) 32) == 0) = false := beq_eq_false_iff_ne.mpr c23
                          have c23b1 : ((Int.tmod (wrap64 (Int.tdiv t142 t145)) 32) != 0) = true := bne_iff_ne.mpr c23
                          have H' := Aside0.mk H
                          clear H
                          go_wp2_with (first | (go_at_call 44; (with_reducible refine (spec_l1In.calls t142 128 1024 true _ A16.out).mono ?_); rintro e w' ⟨rfl, ⟨nd, rfl⟩⟩) | (go_at_call 44; (with_reducible refine (spec_l1In.calls t145 1 t142 true _ A19.out).mono ?_); rintro e w' ⟨rfl, ⟨nd, rfl⟩⟩))
                          go_meet
                          case rel => exact ⟨_, (true), (by first | rfl | (simp; done) | (simp [*]; done)), H', ⟨by first | omega | exact Nat.le_refl _⟩, ⟨by (with_reducible repeat (first | apply Kd.R_alloc | apply Kd.R_drewN | apply Kd.R_drew)); exact HO140.out⟩, ⟨below_later HB.out⟩⟩
                      · rw [if_neg c22] at H
                        have c22b0 : ((Int.tmod t142 t145) == 0) = false := beq_eq_false_iff_ne.mpr c22
                        have c22b1 : ((Int.tmod t142 t145) != 0) = true := bne_iff_ne.mpr c22
                        have H' := Aside0.mk H
                        clear H
                        go_wp2_with (first | (go_at_call 44; (with_reducible refine (spec_l1In.calls t142 128 1024 true _ A16.out).mono ?_); rintro e w' ⟨rfl, ⟨nd, rfl⟩⟩) | (go_at_call 44; (with_reducible refine (spec_l1In.calls t145 1 t142 true _ A19.out).mono ?_); rintro e w' ⟨rfl, ⟨nd, rfl⟩⟩))
                        go_meet
                        case rel => exact ⟨_, (true), (by first | rfl | (simp; done) | (simp [*]; done)), H', ⟨by first | omega | exact Nat.le_refl _⟩, ⟨by (with_reducible repeat (first | apply Kd.R_alloc | apply Kd.R_drewN | apply Kd.R_drew)); exact HO140.out⟩, ⟨below_later HB.out⟩⟩
                  · replace c20 := Bool.eq_false_iff.mpr c20
                    subst c20
                    have H1 : (spec_DeltaRead.j0 k l0 t152 y138 t142 t145 t148 t151 true) = some (r1, r2, r3) := by rw [if_neg (show ¬ (false = true) by decide)] at H; exact H
                    clear H
                    have H := H1
                    clear H1
                    have H' := Aside0.mk H
                    clear H
                    go_wp2_with (first | (go_at_call 44; (with_reducible refine (spec_l1In.calls t142 128 1024 true _ A16.out).mono ?_); rintro e w' ⟨rfl, ⟨nd, rfl⟩⟩) | (go_at_call 44; (with_reducible refine (spec_l1In.calls t145 1 t142 false _ A19.out).mono ?_); rintro e w' ⟨rfl, ⟨nd, rfl⟩⟩))
                    go_meet
                    case rel => exact ⟨_, (true), (by first | rfl | (simp; done) | (simp [*]; done)), H', ⟨by first | omega | exact Nat.le_refl _⟩, ⟨by (with_reducible repeat (first | apply Kd.R_alloc | apply Kd.R_drewN | apply Kd.R_drew)); exact HO140.out⟩, ⟨below_later HB.out⟩⟩
                · rw [if_neg c18] at H
                  have c18b0 : ((Int.tmod t142 128) == 0) = false := beq_eq_false_iff_ne.mpr c18
                  have c18b1 : ((Int.tmod t142 128) != 0) = true := bne_iff_ne.mpr c18
                  (first | rw [c18b0] | rw [c18b1] | (simp only [i64_w, i32_w]; rw [c18b0]) | skip)
                  have H' := Aside0.mk H
                  clear H
                  go_wp2_with (first | (go_at_call 44; (with_reducible refine (spec_l1In.calls t142 128 1024 true _ A16.out).mono ?_); rintro e w' ⟨rfl, ⟨nd, rfl⟩⟩))
                  go_meet
                  case rel => exact ⟨_, (true), (by first | rfl | (simp; done) | (simp [*]; done)), H', ⟨by first | omega | exact Nat.le_refl _⟩, ⟨by (with_reducible repeat (first | apply Kd.R_alloc | apply Kd.R_drewN | apply Kd.R_drew)); exact HO140.out⟩, ⟨below_later HB.out⟩⟩
              · replace c17 := Bool.eq_false_iff.mpr c17
                subst c17
                have H1 : (spec_DeltaRead.j0 k l0 t152 y138 t142 t145 t148 t151 true) = some (r1, r2, r3) := by rw [if_neg (show ¬ (false = true) by decide)] at H; exact H
                clear H
                have H := H1
                clear H1
                have H' := Aside0.mk H
                clear H
                go_wp2_with (first | (go_at_call 44; (with_reducible refine (spec_l1In.calls t142 128 1024 false _ A16.out).mono ?_); rintro e w' ⟨rfl, ⟨nd, rfl⟩⟩))
                go_meet
                case rel => exact ⟨_, (true), (by first | rfl | (simp; done) | (simp [*]; done)), H', ⟨by first | omega | exact Nat.le_refl _⟩, ⟨by (with_reducible repeat (first | apply Kd.R_alloc | apply Kd.R_drewN | apply Kd.R_drew)); exact HO140.out⟩, ⟨below_later HB.out⟩⟩
            · replace c15 := Bool.eq_false_iff.mpr c15
              subst c15
              have H1 : (spec_DeltaRead.j0 k l0 t152 y138 t142 t145 t148 t151 true) = some (r1, r2, r3) := by rw [if_neg (show ¬ (false = true) by decide)] at H; exact H
              clear H
              have H := H1
              clear H1
              have H' := Aside0.mk H
              clear H
              go_wp2
              go_meet
              case rel => exact ⟨_, (true), (by first | rfl | (simp; done) | (simp [*]; done)), H', ⟨by first | omega | exact Nat.le_refl _⟩, ⟨by (with_reducible repeat (first | apply Kd.R_alloc | apply Kd.R_drewN | apply Kd.R_drew)); exact HO140.out⟩, ⟨below_later HB.out⟩⟩
          · replace c14 := Bool.eq_false_iff.mpr c14
            subst c14
            have H1 : (spec_DeltaRead.j0 k l0 t152 y138 t142 t145 t148 t151 true) = some (r1, r2, r3) := by rw [if_neg (show ¬ (false = true) by decide)] at H; exact H
            clear H
            have H := H1
            clear H1
            have H' := Aside0.mk H
            clear H
            go_wp2
            go_meet
            case rel => exact ⟨_, (true), (by first | rfl | (simp; done) | (simp [*]; done)), H', ⟨by first | omega | exact Nat.le_refl _⟩, ⟨by (with_reducible repeat (first | apply Kd.R_alloc | apply Kd.R_drewN | apply Kd.R_drew)); exact HO140.out⟩, ⟨below_later HB.out⟩⟩
        · replace c13 := Bool.eq_false_iff.mpr c13
          subst c13
          have H1 : (spec_DeltaRead.j0 k l0 t152 y138 t142 t145 t148 t151 true) = some (r1, r2, r3) := by rw [if_neg (show ¬ (false = true) by decide)] at H; exact H
          clear H
          have H := H1
          clear H1
          have H' := Aside0.mk H
          clear H
          go_wp2
          go_meet
          case rel => exact ⟨_, (true), (by first | rfl | (simp; done) | (simp [*]; done)), H', ⟨by first | omega | exact Nat.le_refl _⟩, ⟨by (with_reducible repeat (first | apply Kd.R_alloc | apply Kd.R_drewN | apply Kd.R_drew)); exact HO140.out⟩, ⟨below_later HB.out⟩⟩
      · replace c12 := Bool.eq_false_iff.mpr c12
        subst c12
        have H1 : (spec_DeltaRead.j0 k l0 t152 y138 t142 t145 t148 t151 true) = some (r1, r2, r3) := by rw [if_neg (show ¬ (false = true) by decide)] at H; exact H
        clear H
        have H := H1
        clear H1
        have H' := Aside0.mk H
        clear H
        go_wp2
        go_meet
        case rel => exact ⟨_, (true), (by first | rfl | (simp; done) | (simp [*]; done)), H', ⟨by first | omega | exact Nat.le_refl _⟩, ⟨by (with_reducible repeat (first | apply Kd.R_alloc | apply Kd.R_drewN | apply Kd.R_drew)); exact HO140.out⟩, ⟨below_later HB.out⟩⟩
    case rest => as_aux_lemma =>
      clear HC9
      try clear c1
      try clear c2
      try clear p2
      try clear c4
      try clear p6
      try clear c12
      try clear c13
      try clear c14
      try clear c15
      try clear c17
      try clear c18
      try clear c18b0
      try clear c18b1
      try clear c20
      try clear c21
      try clear c21b0
      try clear c21b1
      try clear c22
      try clear c22b0
      try clear c22b1
      try clear c23
      try clear c23b0
      try clear c23b1
      obtain ⟨kq, x107_8, rfl, HA, HJ8, HO_7, HB⟩ := hcut
      cases kq with
      | zero => exact absurd HA.out (by simp [spec_DeltaRead.j0])
      | succ kj8 =>
        have H := HA.out
        clear HA
        simp only [spec_DeltaRead.j0] at H
        by_cases c25 : x107_8 = true
        · subst c25
          have H1 : (some (y138, 0, false)) = some (r1, r2, r3) := by rw [if_pos rfl] at H; exact H
          clear H
          have H := H1
          clear H1
          simp only [Option.some.injEq, Prod.mk.injEq] at H
          obtain ⟨rfl, rfl, rfl⟩ := H
          go_wp2
          go_ret3
          exact ⟨_, by first | rfl | (simp [errW_none, errW_some] <;> rfl) | (simp [*, errW_none, errW_some] <;> rfl), by (with_reducible repeat (first | apply Kd.R_alloc | apply Kd.R_drewN | apply Kd.R_drew)); exact HO_7.out, below_later HB.out⟩
        · replace c25 := Bool.eq_false_iff.mpr c25
          subst c25
          have H1 : ((some (([] : List Int) : List Int)).bind fun y157 => (if t148 > 0 then (if y157.length < 17592186044416 then (spec_DeltaRead.j1 kj8 l0 t152 y138 t142 t145 t148 (y157 ++ [t151])) else (none)) else (spec_DeltaRead.j1 kj8 l0 t152 y138 t142 t145 t148 y157))) = some (r1, r2, r3) := by rw [if_neg (show ¬ (false = true) by decide)] at H; exact H
          clear H
          have H := H1
          clear H1
          obtain ⟨y157, hy157⟩ : ∃ y_ : List Int, y_ = (([] : List Int)) := ⟨_, rfl⟩
          replace H : (if t148 > 0 then (if y157.length < 17592186044416 then (spec_DeltaRead.j1 kj8 l0 t152 y138 t142 t145 t148 (y157 ++ [t151])) else (none)) else (spec_DeltaRead.j1 kj8 l0 t152 y138 t142 t145 t148 y157)) = some (r1, r2, r3) := by first | (rw [hy157]; with_reducible exact H) | (have H2_ := (Option.bind_some _ _).symm.trans H; rw [hy157]; with_reducible exact H2_) | (have H2_ := (Option.bind_some _ _).symm.trans H; with_reducible exact H2_) | with_reducible exact H | (rw [hy157]; exact H) | exact H
          have Ny157 := Aside0.mk hy157
          clear hy157
          have HC26 := Aside0.mk H
          clear H
          go_upto_if 111 with (first | ((with_reducible refine gate_dst (N := 109) rfl ?_); (try (refine gate_guard (by rfl) ?_; dsimp only)); refine Kd.R_lit (Kd.int .i64) _ 3 ?hg (N := 109) ?hd (xs := ([] : List Int)) (inner := []) (ok := fun _ => True) (okp := fun _ => True) ?hr ?hp (fun _ hk => hk) trivial (Below.refl _ _) (Nat.le_refl _) (by simp) ?_; (case hd => rfl); (case hg => rfl); (case hr => first | (go_simp; done) | (go_simp; rfl)); (case hp => exact (Reps.none _ _)); intro v158 w27 ho28 hb hg_ hnew_; clear hg_ hnew_; (first | rw [← Ny157.out] at ho28 | (simp only [Int.reduceToNat] at ho28; rw [← Ny157.out] at ho28)); have n0_ := Aside0.mk (Kd.R_elder' (R_later HO_7.out) (Kd.R_base ho28) hb); have n1_ := Aside0.mk (Kd.R_lower (Kd.R_new' ho28 (Kd.R_lt (R_later HO_7.out))) (below_size (below_later HB.out))); have n2_ := Aside0.mk (below_step (below_later HB.out) hb); clear HO_7; clear HB; have HO_7 := n0_; have HO159 := n1_; have HB := n2_; clear n0_ n1_ n2_; clear hb ho28))
          (try simp only [Act.put, List.setIfInBounds_toArray, List.set_cons_zero, List.set_cons_succ])
          go_cut [16] (fun v16 wc => ∃ (kq : Nat) (x16_25 : List Int), Aside0 (spec_DeltaRead.j1 kq l0 t152 y138 t142 t145 t148 x16_25 = some (r1, r2, r3)) ∧ Aside0 (kq ≤ kj8) ∧ Aside0 (Kd.R (Kd.int .i64) 3 wc w.heap.size (fun k_ => some k_ ≠ (v16 : Value).ownBlock) v139 y138) ∧ Aside0 (Kd.R (Kd.int .i64) 3 wc w.heap.size (fun k_ => some k_ ≠ (v139 : Value).ownBlock) v16 x16_25) ∧ Aside0 (Below w.heap.size w wc))
          case first =>
            have H := HC26.out
            clear HC26
            by_cases c29 : t148 > 0
            · rw [if_pos c29] at H
              have c29b0 : decide (0 < t148) = true := decide_eq_true c29
              clear c29
              (first | rw [c29b0] | (simp only [i64_w, i32_w]; rw [c29b0]) | skip)
              by_cases c30 : y157.length < 17592186044416
              · rw [if_pos c30] at H
                have LMc30 := Aside0.mk c30
                clear c30
                obtain ⟨y160, hy160⟩ : ∃ y_ : List Int, y_ = (y157 ++ [t151]) := ⟨_, rfl⟩
                replace H : (spec_DeltaRead.j1 kj8 l0 t152 y138 t142 t145 t148 y160) = some (r1, r2, r3) := by first | (rw [hy160]; with_reducible exact H) | (have H2_ := (Option.bind_some _ _).symm.trans H; rw [hy160]; with_reducible exact H2_) | (have H2_ := (Option.bind_some _ _).symm.trans H; with_reducible exact H2_) | with_reducible exact H | (rw [hy160]; exact H) | exact H
                have Ny160 := Aside0.mk hy160
                clear hy160
                have H' := Aside0.mk H
                clear H
                go_wp2_with (first | ((with_reducible refine gate_builtin (b := .append) (xs := #[.tmp 112, .tmp 114]) rfl ?_); (try (refine gate_guard (by rfl) ?_; dsimp only)); at_builtin; refine Kd.R_append (Kd.int .i64) (w0 := w) w.heap.size rfl (.tmp 112) (.tmp 114) 24 3 (.int .i64 0) 8 rfl Try.underlying24 info3 rfl (by decide) (by omega) v158 y157 t151 [.int .i64 t151] (fun k_ => some k_ ≠ (v139 : Value).ownBlock) (fun _ => False) rfl rfl ?aP (fun _ hk => hk.elim) ?aF ?aO ?aB ?aS ?aL ?_; (case aP => exact rfl); (case aB => exact (below_later HB.out)); (case aF => exact (fun k_ hk => Kd.fresh' (Kd.R_lt (R_later HO_7.out)) k_ hk)); (case aO => exact (by (with_reducible repeat (first | apply Kd.R_alloc | apply Kd.R_drewN | apply Kd.R_drew)); exact Kd.R_mono HO159.out (fun _ hk => hk.2))); (case aS => exact (below_size (below_later HB.out))); (case aL => have := LMc30.out; omega); intro v161 w31 ho hb hg hat; rw [← Ny160.out] at ho; have n0_ := Aside0.mk (Kd.R_after (ok := (fun _ => True)) (R_later HO_7.out) hg hat); have n1_ := Aside0.mk (hb); have n2_ := Aside0.mk (ho); clear HO_7; clear HB; clear HO159; have HO_7 := n0_; have HB := n1_; have HO162 := n2_; clear n0_ n1_ n2_; clear ho hb hg hat))
                go_meet
                case rel => exact ⟨_, (y160), H', ⟨by have := HJ8.out; first | omega | exact Nat.le_refl _⟩, ⟨by (with_reducible repeat (first | apply Kd.R_alloc | apply Kd.R_drewN | apply Kd.R_drew)); exact Kd.R_mono HO_7.out (fun _ hk => hk.2)⟩, ⟨by (with_reducible repeat (first | apply Kd.R_alloc | apply Kd.R_drewN | apply Kd.R_drew)); exact HO162.out⟩, ⟨below_later HB.out⟩⟩
              · rw [if_neg c30] at H
                exact absurd H (by simp)
            · rw [if_neg c29] at H
              have c29b0 : decide (0 < t148) = false := decide_eq_false c29
              clear c29
              (first | rw [c29b0] | (simp only [i64_w, i32_w]; rw [c29b0]) | skip)
              have H' := Aside0.mk H
              clear H
              go_wp2
              go_meet
              case rel => exact ⟨_, (y157), H', ⟨by have := HJ8.out; first | omega | exact Nat.le_refl _⟩, ⟨by (with_reducible repeat (first | apply Kd.R_alloc | apply Kd.R_drewN | apply Kd.R_drew)); exact Kd.R_mono HO_7.out (fun _ hk => hk.2)⟩, ⟨by (with_reducible repeat (first | apply Kd.R_alloc | apply Kd.R_drewN | apply Kd.R_drew)); exact Kd.R_mono HO159.out (fun _ hk => hk.2)⟩, ⟨below_later HB.out⟩⟩
          case rest =>
            clear HC26
            try clear c1
            try clear c2
            try clear p2
            try clear c3
            try clear c4
            try clear p6
            try clear c12
            try clear c13
            try clear c14
            try clear c15
            try clear c17
            try clear c18
            try clear c18b0
            try clear c18b1
            try clear c20
            try clear c21
            try clear c21b0
            try clear c21b1
            try clear c22
            try clear c22b0
            try clear c22b1
            try clear c23
            try clear c23b0
            try clear c23b1
            try clear c25
            try clear c29
            try clear c29b0
            try clear c30
            try clear p2
            try clear p6
            obtain ⟨kq, x16_25, HA, HJ25, HO_7, HO_16, HB⟩ := hcut
            cases kq with
            | zero => exact absurd HA.out (by simp [spec_DeltaRead.j1])
            | succ kj25 =>
              have H := HA.out
              clear HA
              simp only [spec_DeltaRead.j1] at H
              have H' := Aside0.mk H
              clear H
              go_wp2
              go_loopg [1, 16] kj25 (fun kq v1 v16 w' => ∃ (x1_3 : Int) (x16_3 : List Int), v1 = .int .i64 x1_3 ∧ Aside0 (spec_DeltaRead.l0 kq l0 x1_3 y138 t142 t145 t148 x16_3 = some (r1, r2, r3)) ∧ Aside0 (kq ≤ kj25) ∧ Aside0 (Kd.R (Kd.int .i64) 3 w' w.heap.size (fun k_ => some k_ ≠ (v16 : Value).ownBlock) v139 y138) ∧ Aside0 (Kd.R (Kd.int .i64) 3 w' w.heap.size (fun k_ => some k_ ≠ (v139 : Value).ownBlock) v16 x16_3) ∧ Aside0 (Below w.heap.size w w'))
              case atStart => exact ⟨(t152), (x16_25), (by first | rfl | (simp; done) | (simp [*]; done)), H', ⟨Nat.le_refl _⟩, ⟨by (with_reducible repeat (first | apply Kd.R_alloc | apply Kd.R_drewN | apply Kd.R_drew)); exact HO_7.out⟩, ⟨by (with_reducible repeat (first | apply Kd.R_alloc | apply Kd.R_drewN | apply Kd.R_drew)); exact HO_16.out⟩, ⟨below_later HB.out⟩⟩
              case round =>
                clear H'
                try clear c1
                try clear c2
                try clear p2
                try clear c3
                try clear c4
                try clear p6
                try clear c12
                try clear c13
                try clear c14
                try clear c15
                try clear c17
                try clear c18
                try clear c18b0
                try clear c18b1
                try clear c20
                try clear c21
                try clear c21b0
                try clear c21b1
                try clear c22
                try clear c22b0
                try clear c22b1
                try clear c23
                try clear c23b0
                try clear c23b1
                try clear c25
                try clear c29
                try clear c29b0
                try clear c30
                try clear p2
                try clear p6
                obtain ⟨x1_3, x16_3, rfl, HA, HK3, HO_7, HO_16, HB⟩ := hrel
                cases gk with
                | zero => exact absurd HA.out (by simp [spec_DeltaRead.l0])
                | succ k3 =>
                  have H := HA.out
                  clear HA
                  simp only [spec_DeltaRead.l0] at H
                  by_cases c32 : (x16_3.length : Int) < t148
                  · rw [if_pos c32] at H
                    have c32b0 : decide ((x16_3.length : Int) < t148) = true := decide_eq_true c32
                    clear c32
                    replace H := Option.bind_eq_some_iff.mp H
                    obtain ⟨⟨t163, t164, t165⟩, A330, H⟩ := H
                    replace H : (if t165 = true then (spec_DeltaRead.j3 k3 l0 y138 t142 t145 t148 x16_3 t163 t164 (decide ((wrap64 ((l0.length : Int) - t164)) < t145))) else (spec_DeltaRead.j3 k3 l0 y138 t142 t145 t148 x16_3 t163 t164 true)) = some (r1, r2, r3) := H
                    have A33 := Aside0.mk A330
                    clear A330
                    have HC34 := Aside0.mk H
                    clear H
                    obtain ⟨Ao35, co35, eo35⟩ := Kd.R_slice HO_16.out
                    subst eo35
                    go_upto_region 15 with (first | ((with_reducible refine gate_callee (f := 46) rfl ?_); refine goesL_ (some 123) rfl rfl Try.func46 (by kernel_rfl) rfl #[.slice A0 l0.length c0, .int .i64 x1_3] rfl (by (try simp only [List.map_toArray, List.map_cons, List.map_nil]); first | done | rfl | (simp only [List.length_drop, List.length_take]; rfl)) ?_; (with_reducible refine (spec_ZigGet.calls k3 _ _ l0 x1_3 t163 t164 t165 _ ?side1 ?side2 A33.out).mono ?_); (case side1 => repeat (first | exact (Kd.C_below HR0.out HB.out) | (with_reducible refine Kd.C_alloc ?_ _) | (with_reducible refine Kd.C_drewN ?_ _) | (with_reducible refine Kd.C_drew ?_))); (case side2 => exact HC0.out); rintro e w' ⟨rfl, ⟨nd, rfl⟩⟩; refine ⟨_, rfl, ?_⟩))
                    (try simp only [Act.put, List.setIfInBounds_toArray, List.set_cons_zero, List.set_cons_succ])
                    go_cut [136] (fun v136 wc => ∃ (kq : Nat) (x136_33 : Bool), v136 = .bool x136_33 ∧ Aside0 (spec_DeltaRead.j3 kq l0 y138 t142 t145 t148 x16_3 t163 t164 x136_33 = some (r1, r2, r3)) ∧ Aside0 (kq ≤ k3) ∧ Aside0 (Kd.R (Kd.int .i64) 3 wc w.heap.size (fun k_ => some k_ ≠ ((.slice Ao35 x16_3.length co35) : Value).ownBlock) v139 y138) ∧ Aside0 (Kd.R (Kd.int .i64) 3 wc w.heap.size (fun k_ => some k_ ≠ (v139 : Value).ownBlock) (.slice Ao35 x16_3.length co35) x16_3) ∧ Aside0 (Below w.heap.size w wc))
                    case first =>
                      have H := HC34.out
                      clear HC34
                      by_cases c36 : t165 = true
                      · subst c36
                        have H1 : (spec_DeltaRead.j3 k3 l0 y138 t142 t145 t148 x16_3 t163 t164 (decide ((wrap64 ((l0.length : Int) - t164)) < t145))) = some (r1, r2, r3) := by rw [if_pos rfl] at H; exact H
                        clear H
                        have H := H1
                        clear H1
                        have H' := Aside0.mk H
                        clear H
                        go_wp2
                        go_meet
                        case rel => exact ⟨_, (decide ((wrap64 ((l0.length : Int) - t164)) < t145)), (by first | rfl | (simp; done) | (simp [*]; done)), H', ⟨by have := HJ8.out; have := HJ25.out; have := HK3.out; first | omega | exact Nat.le_refl _⟩, ⟨by (with_reducible repeat (first | apply Kd.R_alloc | apply Kd.R_drewN | apply Kd.R_drew)); exact HO_7.out⟩, ⟨by (with_reducible repeat (first | apply Kd.R_alloc | apply Kd.R_drewN | apply Kd.R_drew)); exact HO_16.out⟩, ⟨below_later HB.out⟩⟩
                      · replace c36 := Bool.eq_false_iff.mpr c36
                        subst c36
                        have H1 : (spec_DeltaRead.j3 k3 l0 y138 t142 t145 t148 x16_3 t163 t164 true) = some (r1, r2, r3) := by rw [if_neg (show ¬ (false = true) by decide)] at H; exact H
                        clear H
                        have H := H1
                        clear H1
                        have H' := Aside0.mk H
                        clear H
                        go_wp2
                        go_meet
                        case rel => exact ⟨_, (true), (by first | rfl | (simp; done) | (simp [*]; done)), H', ⟨by have := HJ8.out; have := HJ25.out; have := HK3.out; first | omega | exact Nat.le_refl _⟩, ⟨by (with_reducible repeat (first | apply Kd.R_alloc | apply Kd.R_drewN | apply Kd.R_drew)); exact HO_7.out⟩, ⟨by (with_reducible repeat (first | apply Kd.R_alloc | apply Kd.R_drewN | apply Kd.R_drew)); exact HO_16.out⟩, ⟨below_later HB.out⟩⟩
                    case rest =>
                      clear HC34
                      try clear c1
                      try clear c2
                      try clear p2
                      try clear c3
                      try clear c4
                      try clear p6
                      try clear c12
                      try clear c13
                      try clear c14
                      try clear c15
                      try clear c17
                      try clear c18
                      try clear c18b0
                      try clear c18b1
                      try clear c20
                      try clear c21
                      try clear c21b0
                      try clear c21b1
                      try clear c22
                      try clear c22b0
                      try clear c22b1
                      try clear c23
                      try clear c23b0
                      try clear c23b1
                      try clear c25
                      try clear c29
                      try clear c29b0
                      try clear c30
                      try clear c32
                      try clear c32b0
                      try clear c36
                      try clear p2
                      try clear p6
                      obtain ⟨kq, x136_33, rfl, HA, HJ33, HO_7, HO_16, HB⟩ := hcut
                      cases kq with
                      | zero => exact absurd HA.out (by simp [spec_DeltaRead.j3])
                      | succ kj33 =>
                        have H := HA.out
                        clear HA
                        simp only [spec_DeltaRead.j3] at H
                        by_cases c37 : x136_33 = true
                        · subst c37
                          have H1 : (some (y138, 0, false)) = some (r1, r2, r3) := by rw [if_pos rfl] at H; exact H
                          clear H
                          have H := H1
                          clear H1
                          simp only [Option.some.injEq, Prod.mk.injEq] at H
                          obtain ⟨rfl, rfl, rfl⟩ := H
                          go_wp2
                          go_ret3
                          exact ⟨_, by first | rfl | (simp [errW_none, errW_some] <;> rfl) | (simp [*, errW_none, errW_some] <;> rfl), by (with_reducible repeat (first | apply Kd.R_alloc | apply Kd.R_drewN | apply Kd.R_drew)); exact Kd.R_mono HO_7.out (fun _ hk => trivial), below_later HB.out⟩
                        · replace c37 := Bool.eq_false_iff.mpr c37
                          subst c37
                          have H1 : (spec_DeltaRead.l1 kj33 l0 (wrap64 (t164 + t145)) y138 t142 t145 t148 x16_3 t163 t164 0) = some (r1, r2, r3) := by rw [if_neg (show ¬ (false = true) by decide)] at H; exact H
                          clear H
                          have H := H1
                          clear H1
                          have H' := Aside0.mk H
                          clear H
                          go_wp2
                          go_loopg [1, 16, 20] kj33 (fun kq v1 v16 v20 w' => ∃ (x1_5 : Int) (x16_5 : List Int) (x20_5 : Int), v1 = .int .i64 x1_5 ∧ v20 = .int .i64 x20_5 ∧ Aside0 (spec_DeltaRead.l1 kq l0 x1_5 y138 t142 t145 t148 x16_5 t163 t164 x20_5 = some (r1, r2, r3)) ∧ Aside0 (kq ≤ kj33) ∧ Aside0 (Kd.R (Kd.int .i64) 3 w' w.heap.size (fun k_ => some k_ ≠ (v16 : Value).ownBlock) v139 y138) ∧ Aside0 (Kd.R (Kd.int .i64) 3 w' w.heap.size (fun k_ => some k_ ≠ (v139 : Value).ownBlock) v16 x16_5) ∧ Aside0 (Below w.heap.size w w'))
                          case atStart => exact ⟨(wrap64 (t164 + t145)), (x16_3), (0), (by first | rfl | (simp; done) | (simp [*]; done)), (by first | rfl | (simp; done) | (simp [*]; done)), H', ⟨Nat.le_refl _⟩, ⟨by (with_reducible repeat (first | apply Kd.R_alloc | apply Kd.R_drewN | apply Kd.R_drew)); exact HO_7.out⟩, ⟨by (with_reducible repeat (first | apply Kd.R_alloc | apply Kd.R_drewN | apply Kd.R_drew)); exact HO_16.out⟩, ⟨below_later HB.out⟩⟩
                          case round =>
                            clear H'
                            try clear c1
                            try clear c2
                            try clear p2
                            try clear c3
                            try clear c4
                            try clear p6
                            try clear c12
                            try clear c13
                            try clear c14
                            try clear c15
                            try clear c17
                            try clear c18
                            try clear c18b0
                            try clear c18b1
                            try clear c20
                            try clear c21
                            try clear c21b0
                            try clear c21b1
                            try clear c22
                            try clear c22b0
                            try clear c22b1
                            try clear c23
                            try clear c23b0
                            try clear c23b1
                            try clear c25
                            try clear c29
                            try clear c29b0
                            try clear c30
                            try clear c32
                            try clear c32b0
                            try clear c36
                            try clear c37
                            try clear p2
                            try clear p6
                            obtain ⟨x1_5, x16_5, x20_5, rfl, rfl, HA, HK5, HO_7, HO_16, HB⟩ := hrel
                            cases gk with
                            | zero => exact absurd HA.out (by simp [spec_DeltaRead.l1])
                            | succ k5 =>
                              have H := HA.out
                              clear HA
                              simp only [spec_DeltaRead.l1] at H
                              have HC38 := Aside0.mk H
                              clear H
                              go_upto_region 19 with (fail)
                              go_cut [149] (fun v149 wc => ∃ (kq : Nat) (x149_37 : Bool), v149 = .bool x149_37 ∧ Aside0 (spec_DeltaRead.j5 kq l0 x1_5 y138 t142 t145 t148 x16_5 t163 t164 x20_5 x149_37 = some (r1, r2, r3)) ∧ Aside0 (kq ≤ k5) ∧ Aside0 (Kd.R (Kd.int .i64) 3 wc w.heap.size (fun k_ => some k_ ≠ (u16 : Value).ownBlock) v139 y138) ∧ Aside0 (Kd.R (Kd.int .i64) 3 wc w.heap.size (fun k_ => some k_ ≠ (v139 : Value).ownBlock) u16 x16_5) ∧ Aside0 (Below w.heap.size w wc))
                              case first =>
                                have H := HC38.out
                                clear HC38
                                by_cases c39 : x20_5 < t145
                                · rw [if_pos c39] at H
                                  have c39b0 : decide (x20_5 < t145) = true := decide_eq_true c39
                                  clear c39
                                  (first | rw [c39b0] | (simp only [i64_w, i32_w]; rw [c39b0]) | skip)
                                  have H' := Aside0.mk H
                                  clear H
                                  obtain ⟨Ao40, co40, eo40⟩ := Kd.R_slice HO_16.out
                                  subst eo40
                                  go_wp2
                                  go_meet
                                  case rel => exact ⟨_, (decide ((x16_5.length : Int) < t148)), (by first | rfl | (simp; done) | (simp [*]; done)), H', ⟨by have := HJ8.out; have := HJ25.out; have := HK3.out; have := HJ33.out; have := HK5.out; first | omega | exact Nat.le_refl _⟩, ⟨by (with_reducible repeat (first | apply Kd.R_alloc | apply Kd.R_drewN | apply Kd.R_drew)); exact HO_7.out⟩, ⟨by (with_reducible repeat (first | apply Kd.R_alloc | apply Kd.R_drewN | apply Kd.R_drew)); exact HO_16.out⟩, ⟨below_later HB.out⟩⟩
                                · rw [if_neg c39] at H
                                  have c39b0 : decide (x20_5 < t145) = false := decide_eq_false c39
                                  clear c39
                                  (first | rw [c39b0] | (simp only [i64_w, i32_w]; rw [c39b0]) | skip)
                                  have H' := Aside0.mk H
                                  clear H
                                  go_wp2
                                  go_meet
                                  case rel => exact ⟨_, (false), (by first | rfl | (simp; done) | (simp [*]; done)), H', ⟨by have := HJ8.out; have := HJ25.out; have := HK3.out; have := HJ33.out; have := HK5.out; first | omega | exact Nat.le_refl _⟩, ⟨by (with_reducible repeat (first | apply Kd.R_alloc | apply Kd.R_drewN | apply Kd.R_drew)); exact HO_7.out⟩, ⟨by (with_reducible repeat (first | apply Kd.R_alloc | apply Kd.R_drewN | apply Kd.R_drew)); exact HO_16.out⟩, ⟨below_later HB.out⟩⟩
                              case rest =>
                                clear HC38
                                try clear c1
                                try clear c2
                                try clear p2
                                try clear c3
                                try clear c4
                                try clear p6
                                try clear c12
                                try clear c13
                                try clear c14
                                try clear c15
                                try clear c17
                                try clear c18
                                try clear c18b0
                                try clear c18b1
                                try clear c20
                                try clear c21
                                try clear c21b0
                                try clear c21b1
                                try clear c22
                                try clear c22b0
                                try clear c22b1
                                try clear c23
                                try clear c23b0
                                try clear c23b1
                                try clear c25
                                try clear c29
                                try clear c29b0
                                try clear c30
                                try clear c32
                                try clear c32b0
                                try clear c36
                                try clear c37
                                try clear c39
                                try clear c39b0
                                try clear p2
                                try clear p6
                                obtain ⟨kq, x149_37, rfl, HA, HJ37, HO_7, HO_16, HB⟩ := hcut
                                cases kq with
                                | zero => exact absurd HA.out (by simp [spec_DeltaRead.j5])
                                | succ kj37 =>
                                  have H := HA.out
                                  clear HA
                                  simp only [spec_DeltaRead.j5] at H
                                  by_cases c41 : x149_37 = true
                                  · subst c41
                                    have H1 : (if t145 = 0 then (none) else (if 0 ≤ (wrap64 (t164 + x20_5)) then (if (wrap64 (t164 + x20_5)) < (l0.length : Int) then ((spec_l9Mini.f kj37 l0 x1_5 (wrap64 (Int.tdiv t142 t145)) (wrap64 (rd l0 (wrap64 (t164 + x20_5))))).bind fun bt167 => (if bt167.2.2 = true then (spec_DeltaRead.l2 kj37 l0 bt167.2.1 y138 t142 t145 t148 x16_5 t163 t164 x20_5 bt167.1 0) else (some (y138, 0, false)))) else (none)) else (none))) = some (r1, r2, r3) := by rw [if_pos rfl] at H; exact H
                                    clear H
                                    have H := H1
                                    clear H1
                                    by_cases c42 : t145 = 0
                                    · rw [if_pos c42] at H
                                      exact absurd H (by simp)
                                    · rw [if_neg c42] at H
                                      have c42b0 : (t145 == 0) = false := beq_eq_false_iff_ne.mpr c42
                                      have c42b1 : (t145 != 0) = true := bne_iff_ne.mpr c42
                                      obtain ⟨ji43, hji43⟩ : ∃ j_ : Int, (wrap64 (t164 + x20_5)) = j_ := ⟨_, rfl⟩
                                      replace H : (if 0 ≤ (ji43) then (if (ji43) < (l0.length : Int) then ((spec_l9Mini.f kj37 l0 x1_5 (wrap64 (Int.tdiv t142 t145)) (wrap64 (rd l0 (ji43)))).bind fun bt167 => (if bt167.2.2 = true then (spec_DeltaRead.l2 kj37 l0 bt167.2.1 y138 t142 t145 t148 x16_5 t163 t164 x20_5 bt167.1 0) else (some (y138, 0, false)))) else (none)) else (none)) = some (r1, r2, r3) := by first | (rw [hji43] at H; exact H) | (simp only [hji43] at H ⊢; exact H)
                                      have hji43w : (IntKind.i64.wrap (t164 + x20_5)) = ji43 := (i64_w _).trans hji43
                                      by_cases c44 : 0 ≤ (ji43)
                                      · rw [if_pos c44] at H
                                        have c44b0 : decide (0 ≤ (ji43)) = true := decide_eq_true c44
                                        clear c44
                                        by_cases c45 : (ji43) < (l0.length : Int)
                                        · rw [if_pos c45] at H
                                          have c45b0 : decide ((ji43) < (l0.length : Int)) = true := decide_eq_true c45
                                          clear c45
                                          replace H := Option.bind_eq_some_iff.mp H
                                          obtain ⟨⟨t167, t168, t169⟩, A460, H⟩ := H
                                          replace H : (if t169 = true then (spec_DeltaRead.l2 kj37 l0 t168 y138 t142 t145 t148 x16_5 t163 t164 x20_5 t167 0) else (some (y138, 0, false))) = some (r1, r2, r3) := H
                                          have A46 := Aside0.mk A460
                                          clear A460
                                          by_cases c47 : t169 = true
                                          · subst c47
                                            have H1 : (spec_DeltaRead.l2 kj37 l0 t168 y138 t142 t145 t148 x16_5 t163 t164 x20_5 t167 0) = some (r1, r2, r3) := by rw [if_pos rfl] at H; exact H
                                            clear H
                                            have H := H1
                                            clear H1
                                            have H' := Aside0.mk H
                                            clear H
                                            try go_wp2
                                            have n0_ := Aside0.mk (Kd.R_drew HO_7.out)
                                            have n1_ := Aside0.mk (Kd.R_drew HO_16.out)
                                            have n2_ := Aside0.mk (below_drew1 HB.out)
                                            clear HO_7
                                            clear HO_16
                                            clear HB
                                            have HO_7 := n0_
                                            have HO_16 := n1_
                                            have HB := n2_
                                            clear n0_ n1_ n2_
                                            have p166 : 0 ≤ ((ji43) : Int) := of_decide_eq_true (by first | (with_reducible assumption) | assumption)
                                            have q166 : (ji43) < (l0.length : Int) := of_decide_eq_true (by first | (with_reducible assumption) | assumption)
                                            obtain ⟨ad166, e166, hx166_0⟩ := Kd.at_int HR0.out (ji43) p166 q166
                                            have hw166_0 := hx166_0
                                            cases e166
                                            replace hx166_0 := (HB.out.cell (World.block_lt_of_cell? w _ hx166_0)).trans hx166_0
                                            replace p166 := eq_true p166
                                            replace q166 := eq_true q166
                                            refine start_ (n := 20) (S := fun w' => w'.cell? (ad166.add ((ji43)).toNat) = some (.int .u8 (rd l0 (ji43)))) (ds := []) #[false, false, false, false, false, false, false, false, false, false, false, false, false, false, false, false, false, false, false, false] (by kernel_rfl) rfl rfl (((HB.out.cell (World.block_lt_of_cell? w _ hw166_0)).trans hw166_0)) (fun hHeld => ?_); refine with_tabW spec_DeltaRead.tab21 spec_DeltaRead.bits21 (fun HT_ HW_ => ?_)
                                            generalize wc.drew = w48 at HO_7 HO_16 HB hx166_0 hHeld ⊢
                                            refine pure_ (i := 0) (N := some 153) (v := ?_) (a' := ?_) #[true, false, false, false, false, false, false, false, false, false, false, false, false, false, false, false, false, false, false, false] rfl rfl (any_of HT_.out (by kernel_rfl)) (fun _ _ _ h => h) (Or.inl ⟨by rfl, ?_⟩) ?_ ?_
                                            rotate_left
                                            · intro w'
                                              go_simp
                                              with_reducible rfl
                                            rotate_left
                                            · simp only [Act.put, List.setIfInBounds_toArray, List.set_cons_zero, List.set_cons_succ, i64_w, i32_w]
                                              rfl
                                            refine pure_ (i := 1) (N := some 154) (v := ?_) (a' := ?_) #[true, true, false, false, false, false, false, false, false, false, false, false, false, false, false, false, false, false, false, false] rfl rfl (any_of HT_.out (by kernel_rfl)) (fun _ _ _ h => h) (Or.inl ⟨by rfl, ?_⟩) ?_ ?_
                                            rotate_left
                                            · intro w'
                                              go_simp
                                              with_reducible rfl
                                            rotate_left
                                            · simp only [Act.put, List.setIfInBounds_toArray, List.set_cons_zero, List.set_cons_succ, i64_w, i32_w]
                                              rfl
                                            refine pure_ (i := 2) (N := some 155) (v := ?_) (a' := ?_) #[true, true, true, false, false, false, false, false, false, false, false, false, false, false, false, false, false, false, false, false] rfl rfl (any_of HT_.out (by kernel_rfl)) (fun _ _ _ h => h) (Or.inl ⟨by rfl, ?_⟩) ?_ ?_
                                            rotate_left
                                            · intro w'
                                              go_simp
                                              with_reducible rfl
                                            rotate_left
                                            · simp only [Act.put, List.setIfInBounds_toArray, List.set_cons_zero, List.set_cons_succ, i64_w, i32_w]
                                              rfl
                                            refine pure_ (i := 3) (N := some 156) (v := ?_) (a' := ?_) #[true, true, true, true, false, false, false, false, false, false, false, false, false, false, false, false, false, false, false, false] rfl rfl (any_of HT_.out (by kernel_rfl)) (fun _ _ _ h => h) (Or.inl ⟨by rfl, ?_⟩) ?_ ?_
                                            rotate_left
                                            · intro w'
                                              go_simp
                                              with_reducible rfl
                                            rotate_left
                                            · simp only [Act.put, List.setIfInBounds_toArray, List.set_cons_zero, List.set_cons_succ, i64_w, i32_w]
                                              rfl
                                            refine pure_ (i := 4) (N := some 157) (v := ?_) (a' := ?_) #[true, true, true, true, true, false, false, false, false, false, false, false, false, false, false, false, false, false, false, false] rfl rfl (any_of HT_.out (by kernel_rfl)) (fun _ _ _ h => h) (Or.inl ⟨by rfl, ?_⟩) ?_ ?_
                                            rotate_left
                                            · intro w'
                                              go_simp
                                              with_reducible rfl
                                            rotate_left
                                            · simp only [Act.put, List.setIfInBounds_toArray, List.set_cons_zero, List.set_cons_succ, i64_w, i32_w]
                                              rfl
                                            refine pure_ (i := 5) (N := some 158) (v := ?_) (a' := ?_) #[true, true, true, true, true, true, false, false, false, false, false, false, false, false, false, false, false, false, false, false] rfl rfl (any_of HT_.out (by kernel_rfl)) (fun _ _ _ h => h) (Or.inl ⟨by rfl, ?_⟩) ?_ ?_
                                            rotate_left
                                            · intro w'
                                              go_simp
                                              with_reducible rfl
                                            rotate_left
                                            · simp only [Act.put, List.setIfInBounds_toArray, List.set_cons_zero, List.set_cons_succ, i64_w, i32_w]
                                              rfl
                                            refine pure_ (i := 6) (N := some 159) (v := ?_) (a' := ?_) #[true, true, true, true, true, true, true, false, false, false, false, false, false, false, false, false, false, false, false, false] rfl rfl (any_of HT_.out (by kernel_rfl)) (fun _ _ _ h => h) (Or.inl ⟨by rfl, ?_⟩) ?_ ?_
                                            rotate_left
                                            · intro w'
                                              go_simp
                                              with_reducible rfl
                                            rotate_left
                                            · simp only [Act.put, List.setIfInBounds_toArray, List.set_cons_zero, List.set_cons_succ, i64_w, i32_w]
                                              rfl
                                            refine pure_ (i := 7) (N := some 160) (v := ?_) (a' := ?_) #[true, true, true, true, true, true, true, true, false, false, false, false, false, false, false, false, false, false, false, false] rfl rfl (any_of HT_.out (by kernel_rfl)) (fun _ _ _ h => h) (Or.inl ⟨by rfl, ?_⟩) ?_ ?_
                                            rotate_left
                                            · intro w'
                                              go_simp
                                              with_reducible rfl
                                            rotate_left
                                            · simp only [Act.put, List.setIfInBounds_toArray, List.set_cons_zero, List.set_cons_succ, i64_w, i32_w]
                                              rfl
                                            refine pure_ (i := 8) (N := some 161) (v := ?_) (a' := ?_) #[true, true, true, true, true, true, true, true, true, false, false, false, false, false, false, false, false, false, false, false] rfl rfl (any_of HT_.out (by kernel_rfl)) (fun _ _ _ h => h) (Or.inl ⟨by rfl, ?_⟩) ?_ ?_
                                            rotate_left
                                            · intro w'
                                              go_simp
                                              with_reducible rfl
                                            rotate_left
                                            · simp only [Act.put, List.setIfInBounds_toArray, List.set_cons_zero, List.set_cons_succ, i64_w, i32_w]
                                              rfl
                                            refine pure_ (i := 9) (N := some 162) (v := ?_) (a' := ?_) #[true, true, true, true, true, true, true, true, true, true, false, false, false, false, false, false, false, false, false, false] rfl rfl (any_of HT_.out (by kernel_rfl)) (fun _ _ _ h => h) (Or.inl ⟨by rfl, ?_⟩) ?_ ?_
                                            rotate_left
                                            · intro w'
                                              go_simp
                                              with_reducible rfl
                                            rotate_left
                                            · simp only [Act.put, List.setIfInBounds_toArray, List.set_cons_zero, List.set_cons_succ, i64_w, i32_w]
                                              rfl
                                            refine take_ (i := 10) (N := some 163) (v := ?_) (a' := ?_) #[true, true, true, true, true, true, true, true, true, true, true, false, false, false, false, false, false, false, false, false] rfl rfl (take_ofW HT_.out HW_.out (by kernel_rfl)) (fun _ _ _ h => h) (Or.inl ⟨by rfl, ?_⟩) hHeld ?_ ?_
                                            rotate_left
                                            · intro w' s0
                                              go_simp
                                              with_reducible rfl
                                            rotate_left
                                            · simp only [Act.put, List.setIfInBounds_toArray, List.set_cons_zero, List.set_cons_succ, i64_w, i32_w]
                                              rfl
                                            refine pure_ (i := 11) (N := some 164) (v := ?_) (a' := ?_) #[true, true, true, true, true, true, true, true, true, true, true, true, false, false, false, false, false, false, false, false] rfl rfl (any_of HT_.out (by kernel_rfl)) (fun _ _ _ h => h) (Or.inl ⟨by rfl, ?_⟩) ?_ ?_
                                            rotate_left
                                            · intro w'
                                              go_simp
                                              with_reducible rfl
                                            rotate_left
                                            · simp only [Act.put, List.setIfInBounds_toArray, List.set_cons_zero, List.set_cons_succ, i64_w, i32_w]
                                              rfl
                                            refine one_ (i := 12) (N := some 165) #[true, true, true, true, true, true, true, true, true, true, true, true, true, false, false, false, false, false, false, false] rfl rfl (one_of HT_.out (by kernel_rfl)) (by decide) (fun K hK => ?_)
                                            refine goes_ Try.func47 (by kernel_rfl) rfl #[.slice (some ad166) l0.length c0, .int .i64 x1_5, .int .i64 (wrap64 (Int.tdiv t142 t145)), .int .i64 (wrap64 (rd l0 (ji43)))] (by rfl) rfl rfl (by (try simp only [List.map_toArray, List.map_cons, List.map_nil]); first | done | (simp only [hji43]; rfl) | rfl | (simp only [List.length_drop, List.length_take]; rfl)) ?_
                                            with_reducible refine (spec_l9Mini.calls kj37 _ _ l0 x1_5 (wrap64 (Int.tdiv t142 t145)) (wrap64 (rd l0 (ji43))) t167 t168 true _ ?side1 ?side2 A46.out).mono ?_
                                            (case side1 => repeat (first | exact (Kd.C_below HR0.out HB.out) | (with_reducible refine Kd.C_alloc ?_ _) | (with_reducible refine Kd.C_drewN ?_ _) | (with_reducible refine Kd.C_drew ?_)))
                                            (case side2 => exact HC0.out)
                                            rintro e w49 ⟨v170, rfl, ho0, hb⟩
                                            refine ⟨_, rfl, ?_⟩
                                            have n0_ := Aside0.mk (Kd.R_elder' (R_later HO_7.out) (Kd.R_base ho0) hb)
                                            have n1_ := Aside0.mk (Kd.R_elder' (R_later HO_16.out) (Kd.R_base ho0) hb)
                                            have n2_ := Aside0.mk (Kd.R_lower (Kd.R_new' (Kd.R_new' ho0 (Kd.R_lt (R_later HO_7.out))) (Kd.R_lt (R_later HO_16.out))) (below_size (below_later HB.out)))
                                            have n3_ := Aside0.mk (below_step (below_later HB.out) hb)
                                            clear HO_7
                                            clear HO_16
                                            clear HB
                                            have HO_7 := n0_
                                            have HO_16 := n1_
                                            have HO171 := n2_
                                            have HB := n3_
                                            clear n0_ n1_ n2_ n3_
                                            (try clear hb)
                                            (try clear hb2)
                                            (try clear hk)
                                            (try clear hi)
                                            (try clear ho0)
                                            refine hK.out _ _ (((HB.out.cell (World.block_lt_of_cell? w _ hw166_0)).trans hw166_0)) (fun hHeld => ?_)
                                            clear hK K
                                            refine norm_ (a' := ?_) ?_ ?_
                                            rotate_left
                                            · show Act.put _ (some 165) _ = _
                                              simp only [Act.put, List.setIfInBounds_toArray, List.set_cons_zero, List.set_cons_succ, i64_w, i32_w]
                                              rfl
                                            refine pure_ (i := 13) (N := some 152) (v := ?_) (a' := ?_) #[true, true, true, true, true, true, true, true, true, true, true, true, true, true, false, false, false, false, false, false] rfl rfl (any_of HT_.out (by kernel_rfl)) (fun _ _ _ h => h) (Or.inl ⟨by rfl, ?_⟩) ?_ ?_
                                            rotate_left
                                            · intro w'
                                              go_simp
                                              with_reducible rfl
                                            rotate_left
                                            · simp only [Act.put, List.setIfInBounds_toArray, List.set_cons_zero, List.set_cons_succ, i64_w, i32_w]
                                              rfl
                                            refine pure_ (i := 14) (N := some 166) (v := ?_) (a' := ?_) #[true, true, true, true, true, true, true, true, true, true, true, true, true, true, true, false, false, false, false, false] rfl rfl (any_of HT_.out (by kernel_rfl)) (fun _ _ _ h => h) (Or.inl ⟨by rfl, ?_⟩) ?_ ?_
                                            rotate_left
                                            · intro w'
                                              go_simp
                                              with_reducible rfl
                                            rotate_left
                                            · simp only [Act.put, List.setIfInBounds_toArray, List.set_cons_zero, List.set_cons_succ, i64_w, i32_w]
                                              rfl
                                            refine pure_ (i := 15) (N := some 167) (v := ?_) (a' := ?_) #[true, true, true, true, true, true, true, true, true, true, true, true, true, true, true, true, false, false, false, false] rfl rfl (any_of HT_.out (by kernel_rfl)) (fun _ _ _ h => h) (Or.inl ⟨by rfl, ?_⟩) ?_ ?_
                                            rotate_left
                                            · intro w'
                                              go_simp
                                              with_reducible rfl
                                            rotate_left
                                            · simp only [Act.put, List.setIfInBounds_toArray, List.set_cons_zero, List.set_cons_succ, i64_w, i32_w]
                                              rfl
                                            refine pure_ (i := 16) (N := some 168) (v := ?_) (a' := ?_) #[true, true, true, true, true, true, true, true, true, true, true, true, true, true, true, true, true, false, false, false] rfl rfl (any_of HT_.out (by kernel_rfl)) (fun _ _ _ h => h) (Or.inl ⟨by rfl, ?_⟩) ?_ ?_
                                            rotate_left
                                            · intro w'
                                              go_simp
                                              with_reducible rfl
                                            rotate_left
                                            · simp only [Act.put, List.setIfInBounds_toArray, List.set_cons_zero, List.set_cons_succ, i64_w, i32_w]
                                              rfl
                                            refine pure_ (i := 17) (N := some 21) (v := ?_) (a' := ?_) #[true, true, true, true, true, true, true, true, true, true, true, true, true, true, true, true, true, true, false, false] rfl rfl (any_of HT_.out (by kernel_rfl)) (fun _ _ _ h => h) (Or.inl ⟨by rfl, ?_⟩) ?_ ?_
                                            rotate_left
                                            · intro w'
                                              go_simp
                                              with_reducible rfl
                                            rotate_left
                                            · simp only [Act.put, List.setIfInBounds_toArray, List.set_cons_zero, List.set_cons_succ, i64_w, i32_w]
                                              rfl
                                            refine pure_ (i := 18) (N := some 22) (v := ?_) (a' := ?_) #[true, true, true, true, true, true, true, true, true, true, true, true, true, true, true, true, true, true, true, false] rfl rfl (any_of HT_.out (by kernel_rfl)) (fun _ _ _ h => h) (Or.inl ⟨by rfl, ?_⟩) ?_ ?_
                                            rotate_left
                                            · intro w'
                                              go_simp
                                              with_reducible rfl
                                            rotate_left
                                            · simp only [Act.put, List.setIfInBounds_toArray, List.set_cons_zero, List.set_cons_succ, i64_w, i32_w]
                                              rfl
                                            refine pure_ (i := 19) (N := some 23) (v := ?_) (a' := ?_) #[true, true, true, true, true, true, true, true, true, true, true, true, true, true, true, true, true, true, true, true] rfl rfl (any_of HT_.out (by kernel_rfl)) (fun _ _ _ h => h) (Or.inl ⟨by rfl, ?_⟩) ?_ ?_
                                            rotate_left
                                            · intro w'
                                              go_simp
                                              with_reducible rfl
                                            rotate_left
                                            · simp only [Act.put, List.setIfInBounds_toArray, List.set_cons_zero, List.set_cons_succ, i64_w, i32_w]
                                              rfl
                                            refine done_ (done_of HT_.out (by kernel_rfl)) ?_
                                            try go_wp2
                                            go_loopg [16, 24] kj37 (fun kq v16 v24 w' => ∃ (x16_7 : List Int) (x24_7 : Int), v24 = .int .i64 x24_7 ∧ Aside0 (spec_DeltaRead.l2 kq l0 t168 y138 t142 t145 t148 x16_7 t163 t164 x20_5 t167 x24_7 = some (r1, r2, r3)) ∧ Aside0 (kq ≤ kj37) ∧ Aside0 (Kd.R (Kd.int .i64) 3 w' w.heap.size (fun k_ => some k_ ≠ (v16 : Value).ownBlock ∧ some k_ ≠ (v170 : Value).ownBlock) v139 y138) ∧ Aside0 (Kd.R (Kd.int .i64) 3 w' w.heap.size (fun k_ => some k_ ≠ (v139 : Value).ownBlock ∧ some k_ ≠ (v170 : Value).ownBlock) v16 x16_7) ∧ Aside0 (Kd.R (Kd.int .i64) 3 w' w.heap.size (fun k_ => some k_ ≠ (v139 : Value).ownBlock ∧ some k_ ≠ (v16 : Value).ownBlock) v170 t167) ∧ Aside0 (Below w.heap.size w w'))
                                            case atStart => exact ⟨(x16_5), (0), (by first | rfl | (simp; done) | (simp [*]; done)), H', ⟨Nat.le_refl _⟩, ⟨by (with_reducible repeat (first | apply Kd.R_alloc | apply Kd.R_drewN | apply Kd.R_drew)); exact HO_7.out⟩, ⟨by (with_reducible repeat (first | apply Kd.R_alloc | apply Kd.R_drewN | apply Kd.R_drew)); exact HO_16.out⟩, ⟨by (with_reducible repeat (first | apply Kd.R_alloc | apply Kd.R_drewN | apply Kd.R_drew)); exact Kd.R_mono HO171.out (fun _ hk => ⟨hk.1.2, hk.2⟩)⟩, ⟨below_later HB.out⟩⟩
                                            case round =>
                                              clear H'
                                              try clear c1
                                              try clear p1
                                              try clear q1
                                              try clear hx1
                                              try clear c2
                                              try clear p2
                                              try clear c3
                                              try clear c4
                                              try clear p6
                                              try clear c12
                                              try clear c13
                                              try clear c14
                                              try clear c15
                                              try clear p16
                                              try clear q16
                                              try clear hx16
                                              try clear c17
                                              try clear c18
                                              try clear c18b0
                                              try clear c18b1
                                              try clear c20
                                              try clear c21
                                              try clear c21b0
                                              try clear c21b1
                                              try clear c22
                                              try clear c22b0
                                              try clear c22b1
                                              try clear c23
                                              try clear c23b0
                                              try clear c23b1
                                              try clear c25
                                              try clear c29
                                              try clear c29b0
                                              try clear c30
                                              try clear c32
                                              try clear c32b0
                                              try clear c36
                                              try clear c37
                                              try clear c39
                                              try clear c39b0
                                              try clear c41
                                              try clear c42
                                              try clear c42b0
                                              try clear c42b1
                                              try clear c44
                                              try clear c44b0
                                              try clear c45
                                              try clear c45b0
                                              try clear c46
                                              try clear c47
                                              try clear hx166_0
                                              try clear p166
                                              try clear p2
                                              try clear p6
                                              try clear q166
                                              obtain ⟨x16_7, x24_7, rfl, HA, HK7, HO_7, HO_16, HO_21, HB⟩ := hrel
                                              cases gk with
                                              | zero => exact absurd HA.out (by simp [spec_DeltaRead.l2])
                                              | succ k7 =>
                                                have H := HA.out
                                                clear HA
                                                simp only [spec_DeltaRead.l2] at H
                                                by_cases c50 : x24_7 < (t167.length : Int)
                                                · rw [if_pos c50] at H
                                                  have c50b0 : decide (x24_7 < (t167.length : Int)) = true := decide_eq_true c50
                                                  clear c50
                                                  by_cases c51 : (x16_7.length : Int) < t148
                                                  · rw [if_pos c51] at H
                                                    have c51b0 : decide ((x16_7.length : Int) < t148) = true := decide_eq_true c51
                                                    clear c51
                                                    obtain ⟨ji52, hji52⟩ : ∃ j_ : Int, (wrap64 ((x16_7.length : Int) - 1)) = j_ := ⟨_, rfl⟩
                                                    replace H : (if 0 ≤ (ji52) then (if (ji52) < (x16_7.length : Int) then (if 0 ≤ x24_7 then (if x16_7.length < 17592186044416 then (spec_DeltaRead.l2 k7 l0 t168 y138 t142 t145 t148 (x16_7 ++ [wrap64 ((wrap64 ((rd x16_7 (ji52)) + (rd t167 x24_7))) + t163)]) t163 t164 x20_5 t167 (wrap64 (x24_7 + 1))) else (none)) else (none)) else (none)) else (none)) = some (r1, r2, r3) := by first | (rw [hji52] at H; exact H) | (simp only [hji52] at H ⊢; exact H)
                                                    have hji52w : (IntKind.i64.wrap ((x16_7.length : Int) - 1)) = ji52 := (i64_w _).trans hji52
                                                    by_cases c53 : 0 ≤ (ji52)
                                                    · rw [if_pos c53] at H
                                                      have c53b0 : decide (0 ≤ (ji52)) = true := decide_eq_true c53
                                                      clear c53
                                                      by_cases c54 : (ji52) < (x16_7.length : Int)
                                                      · rw [if_pos c54] at H
                                                        have c54b0 : decide ((ji52) < (x16_7.length : Int)) = true := decide_eq_true c54
                                                        clear c54
                                                        by_cases c55 : 0 ≤ x24_7
                                                        · rw [if_pos c55] at H
                                                          have c55b0 : decide (0 ≤ x24_7) = true := decide_eq_true c55
                                                          clear c55
                                                          by_cases c56 : x16_7.length < 17592186044416
                                                          · rw [if_pos c56] at H
                                                            have LMc56 := Aside0.mk c56
                                                            clear c56
                                                            obtain ⟨y174, hy174⟩ : ∃ y_ : List Int, y_ = (x16_7 ++ [wrap64 ((wrap64 ((rd x16_7 (ji52)) + (rd t167 x24_7))) + t163)]) := ⟨_, rfl⟩
                                                            replace H : (spec_DeltaRead.l2 k7 l0 t168 y138 t142 t145 t148 y174 t163 t164 x20_5 t167 (wrap64 (x24_7 + 1))) = some (r1, r2, r3) := by first | (rw [hy174]; with_reducible exact H) | (have H2_ := (Option.bind_some _ _).symm.trans H; rw [hy174]; with_reducible exact H2_) | (have H2_ := (Option.bind_some _ _).symm.trans H; with_reducible exact H2_) | with_reducible exact H | (rw [hy174]; exact H) | exact H
                                                            have Ny174 := Aside0.mk hy174
                                                            clear hy174
                                                            have H' := Aside0.mk H
                                                            clear H
                                                            obtain ⟨Ao57, co57, eo57⟩ := Kd.R_slice HO_21.out
                                                            subst eo57
                                                            obtain ⟨Ao58, co58, eo58⟩ := Kd.R_slice HO_16.out
                                                            subst eo58
                                                            try go_wp2
                                                            have n0_ := Aside0.mk (Kd.R_drew HO_7.out)
                                                            have n1_ := Aside0.mk (Kd.R_drew HO_16.out)
                                                            have n2_ := Aside0.mk (Kd.R_drew HO_21.out)
                                                            have n3_ := Aside0.mk (below_drew1 HB.out)
                                                            clear HO_7
                                                            clear HO_16
                                                            clear HO_21
                                                            clear HB
                                                            have HO_7 := n0_
                                                            have HO_16 := n1_
                                                            have HO_21 := n2_
                                                            have HB := n3_
                                                            clear n0_ n1_ n2_ n3_
                                                            have p172 : 0 ≤ ((ji52) : Int) := of_decide_eq_true (by first | (with_reducible assumption) | assumption)
                                                            have q172 : (ji52) < (x16_7.length : Int) := of_decide_eq_true (by first | (with_reducible assumption) | assumption)
                                                            obtain ⟨ad172, e172, hx172_0⟩ := Kd.at_int (Kd.R_reads' HO_16.out).2.2 (ji52) p172 q172
                                                            cases e172
                                                            replace p172 := eq_true p172
                                                            replace q172 := eq_true q172
                                                            have p173 : 0 ≤ (x24_7 : Int) := of_decide_eq_true (by first | (with_reducible assumption) | assumption)
                                                            have q173 : x24_7 < (t167.length : Int) := of_decide_eq_true (by first | (with_reducible assumption) | assumption)
                                                            obtain ⟨ad173, e173, hx173_0⟩ := Kd.at_int (Kd.R_reads' HO_21.out).2.2 x24_7 p173 q173
                                                            cases e173
                                                            replace p173 := eq_true p173
                                                            replace q173 := eq_true q173
                                                            refine start_ (n := 17) (S := fun w' => w'.cell? (ad172.add ((ji52)).toNat) = some (.int .i64 (rd x16_7 (ji52))) ∧ w'.cell? (ad173.add (x24_7).toNat) = some (.int .i64 (rd t167 x24_7))) (ds := [14, 15]) #[false, false, false, false, false, false, false, false, false, false, false, false, false, false, false, false, false] (by kernel_rfl) rfl rfl ⟨hx172_0, hx173_0⟩ (fun hHeld => ?_); refine with_tabW spec_DeltaRead.tab28 spec_DeltaRead.bits28 (fun HT_ HW_ => ?_)
                                                            generalize wr.drew = w59 at HO_7 HO_16 HO_21 HB hx172_0 hx173_0 hHeld ⊢
                                                            refine pure_ (i := 0) (N := some 185) (v := ?_) (a' := ?_) #[true, false, false, false, false, false, false, false, false, false, false, false, false, false, false, false, false] rfl rfl (any_of HT_.out (by kernel_rfl)) (fun _ _ _ h => h) (Or.inl ⟨by rfl, ?_⟩) ?_ ?_
                                                            rotate_left
                                                            · intro w'
                                                              go_simp
                                                              with_reducible rfl
                                                            rotate_left
                                                            · simp only [Act.put, List.setIfInBounds_toArray, List.set_cons_zero, List.set_cons_succ, i64_w, i32_w]
                                                              rfl
                                                            refine pure_ (i := 1) (N := some 186) (v := ?_) (a' := ?_) #[true, true, false, false, false, false, false, false, false, false, false, false, false, false, false, false, false] rfl rfl (any_of HT_.out (by kernel_rfl)) (fun _ _ _ h => h) (Or.inl ⟨by rfl, ?_⟩) ?_ ?_
                                                            rotate_left
                                                            · intro w'
                                                              go_simp
                                                              with_reducible rfl
                                                            rotate_left
                                                            · simp only [Act.put, List.setIfInBounds_toArray, List.set_cons_zero, List.set_cons_succ, i64_w, i32_w]
                                                              rfl
                                                            refine pure_ (i := 2) (N := some 187) (v := ?_) (a' := ?_) #[true, true, true, false, false, false, false, false, false, false, false, false, false, false, false, false, false] rfl rfl (any_of HT_.out (by kernel_rfl)) (fun _ _ _ h => h) (Or.inl ⟨by rfl, ?_⟩) ?_ ?_
                                                            rotate_left
                                                            · intro w'
                                                              go_simp
                                                              with_reducible rfl
                                                            rotate_left
                                                            · simp only [Act.put, List.setIfInBounds_toArray, List.set_cons_zero, List.set_cons_succ, i64_w, i32_w]
                                                              rfl
                                                            refine pure_ (i := 3) (N := some 188) (v := ?_) (a' := ?_) #[true, true, true, true, false, false, false, false, false, false, false, false, false, false, false, false, false] rfl rfl (any_of HT_.out (by kernel_rfl)) (fun _ _ _ h => h) (Or.inl ⟨by rfl, ?_⟩) ?_ ?_
                                                            rotate_left
                                                            · intro w'
                                                              go_simp
                                                              with_reducible rfl
                                                            rotate_left
                                                            · simp only [Act.put, List.setIfInBounds_toArray, List.set_cons_zero, List.set_cons_succ, i64_w, i32_w]
                                                              rfl
                                                            refine pure_ (i := 4) (N := some 189) (v := ?_) (a' := ?_) #[true, true, true, true, true, false, false, false, false, false, false, false, false, false, false, false, false] rfl rfl (any_of HT_.out (by kernel_rfl)) (fun _ _ _ h => h) (Or.inl ⟨by rfl, ?_⟩) ?_ ?_
                                                            rotate_left
                                                            · intro w'
                                                              go_simp
                                                              with_reducible rfl
                                                            rotate_left
                                                            · simp only [Act.put, List.setIfInBounds_toArray, List.set_cons_zero, List.set_cons_succ, i64_w, i32_w]
                                                              rfl
                                                            refine pure_ (i := 5) (N := some 190) (v := ?_) (a' := ?_) #[true, true, true, true, true, true, false, false, false, false, false, false, false, false, false, false, false] rfl rfl (any_of HT_.out (by kernel_rfl)) (fun _ _ _ h => h) (Or.inl ⟨by rfl, ?_⟩) ?_ ?_
                                                            rotate_left
                                                            · intro w'
                                                              go_simp
                                                              with_reducible rfl
                                                            rotate_left
                                                            · simp only [Act.put, List.setIfInBounds_toArray, List.set_cons_zero, List.set_cons_succ, i64_w, i32_w]
                                                              rfl
                                                            refine pure_ (i := 7) (N := some 192) (v := ?_) (a' := ?_) #[true, true, true, true, true, true, false, true, false, false, false, false, false, false, false, false, false] rfl rfl (any_of HT_.out (by kernel_rfl)) (fun _ _ _ h => h) (Or.inl ⟨by rfl, ?_⟩) ?_ ?_
                                                            rotate_left
                                                            · intro w'
                                                              go_simp
                                                              with_reducible rfl
                                                            rotate_left
                                                            · simp only [Act.put, List.setIfInBounds_toArray, List.set_cons_zero, List.set_cons_succ, i64_w, i32_w]
                                                              rfl
                                                            refine pure_ (i := 8) (N := some 193) (v := ?_) (a' := ?_) #[true, true, true, true, true, true, false, true, true, false, false, false, false, false, false, false, false] rfl rfl (any_of HT_.out (by kernel_rfl)) (fun _ _ _ h => h) (Or.inl ⟨by rfl, ?_⟩) ?_ ?_
                                                            rotate_left
                                                            · intro w'
                                                              go_simp
                                                              with_reducible rfl
                                                            rotate_left
                                                            · simp only [Act.put, List.setIfInBounds_toArray, List.set_cons_zero, List.set_cons_succ, i64_w, i32_w]
                                                              rfl
                                                            refine pure_ (i := 9) (N := some 194) (v := ?_) (a' := ?_) #[true, true, true, true, true, true, false, true, true, true, false, false, false, false, false, false, false] rfl rfl (any_of HT_.out (by kernel_rfl)) (fun _ _ _ h => h) (Or.inl ⟨by rfl, ?_⟩) ?_ ?_
                                                            rotate_left
                                                            · intro w'
                                                              go_simp
                                                              with_reducible rfl
                                                            rotate_left
                                                            · simp only [Act.put, List.setIfInBounds_toArray, List.set_cons_zero, List.set_cons_succ, i64_w, i32_w]
                                                              rfl
                                                            refine pure_ (i := 12) (N := some 197) (v := ?_) (a' := ?_) #[true, true, true, true, true, true, false, true, true, true, false, false, true, false, false, false, false] rfl rfl (any_of HT_.out (by kernel_rfl)) (fun _ _ _ h => h) (Or.inl ⟨by rfl, ?_⟩) ?_ ?_
                                                            rotate_left
                                                            · intro w'
                                                              go_simp
                                                              with_reducible rfl
                                                            rotate_left
                                                            · simp only [Act.put, List.setIfInBounds_toArray, List.set_cons_zero, List.set_cons_succ, i64_w, i32_w]
                                                              rfl
                                                            refine take_ (i := 6) (N := some 191) (v := ?_) (a' := ?_) #[true, true, true, true, true, true, true, true, true, true, false, false, true, false, false, false, false] rfl rfl (take_ofW HT_.out HW_.out (by kernel_rfl)) (fun _ _ _ h => h) (Or.inl ⟨by rfl, ?_⟩) hHeld ?_ ?_
                                                            rotate_left
                                                            · rintro w' ⟨s0, s1⟩
                                                              go_simp
                                                              with_reducible rfl
                                                            rotate_left
                                                            · simp only [Act.put, List.setIfInBounds_toArray, List.set_cons_zero, List.set_cons_succ, i64_w, i32_w]
                                                              rfl
                                                            refine take_ (i := 10) (N := some 195) (v := ?_) (a' := ?_) #[true, true, true, true, true, true, true, true, true, true, true, false, true, false, false, false, false] rfl rfl (take_ofW HT_.out HW_.out (by kernel_rfl)) (fun _ _ _ h => h) (Or.inl ⟨by rfl, ?_⟩) hHeld ?_ ?_
                                                            rotate_left
                                                            · rintro w' ⟨s0, s1⟩
                                                              go_simp
                                                              with_reducible rfl
                                                            rotate_left
                                                            · simp only [Act.put, List.setIfInBounds_toArray, List.set_cons_zero, List.set_cons_succ, i64_w, i32_w]
                                                              rfl
                                                            refine pure_ (i := 11) (N := some 196) (v := ?_) (a' := ?_) #[true, true, true, true, true, true, true, true, true, true, true, true, true, false, false, false, false] rfl rfl (any_of HT_.out (by kernel_rfl)) (fun _ _ _ h => h) (Or.inl ⟨by rfl, ?_⟩) ?_ ?_
                                                            rotate_left
                                                            · intro w'
                                                              go_simp
                                                              with_reducible rfl
                                                            rotate_left
                                                            · simp only [Act.put, List.setIfInBounds_toArray, List.set_cons_zero, List.set_cons_succ, i64_w, i32_w]
                                                              rfl
                                                            refine pure_ (i := 13) (N := some 198) (v := ?_) (a' := ?_) #[true, true, true, true, true, true, true, true, true, true, true, true, true, true, false, false, false] rfl rfl (any_of HT_.out (by kernel_rfl)) (fun _ _ _ h => h) (Or.inl ⟨by rfl, ?_⟩) ?_ ?_
                                                            rotate_left
                                                            · intro w'
                                                              go_simp
                                                              with_reducible rfl
                                                            rotate_left
                                                            · simp only [Act.put, List.setIfInBounds_toArray, List.set_cons_zero, List.set_cons_succ, i64_w, i32_w]
                                                              rfl
                                                            refine last_ (i := 14) (N := some 199) #[true, true, true, true, true, true, true, true, true, true, true, true, true, true, true, false, false] rfl rfl (one_of HT_.out (by kernel_rfl)) (by decide) (fun K hK => ?_)
                                                            refine value_ (w1 := ?_) (v := ?_) (by rfl) rfl ?_ ?_
                                                            rotate_left 2
                                                            · go_simp
                                                              constructor
                                                              · rfl
                                                              · rfl
                                                            refine hK.out _ _ ?_
                                                            clear hK K
                                                            refine norm_ (a' := ?_) ?_ ?_
                                                            rotate_left
                                                            · show Act.put _ (some 199) _ = _
                                                              simp only [Act.put, List.setIfInBounds_toArray, List.set_cons_zero, List.set_cons_succ, i64_w, i32_w]
                                                              rfl
                                                            refine last_ (i := 15) (N := some 200) #[true, true, true, true, true, true, true, true, true, true, true, true, true, true, true, true, false] rfl rfl (one_of HT_.out (by kernel_rfl)) (by decide) (fun K hK => ?_)
                                                            refine Kd.R_append_step (Kd.int .i64) (w0 := w) w.heap.size (by rfl) (.tmp 185) (.tmp 199) 24 3 (.int .i64 0) 8 rfl Try.underlying24 info3 rfl (by decide) (by omega) (.slice (some ad172) x16_7.length co58) x16_7 (wrap64 ((wrap64 ((rd x16_7 (ji52)) + (rd t167 x24_7))) + t163)) [.int .i64 (wrap64 ((wrap64 ((rd x16_7 (ji52)) + (rd t167 x24_7))) + t163))] (fun k_ => some k_ ≠ (v139 : Value).ownBlock ∧ some k_ ≠ (.slice (some ad173) t167.length co57 : Value).ownBlock) (fun _ => False) rfl rfl ?aP (fun _ hk => hk.elim) ?aF ?aO ?aB ?aS ?aL ?_
                                                            (case aP => exact rfl)
                                                            (case aB => exact (below_later HB.out))
                                                            (case aF => exact (fun k_ hk => ⟨Kd.fresh' (Kd.R_lt (R_later HO_7.out)) k_ hk, Kd.fresh' (Kd.R_lt (R_later HO_21.out)) k_ hk⟩))
                                                            (case aO => exact (R_later HO_16.out))
                                                            (case aS => exact (below_size (below_later HB.out)))
                                                            (case aL => have := LMc56.out; omega)
                                                            intro v175 w60 ho hb hg hat
                                                            rw [← Ny174.out] at ho
                                                            have n0_ := Aside0.mk (Kd.R_after (ok := (fun k_ => some k_ ≠ (.slice (some ad173) t167.length co57 : Value).ownBlock)) (by (with_reducible repeat (first | apply Kd.R_alloc | apply Kd.R_drewN | apply Kd.R_drew)); exact Kd.R_mono HO_7.out (fun _ hk => ⟨hk.2, hk.1⟩)) hg hat)
                                                            have n1_ := Aside0.mk (Kd.R_after (ok := (fun k_ => some k_ ≠ (v139 : Value).ownBlock)) (R_later HO_21.out) hg hat)
                                                            have n2_ := Aside0.mk (hb)
                                                            have n3_ := Aside0.mk (ho)
                                                            clear HO_7
                                                            clear HO_21
                                                            clear HB
                                                            clear HO_16
                                                            have HO_7 := n0_
                                                            have HO_21 := n1_
                                                            have HB := n2_
                                                            have HO176 := n3_
                                                            clear n0_ n1_ n2_ n3_
                                                            clear ho hb hg hat
                                                            refine hK.out _ _ ?_
                                                            clear hK K
                                                            refine norm_ (a' := ?_) ?_ ?_
                                                            rotate_left
                                                            · show Act.put _ (some 200) _ = _
                                                              simp only [Act.put, List.setIfInBounds_toArray, List.set_cons_zero, List.set_cons_succ, i64_w, i32_w]
                                                              rfl
                                                            refine pure_ (i := 16) (N := some 16) (v := ?_) (a' := ?_) #[true, true, true, true, true, true, true, true, true, true, true, true, true, true, true, true, true] rfl rfl (any_of HT_.out (by kernel_rfl)) (fun _ _ _ h => h) (Or.inl ⟨by rfl, ?_⟩) ?_ ?_
                                                            rotate_left
                                                            · intro w'
                                                              go_simp
                                                              with_reducible rfl
                                                            rotate_left
                                                            · simp only [Act.put, List.setIfInBounds_toArray, List.set_cons_zero, List.set_cons_succ, i64_w, i32_w]
                                                              rfl
                                                            refine done_ (done_of HT_.out (by kernel_rfl)) ?_
                                                            try go_wp2
                                                            go_roundg k7
                                                            case measure => have := HJ8.out; have := HJ25.out; have := HK3.out; have := HJ33.out; have := HK5.out; have := HJ37.out; have := HK7.out; omega
                                                            case rel => exact ⟨(y174), (wrap64 (x24_7 + 1)), (by first | rfl | (simp; done) | (simp [*]; done)), H', ⟨by have := HJ8.out; have := HJ25.out; have := HK3.out; have := HJ33.out; have := HK5.out; have := HJ37.out; have := HK7.out; omega⟩, ⟨by (with_reducible repeat (first | apply Kd.R_alloc | apply Kd.R_drewN | apply Kd.R_drew)); exact Kd.R_mono HO_7.out (fun _ hk => ⟨hk.2, hk.1⟩)⟩, ⟨by (with_reducible repeat (first | apply Kd.R_alloc | apply Kd.R_drewN | apply Kd.R_drew)); exact HO176.out⟩, ⟨by (with_reducible repeat (first | apply Kd.R_alloc | apply Kd.R_drewN | apply Kd.R_drew)); exact HO_21.out⟩, ⟨below_later HB.out⟩⟩
                                                          · rw [if_neg c56] at H
                                                            exact absurd H (by simp)
                                                        · rw [if_neg c55] at H
                                                          exact absurd H (by simp)
                                                      · rw [if_neg c54] at H
                                                        exact absurd H (by simp)
                                                    · rw [if_neg c53] at H
                                                      exact absurd H (by simp)
                                                  · rw [if_neg c51] at H
                                                    have c51b0 : decide ((x16_7.length : Int) < t148) = false := decide_eq_false c51
                                                    clear c51
                                                    have H' := Aside0.mk H
                                                    clear H
                                                    obtain ⟨Ao61, co61, eo61⟩ := Kd.R_slice HO_21.out
                                                    subst eo61
                                                    obtain ⟨Ao62, co62, eo62⟩ := Kd.R_slice HO_16.out
                                                    subst eo62
                                                    go_wp2
                                                    go_roundg k7
                                                    case measure => have := HJ8.out; have := HJ25.out; have := HK3.out; have := HJ33.out; have := HK5.out; have := HJ37.out; have := HK7.out; omega
                                                    case rel => exact ⟨(t168), (x16_7), (wrap64 (x20_5 + 1)), (by first | rfl | (simp; done) | (simp [*]; done)), (by first | rfl | (simp; done) | (simp [*]; done)), H', ⟨by have := HJ8.out; have := HJ25.out; have := HK3.out; have := HJ33.out; have := HK5.out; have := HJ37.out; have := HK7.out; omega⟩, ⟨by (with_reducible repeat (first | apply Kd.R_alloc | apply Kd.R_drewN | apply Kd.R_drew)); exact Kd.R_mono HO_7.out (fun _ hk => hk.1)⟩, ⟨by (with_reducible repeat (first | apply Kd.R_alloc | apply Kd.R_drewN | apply Kd.R_drew)); exact Kd.R_mono HO_16.out (fun _ hk => hk.1)⟩, ⟨below_later HB.out⟩⟩
                                                · rw [if_neg c50] at H
                                                  have c50b0 : decide (x24_7 < (t167.length : Int)) = false := decide_eq_false c50
                                                  clear c50
                                                  have H' := Aside0.mk H
                                                  clear H
                                                  obtain ⟨Ao63, co63, eo63⟩ := Kd.R_slice HO_21.out
                                                  subst eo63
                                                  go_wp2
                                                  go_roundg k7
                                                  case measure => have := HJ8.out; have := HJ25.out; have := HK3.out; have := HJ33.out; have := HK5.out; have := HJ37.out; have := HK7.out; omega
                                                  case rel => exact ⟨(t168), (x16_7), (wrap64 (x20_5 + 1)), (by first | rfl | (simp; done) | (simp [*]; done)), (by first | rfl | (simp; done) | (simp [*]; done)), H', ⟨by have := HJ8.out; have := HJ25.out; have := HK3.out; have := HJ33.out; have := HK5.out; have := HJ37.out; have := HK7.out; omega⟩, ⟨by (with_reducible repeat (first | apply Kd.R_alloc | apply Kd.R_drewN | apply Kd.R_drew)); exact Kd.R_mono HO_7.out (fun _ hk => hk.1)⟩, ⟨by (with_reducible repeat (first | apply Kd.R_alloc | apply Kd.R_drewN | apply Kd.R_drew)); exact Kd.R_mono HO_16.out (fun _ hk => hk.1)⟩, ⟨below_later HB.out⟩⟩
                                          · replace c47 := Bool.eq_false_iff.mpr c47
                                            subst c47
                                            have H1 : (some (y138, 0, false)) = some (r1, r2, r3) := by rw [if_neg (show ¬ (false = true) by decide)] at H; exact H
                                            clear H
                                            have H := H1
                                            clear H1
                                            simp only [Option.some.injEq, Prod.mk.injEq] at H
                                            obtain ⟨rfl, rfl, rfl⟩ := H
                                            try go_wp2
                                            have n0_ := Aside0.mk (Kd.R_drew HO_7.out)
                                            have n1_ := Aside0.mk (Kd.R_drew HO_16.out)
                                            have n2_ := Aside0.mk (below_drew1 HB.out)
                                            clear HO_7
                                            clear HO_16
                                            clear HB
                                            have HO_7 := n0_
                                            have HO_16 := n1_
                                            have HB := n2_
                                            clear n0_ n1_ n2_
                                            have p166 : 0 ≤ ((ji43) : Int) := of_decide_eq_true (by first | (with_reducible assumption) | assumption)
                                            have q166 : (ji43) < (l0.length : Int) := of_decide_eq_true (by first | (with_reducible assumption) | assumption)
                                            obtain ⟨ad166, e166, hx166_0⟩ := Kd.at_int HR0.out (ji43) p166 q166
                                            have hw166_0 := hx166_0
                                            cases e166
                                            replace hx166_0 := (HB.out.cell (World.block_lt_of_cell? w _ hx166_0)).trans hx166_0
                                            replace p166 := eq_true p166
                                            replace q166 := eq_true q166
                                            refine start_ (n := 20) (S := fun w' => w'.cell? (ad166.add ((ji43)).toNat) = some (.int .u8 (rd l0 (ji43)))) (ds := []) #[false, false, false, false, false, false, false, false, false, false, false, false, false, false, false, false, false, false, false, false] (by kernel_rfl) rfl rfl (((HB.out.cell (World.block_lt_of_cell? w _ hw166_0)).trans hw166_0)) (fun hHeld => ?_); refine with_tabW spec_DeltaRead.tab21 spec_DeltaRead.bits21 (fun HT_ HW_ => ?_)
                                            generalize wc.drew = w64 at HO_7 HO_16 HB hx166_0 hHeld ⊢
                                            refine pure_ (i := 0) (N := some 153) (v := ?_) (a' := ?_) #[true, false, false, false, false, false, false, false, false, false, false, false, false, false, false, false, false, false, false, false] rfl rfl (any_of HT_.out (by kernel_rfl)) (fun _ _ _ h => h) (Or.inl ⟨by rfl, ?_⟩) ?_ ?_
                                            rotate_left
                                            · intro w'
                                              go_simp
                                              with_reducible rfl
                                            rotate_left
                                            · simp only [Act.put, List.setIfInBounds_toArray, List.set_cons_zero, List.set_cons_succ, i64_w, i32_w]
                                              rfl
                                            refine pure_ (i := 1) (N := some 154) (v := ?_) (a' := ?_) #[true, true, false, false, false, false, false, false, false, false, false, false, false, false, false, false, false, false, false, false] rfl rfl (any_of HT_.out (by kernel_rfl)) (fun _ _ _ h => h) (Or.inl ⟨by rfl, ?_⟩) ?_ ?_
                                            rotate_left
                                            · intro w'
                                              go_simp
                                              with_reducible rfl
                                            rotate_left
                                            · simp only [Act.put, List.setIfInBounds_toArray, List.set_cons_zero, List.set_cons_succ, i64_w, i32_w]
                                              rfl
                                            refine pure_ (i := 2) (N := some 155) (v := ?_) (a' := ?_) #[true, true, true, false, false, false, false, false, false, false, false, false, false, false, false, false, false, false, false, false] rfl rfl (any_of HT_.out (by kernel_rfl)) (fun _ _ _ h => h) (Or.inl ⟨by rfl, ?_⟩) ?_ ?_
                                            rotate_left
                                            · intro w'
                                              go_simp
                                              with_reducible rfl
                                            rotate_left
                                            · simp only [Act.put, List.setIfInBounds_toArray, List.set_cons_zero, List.set_cons_succ, i64_w, i32_w]
                                              rfl
                                            refine pure_ (i := 3) (N := some 156) (v := ?_) (a' := ?_) #[true, true, true, true, false, false, false, false, false, false, false, false, false, false, false, false, false, false, false, false] rfl rfl (any_of HT_.out (by kernel_rfl)) (fun _ _ _ h => h) (Or.inl ⟨by rfl, ?_⟩) ?_ ?_
                                            rotate_left
                                            · intro w'
                                              go_simp
                                              with_reducible rfl
                                            rotate_left
                                            · simp only [Act.put, List.setIfInBounds_toArray, List.set_cons_zero, List.set_cons_succ, i64_w, i32_w]
                                              rfl
                                            refine pure_ (i := 4) (N := some 157) (v := ?_) (a' := ?_) #[true, true, true, true, true, false, false, false, false, false, false, false, false, false, false, false, false, false, false, false] rfl rfl (any_of HT_.out (by kernel_rfl)) (fun _ _ _ h => h) (Or.inl ⟨by rfl, ?_⟩) ?_ ?_
                                            rotate_left
                                            · intro w'
                                              go_simp
                                              with_reducible rfl
                                            rotate_left
                                            · simp only [Act.put, List.setIfInBounds_toArray, List.set_cons_zero, List.set_cons_succ, i64_w, i32_w]
                                              rfl
                                            refine pure_ (i := 5) (N := some 158) (v := ?_) (a' := ?_) #[true, true, true, true, true, true, false, false, false, false, false, false, false, false, false, false, false, false, false, false] rfl rfl (any_of HT_.out (by kernel_rfl)) (fun _ _ _ h => h) (Or.inl ⟨by rfl, ?_⟩) ?_ ?_
                                            rotate_left
                                            · intro w'
                                              go_simp
                                              with_reducible rfl
                                            rotate_left
                                            · simp only [Act.put, List.setIfInBounds_toArray, List.set_cons_zero, List.set_cons_succ, i64_w, i32_w]
                                              rfl
                                            refine pure_ (i := 6) (N := some 159) (v := ?_) (a' := ?_) #[true, true, true, true, true, true, true, false, false, false, false, false, false, false, false, false, false, false, false, false] rfl rfl (any_of HT_.out (by kernel_rfl)) (fun _ _ _ h => h) (Or.inl ⟨by rfl, ?_⟩) ?_ ?_
                                            rotate_left
                                            · intro w'
                                              go_simp
                                              with_reducible rfl
                                            rotate_left
                                            · simp only [Act.put, List.setIfInBounds_toArray, List.set_cons_zero, List.set_cons_succ, i64_w, i32_w]
                                              rfl
                                            refine pure_ (i := 7) (N := some 160) (v := ?_) (a' := ?_) #[true, true, true, true, true, true, true, true, false, false, false, false, false, false, false, false, false, false, false, false] rfl rfl (any_of HT_.out (by kernel_rfl)) (fun _ _ _ h => h) (Or.inl ⟨by rfl, ?_⟩) ?_ ?_
                                            rotate_left
                                            · intro w'
                                              go_simp
                                              with_reducible rfl
                                            rotate_left
                                            · simp only [Act.put, List.setIfInBounds_toArray, List.set_cons_zero, List.set_cons_succ, i64_w, i32_w]
                                              rfl
                                            refine pure_ (i := 8) (N := some 161) (v := ?_) (a' := ?_) #[true, true, true, true, true, true, true, true, true, false, false, false, false, false, false, false, false, false, false, false] rfl rfl (any_of HT_.out (by kernel_rfl)) (fun _ _ _ h => h) (Or.inl ⟨by rfl, ?_⟩) ?_ ?_
                                            rotate_left
                                            · intro w'
                                              go_simp
                                              with_reducible rfl
                                            rotate_left
                                            · simp only [Act.put, List.setIfInBounds_toArray, List.set_cons_zero, List.set_cons_succ, i64_w, i32_w]
                                              rfl
                                            refine pure_ (i := 9) (N := some 162) (v := ?_) (a' := ?_) #[true, true, true, true, true, true, true, true, true, true, false, false, false, false, false, false, false, false, false, false] rfl rfl (any_of HT_.out (by kernel_rfl)) (fun _ _ _ h => h) (Or.inl ⟨by rfl, ?_⟩) ?_ ?_
                                            rotate_left
                                            · intro w'
                                              go_simp
                                              with_reducible rfl
                                            rotate_left
                                            · simp only [Act.put, List.setIfInBounds_toArray, List.set_cons_zero, List.set_cons_succ, i64_w, i32_w]
                                              rfl
                                            refine take_ (i := 10) (N := some 163) (v := ?_) (a' := ?_) #[true, true, true, true, true, true, true, true, true, true, true, false, false, false, false, false, false, false, false, false] rfl rfl (take_ofW HT_.out HW_.out (by kernel_rfl)) (fun _ _ _ h => h) (Or.inl ⟨by rfl, ?_⟩) hHeld ?_ ?_
                                            rotate_left
                                            · intro w' s0
                                              go_simp
                                              with_reducible rfl
                                            rotate_left
                                            · simp only [Act.put, List.setIfInBounds_toArray, List.set_cons_zero, List.set_cons_succ, i64_w, i32_w]
                                              rfl
                                            refine pure_ (i := 11) (N := some 164) (v := ?_) (a' := ?_) #[true, true, true, true, true, true, true, true, true, true, true, true, false, false, false, false, false, false, false, false] rfl rfl (any_of HT_.out (by kernel_rfl)) (fun _ _ _ h => h) (Or.inl ⟨by rfl, ?_⟩) ?_ ?_
                                            rotate_left
                                            · intro w'
                                              go_simp
                                              with_reducible rfl
                                            rotate_left
                                            · simp only [Act.put, List.setIfInBounds_toArray, List.set_cons_zero, List.set_cons_succ, i64_w, i32_w]
                                              rfl
                                            refine one_ (i := 12) (N := some 165) #[true, true, true, true, true, true, true, true, true, true, true, true, true, false, false, false, false, false, false, false] rfl rfl (one_of HT_.out (by kernel_rfl)) (by decide) (fun K hK => ?_)
                                            refine goes_ Try.func47 (by kernel_rfl) rfl #[.slice (some ad166) l0.length c0, .int .i64 x1_5, .int .i64 (wrap64 (Int.tdiv t142 t145)), .int .i64 (wrap64 (rd l0 (ji43)))] (by rfl) rfl rfl (by (try simp only [List.map_toArray, List.map_cons, List.map_nil]); first | done | (simp only [hji43]; rfl) | rfl | (simp only [List.length_drop, List.length_take]; rfl)) ?_
                                            with_reducible refine (spec_l9Mini.calls kj37 _ _ l0 x1_5 (wrap64 (Int.tdiv t142 t145)) (wrap64 (rd l0 (ji43))) t167 t168 false _ ?side1 ?side2 A46.out).mono ?_
                                            (case side1 => repeat (first | exact (Kd.C_below HR0.out HB.out) | (with_reducible refine Kd.C_alloc ?_ _) | (with_reducible refine Kd.C_drewN ?_ _) | (with_reducible refine Kd.C_drew ?_)))
                                            (case side2 => exact HC0.out)
                                            rintro e w65 ⟨v170, rfl, ho0, hb⟩
                                            refine ⟨_, rfl, ?_⟩
                                            have n0_ := Aside0.mk (Kd.R_elder' (R_later HO_7.out) (Kd.R_base ho0) hb)
                                            have n1_ := Aside0.mk (Kd.R_elder' (R_later HO_16.out) (Kd.R_base ho0) hb)
                                            have n2_ := Aside0.mk (Kd.R_lower (Kd.R_new' (Kd.R_new' ho0 (Kd.R_lt (R_later HO_7.out))) (Kd.R_lt (R_later HO_16.out))) (below_size (below_later HB.out)))
                                            have n3_ := Aside0.mk (below_step (below_later HB.out) hb)
                                            clear HO_7
                                            clear HO_16
                                            clear HB
                                            have HO_7 := n0_
                                            have HO_16 := n1_
                                            have HO171 := n2_
                                            have HB := n3_
                                            clear n0_ n1_ n2_ n3_
                                            (try clear hb)
                                            (try clear hb2)
                                            (try clear hk)
                                            (try clear hi)
                                            (try clear ho0)
                                            refine hK.out _ _ (((HB.out.cell (World.block_lt_of_cell? w _ hw166_0)).trans hw166_0)) (fun hHeld => ?_)
                                            clear hK K
                                            refine norm_ (a' := ?_) ?_ ?_
                                            rotate_left
                                            · show Act.put _ (some 165) _ = _
                                              simp only [Act.put, List.setIfInBounds_toArray, List.set_cons_zero, List.set_cons_succ, i64_w, i32_w]
                                              rfl
                                            refine pure_ (i := 13) (N := some 152) (v := ?_) (a' := ?_) #[true, true, true, true, true, true, true, true, true, true, true, true, true, true, false, false, false, false, false, false] rfl rfl (any_of HT_.out (by kernel_rfl)) (fun _ _ _ h => h) (Or.inl ⟨by rfl, ?_⟩) ?_ ?_
                                            rotate_left
                                            · intro w'
                                              go_simp
                                              with_reducible rfl
                                            rotate_left
                                            · simp only [Act.put, List.setIfInBounds_toArray, List.set_cons_zero, List.set_cons_succ, i64_w, i32_w]
                                              rfl
                                            refine pure_ (i := 14) (N := some 166) (v := ?_) (a' := ?_) #[true, true, true, true, true, true, true, true, true, true, true, true, true, true, true, false, false, false, false, false] rfl rfl (any_of HT_.out (by kernel_rfl)) (fun _ _ _ h => h) (Or.inl ⟨by rfl, ?_⟩) ?_ ?_
                                            rotate_left
                                            · intro w'
                                              go_simp
                                              with_reducible rfl
                                            rotate_left
                                            · simp only [Act.put, List.setIfInBounds_toArray, List.set_cons_zero, List.set_cons_succ, i64_w, i32_w]
                                              rfl
                                            refine pure_ (i := 15) (N := some 167) (v := ?_) (a' := ?_) #[true, true, true, true, true, true, true, true, true, true, true, true, true, true, true, true, false, false, false, false] rfl rfl (any_of HT_.out (by kernel_rfl)) (fun _ _ _ h => h) (Or.inl ⟨by rfl, ?_⟩) ?_ ?_
                                            rotate_left
                                            · intro w'
                                              go_simp
                                              with_reducible rfl
                                            rotate_left
                                            · simp only [Act.put, List.setIfInBounds_toArray, List.set_cons_zero, List.set_cons_succ, i64_w, i32_w]
                                              rfl
                                            refine pure_ (i := 16) (N := some 168) (v := ?_) (a' := ?_) #[true, true, true, true, true, true, true, true, true, true, true, true, true, true, true, true, true, false, false, false] rfl rfl (any_of HT_.out (by kernel_rfl)) (fun _ _ _ h => h) (Or.inl ⟨by rfl, ?_⟩) ?_ ?_
                                            rotate_left
                                            · intro w'
                                              go_simp
                                              with_reducible rfl
                                            rotate_left
                                            · simp only [Act.put, List.setIfInBounds_toArray, List.set_cons_zero, List.set_cons_succ, i64_w, i32_w]
                                              rfl
                                            refine pure_ (i := 17) (N := some 21) (v := ?_) (a' := ?_) #[true, true, true, true, true, true, true, true, true, true, true, true, true, true, true, true, true, true, false, false] rfl rfl (any_of HT_.out (by kernel_rfl)) (fun _ _ _ h => h) (Or.inl ⟨by rfl, ?_⟩) ?_ ?_
                                            rotate_left
                                            · intro w'
                                              go_simp
                                              with_reducible rfl
                                            rotate_left
                                            · simp only [Act.put, List.setIfInBounds_toArray, List.set_cons_zero, List.set_cons_succ, i64_w, i32_w]
                                              rfl
                                            refine pure_ (i := 18) (N := some 22) (v := ?_) (a' := ?_) #[true, true, true, true, true, true, true, true, true, true, true, true, true, true, true, true, true, true, true, false] rfl rfl (any_of HT_.out (by kernel_rfl)) (fun _ _ _ h => h) (Or.inl ⟨by rfl, ?_⟩) ?_ ?_
                                            rotate_left
                                            · intro w'
                                              go_simp
                                              with_reducible rfl
                                            rotate_left
                                            · simp only [Act.put, List.setIfInBounds_toArray, List.set_cons_zero, List.set_cons_succ, i64_w, i32_w]
                                              rfl
                                            refine pure_ (i := 19) (N := some 23) (v := ?_) (a' := ?_) #[true, true, true, true, true, true, true, true, true, true, true, true, true, true, true, true, true, true, true, true] rfl rfl (any_of HT_.out (by kernel_rfl)) (fun _ _ _ h => h) (Or.inl ⟨by rfl, ?_⟩) ?_ ?_
                                            rotate_left
                                            · intro w'
                                              go_simp
                                              with_reducible rfl
                                            rotate_left
                                            · simp only [Act.put, List.setIfInBounds_toArray, List.set_cons_zero, List.set_cons_succ, i64_w, i32_w]
                                              rfl
                                            refine done_ (done_of HT_.out (by kernel_rfl)) ?_
                                            try go_wp2
                                            go_ret3
                                            exact ⟨_, by first | rfl | (simp [errW_none, errW_some] <;> rfl) | (simp only [← hji43]; first | rfl | (simp [errW_none, errW_some] <;> rfl)) | (simp [*, errW_none, errW_some] <;> rfl), by (with_reducible repeat (first | apply Kd.R_alloc | apply Kd.R_drewN | apply Kd.R_drew)); exact Kd.R_mono HO_7.out (fun _ hk => trivial), below_later HB.out⟩
                                        · rw [if_neg c45] at H
                                          exact absurd H (by simp)
                                      · rw [if_neg c44] at H
                                        exact absurd H (by simp)
                                  · replace c41 := Bool.eq_false_iff.mpr c41
                                    subst c41
                                    have H1 : (spec_DeltaRead.l0 kj37 l0 x1_5 y138 t142 t145 t148 x16_5) = some (r1, r2, r3) := by rw [if_neg (show ¬ (false = true) by decide)] at H; exact H
                                    clear H
                                    have H := H1
                                    clear H1
                                    have H' := Aside0.mk H
                                    clear H
                                    go_wp2
                                    go_roundg kj37
                                    case measure => have := HJ8.out; have := HJ25.out; have := HK3.out; have := HJ33.out; have := HK5.out; have := HJ37.out; omega
                                    case rel => exact ⟨(x1_5), (x16_5), (by first | rfl | (simp; done) | (simp [*]; done)), H', ⟨by have := HJ8.out; have := HJ25.out; have := HK3.out; have := HJ33.out; have := HK5.out; have := HJ37.out; omega⟩, ⟨by (with_reducible repeat (first | apply Kd.R_alloc | apply Kd.R_drewN | apply Kd.R_drew)); exact HO_7.out⟩, ⟨by (with_reducible repeat (first | apply Kd.R_alloc | apply Kd.R_drewN | apply Kd.R_drew)); exact HO_16.out⟩, ⟨below_later HB.out⟩⟩
                  · rw [if_neg c32] at H
                    have c32b0 : decide ((x16_3.length : Int) < t148) = false := decide_eq_false c32
                    clear c32
                    simp only [Option.some.injEq, Prod.mk.injEq] at H
                    obtain ⟨rfl, rfl, rfl⟩ := H
                    obtain ⟨Ao66, co66, eo66⟩ := Kd.R_slice HO_16.out
                    subst eo66
                    go_wp2
                    go_ret3
                    exact ⟨_, by first | rfl | (simp [errW_none, errW_some] <;> rfl) | (simp [*, errW_none, errW_some] <;> rfl), by (with_reducible repeat (first | apply Kd.R_alloc | apply Kd.R_drewN | apply Kd.R_drew)); exact Kd.R_mono HO_16.out (fun _ hk => trivial), below_later HB.out⟩
  · replace c4 := Bool.eq_false_iff.mpr c4
    subst c4
    have H1 : (some (y138, 0, false)) = some (r1, r2, r3) := by rw [if_neg (show ¬ (false = true) by decide)] at H; exact H
    clear H
    have H := H1
    clear H1
    simp only [Option.some.injEq, Prod.mk.injEq] at H
    obtain ⟨rfl, rfl, rfl⟩ := H
    go_enter Try.func15, Try.ntmps15
    go_wp2_with (first | ((with_reducible refine gate_dst (N := 25) rfl ?_); (try (refine gate_guard (by rfl) ?_; dsimp only)); refine Kd.R_lit (Kd.int .i64) _ 3 ?hg (N := 25) ?hd (xs := ([] : List Int)) (inner := []) (ok := fun _ => True) (okp := fun _ => True) ?hr ?hp (fun _ hk => hk) trivial (Below.refl _ _) (Nat.le_refl _) (by simp) ?_; (case hd => rfl); (case hg => rfl); (case hr => first | (go_simp; done) | (go_simp; rfl)); (case hp => exact (Reps.none _ _)); intro v139 w67 ho68 hb hg_ hnew_; clear hg_ hnew_; (first | rw [← Ny138.out] at ho68 | (simp only [Int.reduceToNat] at ho68; rw [← Ny138.out] at ho68)); have n0_ := Aside0.mk (Kd.R_lower ho68 (below_size (below_later HB.out))); have n1_ := Aside0.mk (below_step (below_later HB.out) hb); clear HB; have HO140 := n0_; have HB := n1_; clear n0_ n1_; clear hb ho68) | ((with_reducible refine gate_callee (f := 44) rfl ?_); refine goesL_ (some 29) rfl rfl Try.func44 (by kernel_rfl) rfl #[.int .i64 a1, .int .i64 0, .int .i64 (l0.length : Int)] rfl (by (try simp only [List.map_toArray, List.map_cons, List.map_nil]); first | done | rfl | (simp only [List.length_drop, List.length_take]; rfl)) ?_; (with_reducible refine (spec_l1In.calls a1 0 (l0.length : Int) false _ A3.out).mono ?_); rintro e w' ⟨rfl, ⟨nd, rfl⟩⟩; refine ⟨_, rfl, ?_⟩))
    go_ret3
    exact ⟨_, by first | rfl | (simp [errW_none, errW_some] <;> rfl) | (simp [*, errW_none, errW_some] <;> rfl), by (with_reducible repeat (first | apply Kd.R_alloc | apply Kd.R_drewN | apply Kd.R_drew)); exact HO140.out, below_later HB.out⟩

end Go.Proofs.Ytgcanbeckamjeaa.PFnExactFrontRead
