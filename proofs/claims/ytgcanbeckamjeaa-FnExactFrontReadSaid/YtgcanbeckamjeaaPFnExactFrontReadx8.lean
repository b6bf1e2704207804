/- The machine's side of FnExactFrontRead, written by wip/tools/hyb.py of this repo: each Go function as a plain Lean function, and the proof that the call comes to just its answer. No condition. -/
import Derived.Test.YtgcanbeckamjeaaPFnExactFrontReadx0
import Derived.Test.YtgcanbeckamjeaaPFnExactFrontReadx5
import Derived.Test.YtgcanbeckamjeaaPFnExactFrontReadx6
import Derived.Test.YtgcanbeckamjeaaPFnExactFrontReadx7
namespace Go.Proofs.Ytgcanbeckamjeaa.PFnExactFrontRead
open Go.RowKit Go.Proofs.YtgcanbeckamjeaaW.PrintWords Go.Proofs.YtgcanbeckamjeaaW.PrintLast Go.Proofs.YtgcanbeckamjeaaW.PrintMore Go.Proofs.YtgcanbeckamjeaaW.PrintMore2
attribute [local go_sem] max2_int min2_int max_two min_two max_three min_three max_four min_four   -- for this text's walks alone
set_option linter.unusedVariables false
set_option linter.unusedSimpArgs false

/-! ### impl_DeltaRead: function 11 -/
mutual
def impl_DeltaRead.j0 : Nat → List Int → Int → Int → Int → Int → Bool → List Int → Int → Bool → List Int → Option (List Int × Int × Bool)
  | 0, _, _, _, _, _, _, _, _, _, _ => none
  | k + 1, x0, x8, x9, x10, x11, x58, x248000, x248001, x248002, x248003 => if x58 = true then (some (([] : List Int), 0, false)) else (if x9 = 0 then (none) else (if (Int.tmod x8 x9) = 0 then (impl_DeltaRead.j1 k x0 x8 x9 x10 x11 ((Int.tmod (wrap64 (Int.tdiv x8 x9)) 32) != 0) x248000 x248001 x248002 x248003) else (impl_DeltaRead.j1 k x0 x8 x9 x10 x11 true x248000 x248001 x248002 x248003)))
def impl_DeltaRead.j1 : Nat → List Int → Int → Int → Int → Int → Bool → List Int → Int → Bool → List Int → Option (List Int × Int × Bool)
  | 0, _, _, _, _, _, _, _, _, _, _ => none
  | k + 1, x0, x8, x9, x10, x11, x69, x248000, x248001, x248002, x248003 => if x69 = true then (some (([] : List Int), 0, false)) else (if x10 = 0 then (some (([] : List Int), x248001, true)) else (if x9 = 0 then (none) else (impl_DeltaRead.l0 k x0 x9 x10 (wrap64 (Int.tdiv x8 x9)) x248000 x248001 x248002 (([x11] : List Int)))))
def impl_DeltaRead.l0 : Nat → List Int → Int → Int → Int → List Int → Int → Bool → List Int → Option (List Int × Int × Bool)
  | 0, _, _, _, _, _, _, _, _ => none
  | k + 1, x0, x9, x10, x12, x248000, x248001, x248002, x248003 => if (x248003.length : Int) < x10 then (impl_DeltaRead.j3 k x0 x9 x10 x12 (!x248002) x248000 x248001 x248002 x248003) else (impl_DeltaRead.j3 k x0 x9 x10 x12 false x248000 x248001 x248002 x248003)
def impl_DeltaRead.j3 : Nat → List Int → Int → Int → Int → Bool → List Int → Int → Bool → List Int → Option (List Int × Int × Bool)
  | 0, _, _, _, _, _, _, _, _, _ => none
  | k + 1, x0, x9, x10, x12, x97, x248000, x248001, x248002, x248003 => if x97 = true then ((impl_deltaReader_uvar.f k x248000 x248001 x248002 x248003).bind fun bt279 => ((impl_Zag.f bt279.1).bind fun t285 => ((impl_deltaReader_take.f x248000 bt279.2.1 bt279.2.2.1 bt279.2.2.2 x9).bind fun bt286 => (impl_DeltaRead.l1 k x0 x9 x10 x12 t285 bt286.1 0 x248000 bt286.2.1 bt286.2.2.1 bt286.2.2.2)))) else (if x248002 = true then (some (([] : List Int), 0, false)) else (some (x248003, x248001, true)))
def impl_DeltaRead.l1 : Nat → List Int → Int → Int → Int → Int → Int → Int → List Int → Int → Bool → List Int → Option (List Int × Int × Bool)
  | 0, _, _, _, _, _, _, _, _, _, _, _ => none
  | k + 1, x0, x9, x10, x12, x13, x14, x15, x248000, x248001, x248002, x248003 => if x15 < x9 then (if (x248003.length : Int) < x10 then (if x248002 = true then (impl_DeltaRead.l0 k x0 x9 x10 x12 x248000 x248001 x248002 x248003) else (if 0 ≤ (wrap64 (x14 + x15)) then (if (wrap64 (x14 + x15)) < (x0.length : Int) then ((impl_deltaReader_mini.f k x248000 x248001 x248002 x248003 x12 (wrap64 (rd x0 (wrap64 (x14 + x15)))) x13 (wrap64 (x10 - (x248003.length : Int)))).bind fun bt293 => (impl_DeltaRead.l1 k x0 x9 x10 x12 x13 x14 (wrap64 (x15 + 1)) x248000 bt293.1 bt293.2.1 bt293.2.2)) else (none)) else (none))) else (impl_DeltaRead.l0 k x0 x9 x10 x12 x248000 x248001 x248002 x248003)) else (impl_DeltaRead.l0 k x0 x9 x10 x12 x248000 x248001 x248002 x248003)
end
def impl_DeltaRead.f (k : Nat) (l0 : List Int) (a1 : Int) : Option (List Int × Int × Bool) := (impl_within.f a1 0 (l0.length : Int)).bind fun t246 => (if t246 = true then ((impl_deltaReader_uvar.f k l0 a1 false ([] : List Int)).bind fun bt248 => ((impl_deltaReader_uvar.f k l0 bt248.2.1 bt248.2.2.1 bt248.2.2.2).bind fun bt254 => ((impl_deltaReader_uvar.f k l0 bt254.2.1 bt254.2.2.1 bt254.2.2.2).bind fun bt260 => ((impl_deltaReader_uvar.f k l0 bt260.2.1 bt260.2.2.1 bt260.2.2.2).bind fun bt266 => ((impl_Zag.f bt266.1).bind fun t272 => (if bt266.2.2.1 = true then (impl_DeltaRead.j0 k l0 bt248.1 bt254.1 bt260.1 t272 true l0 bt266.2.1 bt266.2.2.1 bt266.2.2.2) else ((impl_within.f bt248.1 128 1024).bind fun t273 => (if t273 = true then (if (Int.tmod bt248.1 128) = 0 then ((impl_within.f bt254.1 1 bt248.1).bind fun t274 => (if t274 = true then ((impl_within.f bt260.1 0 2000).bind fun t275 => (impl_DeltaRead.j0 k l0 bt248.1 bt254.1 bt260.1 t272 (!t275) l0 bt266.2.1 bt266.2.2.1 bt266.2.2.2)) else (impl_DeltaRead.j0 k l0 bt248.1 bt254.1 bt260.1 t272 true l0 bt266.2.1 bt266.2.2.1 bt266.2.2.2))) else (impl_DeltaRead.j0 k l0 bt248.1 bt254.1 bt260.1 t272 true l0 bt266.2.1 bt266.2.2.1 bt266.2.2.2)) else (impl_DeltaRead.j0 k l0 bt248.1 bt254.1 bt260.1 t272 true l0 bt266.2.1 bt266.2.2.1 bt266.2.2.2))))))))) else (some (([] : List Int), 0, false)))
theorem impl_DeltaRead.mono_l : ∀ k, (∀ y0 y1 y2 y3 y4 y5 y6 y7 y8 y9, LeO (impl_DeltaRead.j0 k y0 y1 y2 y3 y4 y5 y6 y7 y8 y9) (impl_DeltaRead.j0 (k + 1) y0 y1 y2 y3 y4 y5 y6 y7 y8 y9)) ∧ (∀ y0 y1 y2 y3 y4 y5 y6 y7 y8 y9, LeO (impl_DeltaRead.j1 k y0 y1 y2 y3 y4 y5 y6 y7 y8 y9) (impl_DeltaRead.j1 (k + 1) y0 y1 y2 y3 y4 y5 y6 y7 y8 y9)) ∧ (∀ y0 y1 y2 y3 y4 y5 y6 y7, LeO (impl_DeltaRead.l0 k y0 y1 y2 y3 y4 y5 y6 y7) (impl_DeltaRead.l0 (k + 1) y0 y1 y2 y3 y4 y5 y6 y7)) ∧ (∀ y0 y1 y2 y3 y4 y5 y6 y7 y8, LeO (impl_DeltaRead.j3 k y0 y1 y2 y3 y4 y5 y6 y7 y8) (impl_DeltaRead.j3 (k + 1) y0 y1 y2 y3 y4 y5 y6 y7 y8)) ∧ (∀ y0 y1 y2 y3 y4 y5 y6 y7 y8 y9 y10, LeO (impl_DeltaRead.l1 k y0 y1 y2 y3 y4 y5 y6 y7 y8 y9 y10) (impl_DeltaRead.l1 (k + 1) y0 y1 y2 y3 y4 y5 y6 y7 y8 y9 y10))
  | 0 => ⟨fun _ _ _ _ _ _ _ _ _ _ r h => by simp [impl_DeltaRead.j0] at h, fun _ _ _ _ _ _ _ _ _ _ r h => by simp [impl_DeltaRead.j1] at h, fun _ _ _ _ _ _ _ _ r h => by simp [impl_DeltaRead.l0] at h, fun _ _ _ _ _ _ _ _ _ r h => by simp [impl_DeltaRead.j3] at h, fun _ _ _ _ _ _ _ _ _ _ _ r h => by simp [impl_DeltaRead.l1] at h⟩
  | k + 1 => by
    obtain ⟨ih0, ih1, ih2, ih3, ih4⟩ := impl_DeltaRead.mono_l k
    refine ⟨?_, ?_, ?_, ?_, ?_⟩
    · intro y0 y1 y2 y3 y4 y5 y6 y7 y8 y9
      unfold impl_DeltaRead.j0
      repeat' first
      | (with_reducible exact ih0 _ _ _ _ _ _ _ _ _ _)
      | (with_reducible exact ih1 _ _ _ _ _ _ _ _ _ _)
      | (with_reducible exact ih2 _ _ _ _ _ _ _ _)
      | (with_reducible exact ih3 _ _ _ _ _ _ _ _ _)
      | (with_reducible exact ih4 _ _ _ _ _ _ _ _ _ _ _)
      | (with_reducible exact impl_deltaReader_mini.mono _ _ _ _ _ _ _ _ _)
      | (with_reducible exact impl_deltaReader_uvar.mono _ _ _ _ _)
      | (with_reducible exact LeO.refl _)
      | (with_reducible exact LeO.none _)
      | (with_reducible refine LeO.ite ?_ ?_)
      | (with_reducible refine LeO.bind ?_ (fun _ => ?_))
      | exact ih0 _ _ _ _ _ _ _ _ _ _
      | exact ih1 _ _ _ _ _ _ _ _ _ _
      | exact ih2 _ _ _ _ _ _ _ _
      | exact ih3 _ _ _ _ _ _ _ _ _
      | exact ih4 _ _ _ _ _ _ _ _ _ _ _
      | exact impl_deltaReader_mini.mono _ _ _ _ _ _ _ _ _
      | exact impl_deltaReader_uvar.mono _ _ _ _ _
      | exact LeO.none _
      | refine LeO.ite ?_ ?_
      | refine LeO.bind ?_ (fun _ => ?_)
    · intro y0 y1 y2 y3 y4 y5 y6 y7 y8 y9
      unfold impl_DeltaRead.j1
      repeat' first
      | (with_reducible exact ih0 _ _ _ _ _ _ _ _ _ _)
      | (with_reducible exact ih1 _ _ _ _ _ _ _ _ _ _)
      | (with_reducible exact ih2 _ _ _ _ _ _ _ _)
      | (with_reducible exact ih3 _ _ _ _ _ _ _ _ _)
      | (with_reducible exact ih4 _ _ _ _ _ _ _ _ _ _ _)
      | (with_reducible exact impl_deltaReader_mini.mono _ _ _ _ _ _ _ _ _)
      | (with_reducible exact impl_deltaReader_uvar.mono _ _ _ _ _)
      | (with_reducible exact LeO.refl _)
      | (with_reducible exact LeO.none _)
      | (with_reducible refine LeO.ite ?_ ?_)
      | (with_reducible refine LeO.bind ?_ (fun _ => ?_))
      | exact ih0 _ _ _ _ _ _ _ _ _ _
      | exact ih1 _ _ _ _ _ _ _ _ _ _
      | exact ih2 _ _ _ _ _ _ _ _
      | exact ih3 _ _ _ _ _ _ _ _ _
      | exact ih4 _ _ _ _ _ _ _ _ _ _ _
      | exact impl_deltaReader_mini.mono _ _ _ _ _ _ _ _ _
      | exact impl_deltaReader_uvar.mono _ _ _ _ _
      | exact LeO.none _
      | refine LeO.ite ?_ ?_
      | refine LeO.bind ?_ (fun _ => ?_)
    · intro y0 y1 y2 y3 y4 y5 y6 y7
      unfold impl_DeltaRead.l0
      repeat' first
      | (with_reducible exact ih0 _ _ _ _ _ _ _ _ _ _)
      | (with_reducible exact ih1 _ _ _ _ _ _ _ _ _ _)
      | (with_reducible exact ih2 _ _ _ _ _ _ _ _)
      | (with_reducible exact ih3 _ _ _ _ _ _ _ _ _)
      | (with_reducible exact ih4 _ _ _ _ _ _ _ _ _ _ _)
      | (with_reducible exact impl_deltaReader_mini.mono _ _ _ _ _ _ _ _ _)
      | (with_reducible exact impl_deltaReader_uvar.mono _ _ _ _ _)
      | (with_reducible exact LeO.refl _)
      | (with_reducible exact LeO.none _)
      | (with_reducible refine LeO.ite ?_ ?_)
      | (with_reducible refine LeO.bind ?_ (fun _ => ?_))
      | exact ih0 _ _ _ _ _ _ _ _ _ _
      | exact ih1 _ _ _ _ _ _ _ _ _ _
      | exact ih2 _ _ _ _ _ _ _ _
      | exact ih3 _ _ _ _ _ _ _ _ _
      | exact ih4 _ _ _ _ _ _ _ _ _ _ _
      | exact impl_deltaReader_mini.mono _ _ _ _ _ _ _ _ _
      | exact impl_deltaReader_uvar.mono _ _ _ _ _
      | exact LeO.none _
      | refine LeO.ite ?_ ?_
      | refine LeO.bind ?_ (fun _ => ?_)
    · intro y0 y1 y2 y3 y4 y5 y6 y7 y8
      unfold impl_DeltaRead.j3
      repeat' first
      | (with_reducible exact ih0 _ _ _ _ _ _ _ _ _ _)
      | (with_reducible exact ih1 _ _ _ _ _ _ _ _ _ _)
      | (with_reducible exact ih2 _ _ _ _ _ _ _ _)
      | (with_reducible exact ih3 _ _ _ _ _ _ _ _ _)
      | (with_reducible exact ih4 _ _ _ _ _ _ _ _ _ _ _)
      | (with_reducible exact impl_deltaReader_mini.mono _ _ _ _ _ _ _ _ _)
      | (with_reducible exact impl_deltaReader_uvar.mono _ _ _ _ _)
      | (with_reducible exact LeO.refl _)
      | (with_reducible exact LeO.none _)
      | (with_reducible refine LeO.ite ?_ ?_)
      | (with_reducible refine LeO.bind ?_ (fun _ => ?_))
      | exact ih0 _ _ _ _ _ _ _ _ _ _
      | exact ih1 _ _ _ _ _ _ _ _ _ _
      | exact ih2 _ _ _ _ _ _ _ _
      | exact ih3 _ _ _ _ _ _ _ _ _
      | exact ih4 _ _ _ _ _ _ _ _ _ _ _
      | exact impl_deltaReader_mini.mono _ _ _ _ _ _ _ _ _
      | exact impl_deltaReader_uvar.mono _ _ _ _ _
      | exact LeO.none _
      | refine LeO.ite ?_ ?_
      | refine LeO.bind ?_ (fun _ => ?_)
    · intro y0 y1 y2 y3 y4 y5 y6 y7 y8 y9 y10
      unfold impl_DeltaRead.l1
      repeat' first
      | (with_reducible exact ih0 _ _ _ _ _ _ _ _ _ _)
      | (with_reducible exact ih1 _ _ _ _ _ _ _ _ _ _)
      | (with_reducible exact ih2 _ _ _ _ _ _ _ _)
      | (with_reducible exact ih3 _ _ _ _ _ _ _ _ _)
      | (with_reducible exact ih4 _ _ _ _ _ _ _ _ _ _ _)
      | (with_reducible exact impl_deltaReader_mini.mono _ _ _ _ _ _ _ _ _)
      | (with_reducible exact impl_deltaReader_uvar.mono _ _ _ _ _)
      | (with_reducible exact LeO.refl _)
      | (with_reducible exact LeO.none _)
      | (with_reducible refine LeO.ite ?_ ?_)
      | (with_reducible refine LeO.bind ?_ (fun _ => ?_))
      | exact ih0 _ _ _ _ _ _ _ _ _ _
      | exact ih1 _ _ _ _ _ _ _ _ _ _
      | exact ih2 _ _ _ _ _ _ _ _
      | exact ih3 _ _ _ _ _ _ _ _ _
      | exact ih4 _ _ _ _ _ _ _ _ _ _ _
      | exact impl_deltaReader_mini.mono _ _ _ _ _ _ _ _ _
      | exact impl_deltaReader_uvar.mono _ _ _ _ _
      | exact LeO.none _
      | refine LeO.ite ?_ ?_
      | refine LeO.bind ?_ (fun _ => ?_)
theorem impl_DeltaRead.mono : ∀ a0 a1 k, LeO (impl_DeltaRead.f k a0 a1) (impl_DeltaRead.f (k + 1) a0 a1) := by
  intro a0 a1 k
  obtain ⟨ih0, ih1, ih2, ih3, ih4⟩ := impl_DeltaRead.mono_l k
  unfold impl_DeltaRead.f
  repeat' first
      | (with_reducible exact ih0 _ _ _ _ _ _ _ _ _ _)
      | (with_reducible exact ih1 _ _ _ _ _ _ _ _ _ _)
      | (with_reducible exact ih2 _ _ _ _ _ _ _ _)
      | (with_reducible exact ih3 _ _ _ _ _ _ _ _ _)
      | (with_reducible exact ih4 _ _ _ _ _ _ _ _ _ _ _)
      | (with_reducible exact impl_deltaReader_mini.mono _ _ _ _ _ _ _ _ _)
      | (with_reducible exact impl_deltaReader_uvar.mono _ _ _ _ _)
      | (with_reducible exact LeO.refl _)
      | (with_reducible exact LeO.none _)
      | (with_reducible refine LeO.ite ?_ ?_)
      | (with_reducible refine LeO.bind ?_ (fun _ => ?_))
      | exact ih0 _ _ _ _ _ _ _ _ _ _
      | exact ih1 _ _ _ _ _ _ _ _ _ _
      | exact ih2 _ _ _ _ _ _ _ _
      | exact ih3 _ _ _ _ _ _ _ _ _
      | exact ih4 _ _ _ _ _ _ _ _ _ _ _
      | exact impl_deltaReader_mini.mono _ _ _ _ _ _ _ _ _
      | exact impl_deltaReader_uvar.mono _ _ _ _ _
      | exact LeO.none _
      | refine LeO.ite ?_ ?_
      | refine LeO.bind ?_ (fun _ => ?_)
def impl_DeltaRead.T22 : Bool × List (List Nat × List Nat) := (true, [([], []), ([], []), ([], []), ([], []), ([], []), ([3, 4], [3, 4]), ([2, 5], [2, 5]), ([6], [6]), ([7], [7]), ([], []), ([], []), ([], []), ([11], [11]), ([12], [12]), ([13], [13]), ([14], [14]), ([10, 15], [10, 15]), ([0, 1, 8, 9, 16], [0, 1, 8, 9, 16])])
def impl_DeltaRead.B22 : List Nat := [0, 0, 0, 0, 0, 24, 60, 124, 252, 0, 0, 0, 2048, 6144, 14336, 30720, 64512, 131071]
theorem impl_DeltaRead.tab22 : rtab .any (opsOf Try.f11 22) = impl_DeltaRead.T22 := by kernel_rfl
theorem impl_DeltaRead.bits22 : waitsOk impl_DeltaRead.T22.2 impl_DeltaRead.B22 = true := by kernel_rfl
def impl_DeltaRead.T25 : Bool × List (List Nat × List Nat) := (true, [([], []), ([0], [0]), ([1], [1]), ([2], [2]), ([], []), ([4], [4]), ([5], [5]), ([6], [6]), ([3, 0, 1, 2, 3], [3]), ([7, 8, 0, 1, 2, 3, 4, 5, 6, 7, 8], [7]), ([9, 0, 1, 2, 3, 4, 5, 6, 7, 8, 9], [])])
def impl_DeltaRead.B25 : List Nat := [0, 1, 3, 7, 0, 16, 48, 112, 15, 511, 1023]
theorem impl_DeltaRead.tab25 : rtab .any (opsOf Try.f11 25) = impl_DeltaRead.T25 := by kernel_rfl
theorem impl_DeltaRead.bits25 : waitsOk impl_DeltaRead.T25.2 impl_DeltaRead.B25 = true := by kernel_rfl
set_option maxHeartbeats 8000000 in
set_option maxRecDepth 100000 in
theorem impl_DeltaRead.calls (k : Nat) (A0 : Option Addr) (c0 : Nat) (l0 : List Int) (a1 : Int) (r1 : List Int) (r2 : Int) (r3 : Bool) (w : World) (hr0 : Kd.C (Kd.int .u8) w A0 l0.length l0) (hc0 : l0.length ≤ c0) (h : impl_DeltaRead.f k l0 a1 = some (r1, r2, r3)) :
    Calls Try.prog 11 #[.slice A0 l0.length c0, .int .i64 a1] w fun e w' => ∃ v0_ : Value, e = .returned (.tuple #[v0_, .int .i64 r2, .bool r3]) ∧ Kd.R (Kd.int .i64) 3 w' w.heap.size (fun _ => True) v0_ r1 ∧ Below w.heap.size w w' := by
  have hu51 := Try.underlying51
  have HR0 := Aside0.mk hr0
  have HC0 := Aside0.mk hc0
  clear hr0 hc0
  have HB := Aside0.mk (Below.refl w.heap.size w)
  have H : ((impl_within.f a1 0 (l0.length : Int)).bind fun t246 => (if t246 = true then ((impl_deltaReader_uvar.f k l0 a1 false ([] : List Int)).bind fun bt248 => ((impl_deltaReader_uvar.f k l0 bt248.2.1 bt248.2.2.1 bt248.2.2.2).bind fun bt254 => ((impl_deltaReader_uvar.f k l0 bt254.2.1 bt254.2.2.1 bt254.2.2.2).bind fun bt260 => ((impl_deltaReader_uvar.f k l0 bt260.2.1 bt260.2.2.1 bt260.2.2.2).bind fun bt266 => ((impl_Zag.f bt266.1).bind fun t272 => (if bt266.2.2.1 = true then (impl_DeltaRead.j0 k l0 bt248.1 bt254.1 bt260.1 t272 true l0 bt266.2.1 bt266.2.2.1 bt266.2.2.2) else ((impl_within.f bt248.1 128 1024).bind fun t273 => (if t273 = true then (if (Int.tmod bt248.1 128) = 0 then ((impl_within.f bt254.1 1 bt248.1).bind fun t274 => (if t274 = true then ((impl_within.f bt260.1 0 2000).bind fun t275 => (impl_DeltaRead.j0 k l0 bt248.1 bt254.1 bt260.1 t272 (!t275) l0 bt266.2.1 bt266.2.2.1 bt266.2.2.2)) else (impl_DeltaRead.j0 k l0 bt248.1 bt254.1 bt260.1 t272 true l0 bt266.2.1 bt266.2.2.1 bt266.2.2.2))) else (impl_DeltaRead.j0 k l0 bt248.1 bt254.1 bt260.1 t272 true l0 bt266.2.1 bt266.2.2.1 bt266.2.2.2)) else (impl_DeltaRead.j0 k l0 bt248.1 bt254.1 bt260.1 t272 true l0 bt266.2.1 bt266.2.2.1 bt266.2.2.2))))))))) else (some (([] : List Int), 0, false)))) = some (r1, r2, r3) := h
  clear h
  replace H := Option.bind_eq_some_iff.mp H
  obtain ⟨t246, A30, H⟩ := H
  replace H : (if t246 = true then ((impl_deltaReader_uvar.f k l0 a1 false ([] : List Int)).bind fun bt248 => ((impl_deltaReader_uvar.f k l0 bt248.2.1 bt248.2.2.1 bt248.2.2.2).bind fun bt254 => ((impl_deltaReader_uvar.f k l0 bt254.2.1 bt254.2.2.1 bt254.2.2.2).bind fun bt260 => ((impl_deltaReader_uvar.f k l0 bt260.2.1 bt260.2.2.1 bt260.2.2.2).bind fun bt266 => ((impl_Zag.f bt266.1).bind fun t272 => (if bt266.2.2.1 = true then (impl_DeltaRead.j0 k l0 bt248.1 bt254.1 bt260.1 t272 true l0 bt266.2.1 bt266.2.2.1 bt266.2.2.2) else ((impl_within.f bt248.1 128 1024).bind fun t273 => (if t273 = true then (if (Int.tmod bt248.1 128) = 0 then ((impl_within.f bt254.1 1 bt248.1).bind fun t274 => (if t274 = true then ((impl_within.f bt260.1 0 2000).bind fun t275 => (impl_DeltaRead.j0 k l0 bt248.1 bt254.1 bt260.1 t272 (!t275) l0 bt266.2.1 bt266.2.2.1 bt266.2.2.2)) else (impl_DeltaRead.j0 k l0 bt248.1 bt254.1 bt260.1 t272 true l0 bt266.2.1 bt266.2.2.1 bt266.2.2.2))) else (impl_DeltaRead.j0 k l0 bt248.1 bt254.1 bt260.1 t272 true l0 bt266.2.1 bt266.2.2.1 bt266.2.2.2)) else (impl_DeltaRead.j0 k l0 bt248.1 bt254.1 bt260.1 t272 true l0 bt266.2.1 bt266.2.2.1 bt266.2.2.2))))))))) else (some (([] : List Int), 0, false))) = some (r1, r2, r3) := H
  have A3 := Aside0.mk A30
  clear A30
  by_cases c4 : t246 = true
  · subst c4
    have H1 : ((impl_deltaReader_uvar.f k l0 a1 false ([] : List Int)).bind fun bt248 => ((impl_deltaReader_uvar.f k l0 bt248.2.1 bt248.2.2.1 bt248.2.2.2).bind fun bt254 => ((impl_deltaReader_uvar.f k l0 bt254.2.1 bt254.2.2.1 bt254.2.2.2).bind fun bt260 => ((impl_deltaReader_uvar.f k l0 bt260.2.1 bt260.2.2.1 bt260.2.2.2).bind fun bt266 => ((impl_Zag.f bt266.1).bind fun t272 => (if bt266.2.2.1 = true then (impl_DeltaRead.j0 k l0 bt248.1 bt254.1 bt260.1 t272 true l0 bt266.2.1 bt266.2.2.1 bt266.2.2.2) else ((impl_within.f bt248.1 128 1024).bind fun t273 => (if t273 = true then (if (Int.tmod bt248.1 128) = 0 then ((impl_within.f bt254.1 1 bt248.1).bind fun t274 => (if t274 = true then ((impl_within.f bt260.1 0 2000).bind fun t275 => (impl_DeltaRead.j0 k l0 bt248.1 bt254.1 bt260.1 t272 (!t275) l0 bt266.2.1 bt266.2.2.1 bt266.2.2.2)) else (impl_DeltaRead.j0 k l0 bt248.1 bt254.1 bt260.1 t272 true l0 bt266.2.1 bt266.2.2.1 bt266.2.2.2))) else (impl_DeltaRead.j0 k l0 bt248.1 bt254.1 bt260.1 t272 true l0 bt266.2.1 bt266.2.2.1 bt266.2.2.2)) else (impl_DeltaRead.j0 k l0 bt248.1 bt254.1 bt260.1 t272 true l0 bt266.2.1 bt266.2.2.1 bt266.2.2.2))))))))) = some (r1, r2, r3) := by rw [if_pos rfl] at H; exact H
    clear H
    have H := H1
    clear H1
    replace H := Option.bind_eq_some_iff.mp H
    obtain ⟨⟨t248, t249, t250, t251⟩, A50, H⟩ := H
    replace H : ((impl_deltaReader_uvar.f k l0 t249 t250 t251).bind fun bt254 => ((impl_deltaReader_uvar.f k l0 bt254.2.1 bt254.2.2.1 bt254.2.2.2).bind fun bt260 => ((impl_deltaReader_uvar.f k l0 bt260.2.1 bt260.2.2.1 bt260.2.2.2).bind fun bt266 => ((impl_Zag.f bt266.1).bind fun t272 => (if bt266.2.2.1 = true then (impl_DeltaRead.j0 k l0 t248 bt254.1 bt260.1 t272 true l0 bt266.2.1 bt266.2.2.1 bt266.2.2.2) else ((impl_within.f t248 128 1024).bind fun t273 => (if t273 = true then (if (Int.tmod t248 128) = 0 then ((impl_within.f bt254.1 1 t248).bind fun t274 => (if t274 = true then ((impl_within.f bt260.1 0 2000).bind fun t275 => (impl_DeltaRead.j0 k l0 t248 bt254.1 bt260.1 t272 (!t275) l0 bt266.2.1 bt266.2.2.1 bt266.2.2.2)) else (impl_DeltaRead.j0 k l0 t248 bt254.1 bt260.1 t272 true l0 bt266.2.1 bt266.2.2.1 bt266.2.2.2))) else (impl_DeltaRead.j0 k l0 t248 bt254.1 bt260.1 t272 true l0 bt266.2.1 bt266.2.2.1 bt266.2.2.2)) else (impl_DeltaRead.j0 k l0 t248 bt254.1 bt260.1 t272 true l0 bt266.2.1 bt266.2.2.1 bt266.2.2.2)))))))) = some (r1, r2, r3) := H
    have A5 := Aside0.mk A50
    clear A50
    replace H := Option.bind_eq_some_iff.mp H
    obtain ⟨⟨t254, t255, t256, t257⟩, A60, H⟩ := H
    replace H : ((impl_deltaReader_uvar.f k l0 t255 t256 t257).bind fun bt260 => ((impl_deltaReader_uvar.f k l0 bt260.2.1 bt260.2.2.1 bt260.2.2.2).bind fun bt266 => ((impl_Zag.f bt266.1).bind fun t272 => (if bt266.2.2.1 = true then (impl_DeltaRead.j0 k l0 t248 t254 bt260.1 t272 true l0 bt266.2.1 bt266.2.2.1 bt266.2.2.2) else ((impl_within.f t248 128 1024).bind fun t273 => (if t273 = true then (if (Int.tmod t248 128) = 0 then ((impl_within.f t254 1 t248).bind fun t274 => (if t274 = true then ((impl_within.f bt260.1 0 2000).bind fun t275 => (impl_DeltaRead.j0 k l0 t248 t254 bt260.1 t272 (!t275) l0 bt266.2.1 bt266.2.2.1 bt266.2.2.2)) else (impl_DeltaRead.j0 k l0 t248 t254 bt260.1 t272 true l0 bt266.2.1 bt266.2.2.1 bt266.2.2.2))) else (impl_DeltaRead.j0 k l0 t248 t254 bt260.1 t272 true l0 bt266.2.1 bt266.2.2.1 bt266.2.2.2)) else (impl_DeltaRead.j0 k l0 t248 t254 bt260.1 t272 true l0 bt266.2.1 bt266.2.2.1 bt266.2.2.2))))))) = some (r1, r2, r3) := H
    have A6 := Aside0.mk A60
    clear A60
    replace H := Option.bind_eq_some_iff.mp H
    obtain ⟨⟨t260, t261, t262, t263⟩, A70, H⟩ := H
    replace H : ((impl_deltaReader_uvar.f k l0 t261 t262 t263).bind fun bt266 => ((impl_Zag.f bt266.1).bind fun t272 => (if bt266.2.2.1 = true then (impl_DeltaRead.j0 k l0 t248 t254 t260 t272 true l0 bt266.2.1 bt266.2.2.1 bt266.2.2.2) else ((impl_within.f t248 128 1024).bind fun t273 => (if t273 = true then (if (Int.tmod t248 128) = 0 then ((impl_within.f t254 1 t248).bind fun t274 => (if t274 = true then ((impl_within.f t260 0 2000).bind fun t275 => (impl_DeltaRead.j0 k l0 t248 t254 t260 t272 (!t275) l0 bt266.2.1 bt266.2.2.1 bt266.2.2.2)) else (impl_DeltaRead.j0 k l0 t248 t254 t260 t272 true l0 bt266.2.1 bt266.2.2.1 bt266.2.2.2))) else (impl_DeltaRead.j0 k l0 t248 t254 t260 t272 true l0 bt266.2.1 bt266.2.2.1 bt266.2.2.2)) else (impl_DeltaRead.j0 k l0 t248 t254 t260 t272 true l0 bt266.2.1 bt266.2.2.1 bt266.2.2.2)))))) = some (r1, r2, r3) := H
    have A7 := Aside0.mk A70
    clear A70
    replace H := Option.bind_eq_some_iff.mp H
    obtain ⟨⟨t266, t267, t268, t269⟩, A80, H⟩ := H
    replace H : ((impl_Zag.f t266).bind fun t272 => (if t268 = true then (impl_DeltaRead.j0 k l0 t248 t254 t260 t272 true l0 t267 t268 t269) else ((impl_within.f t248 128 1024).bind fun t273 => (if t273 = true then (if (Int.tmod t248 128) = 0 then ((impl_within.f t254 1 t248).bind fun t274 => (if t274 = true then ((impl_within.f t260 0 2000).bind fun t275 => (impl_DeltaRead.j0 k l0 t248 t254 t260 t272 (!t275) l0 t267 t268 t269)) else (impl_DeltaRead.j0 k l0 t248 t254 t260 t272 true l0 t267 t268 t269))) else (impl_DeltaRead.j0 k l0 t248 t254 t260 t272 true l0 t267 t268 t269)) else (impl_DeltaRead.j0 k l0 t248 t254 t260 t272 true l0 t267 t268 t269))))) = some (r1, r2, r3) := H
    have A8 := Aside0.mk A80
    clear A80
    replace H := Option.bind_eq_some_iff.mp H
    obtain ⟨t272, A90, H⟩ := H
    replace H : (if t268 = true then (impl_DeltaRead.j0 k l0 t248 t254 t260 t272 true l0 t267 t268 t269) else ((impl_within.f t248 128 1024).bind fun t273 => (if t273 = true then (if (Int.tmod t248 128) = 0 then ((impl_within.f t254 1 t248).bind fun t274 => (if t274 = true then ((impl_within.f t260 0 2000).bind fun t275 => (impl_DeltaRead.j0 k l0 t248 t254 t260 t272 (!t275) l0 t267 t268 t269)) else (impl_DeltaRead.j0 k l0 t248 t254 t260 t272 true l0 t267 t268 t269))) else (impl_DeltaRead.j0 k l0 t248 t254 t260 t272 true l0 t267 t268 t269)) else (impl_DeltaRead.j0 k l0 t248 t254 t260 t272 true l0 t267 t268 t269)))) = some (r1, r2, r3) := H
    have A9 := Aside0.mk A90
    clear A90
    have HC10 := Aside0.mk H
    clear H
    go_enter Try.func11, Try.ntmps11
    go_upto_region 8 with (first | ((with_reducible refine gate_callee (f := 39) rfl ?_); refine goesL_ (some 19) rfl rfl Try.func39 (by kernel_rfl) rfl #[.int .i64 a1, .int .i64 0, .int .i64 (l0.length : Int)] rfl (by (try simp only [List.map_toArray, List.map_cons, List.map_nil]); first | done | rfl | (simp only [List.length_drop, List.length_take]; rfl)) ?_; (with_reducible refine (impl_within.calls a1 0 (l0.length : Int) true _ A3.out).mono ?_); rintro e w' ⟨rfl, ⟨nd, rfl⟩⟩; refine ⟨_, rfl, ?_⟩) | ((with_reducible refine gate_dst (N := 24) rfl ?_); (try (refine gate_guard (by rfl) ?_; dsimp only)); refine box_event ?hg (N := 24) ?hd (cs := #[.slice A0 l0.length c0, .int .i64 a1, .bool false, .slice none 0 0]) (t := 51) ?hr ?_; (case hd => rfl); (case hg => rfl); (case hr => first | (go_simp; done) | (go_simp; rfl)); intro gb247 hg w11 hbox hb; have n0_ := Aside0.mk (below_step (below_later HB.out) hb); have n1_ := Aside0.mk (hbox); have n2_ := Aside0.mk ((by rw [hg]; exact (below_size (below_later HB.out)) : w.heap.size ≤ gb247)); have n3_ := Aside0.mk ((by rw [hg]; exact (below_size (below_later HB.out)) : w.heap.size ≤ gb247)); clear HB; have HB := n0_; have BK247 := n1_; have GW247 := n2_; have GE247 := n3_; clear n0_ n1_ n2_ n3_; clear hb hbox hg) | ((with_reducible refine gate_callee (f := 40) rfl ?_); refine goesL_ (some 26) rfl rfl Try.func40 (by kernel_rfl) rfl #[.pointer (some ⟨gb247, 0, none⟩)] rfl (by (try simp only [List.map_toArray, List.map_cons, List.map_nil]); first | done | rfl | (simp only [List.length_drop, List.length_take]; rfl)) ?_; (with_reducible refine (impl_deltaReader_uvar.calls k gb247 A0 c0 l0 a1 false (.slice none 0 0) ([] : List Int) t248 t249 t250 t251 w _ HR0.out HC0.out ?side1 ?side2 ?side3 GE247.out A5.out).mono ?_); (case side1 => exact (blk_later BK247.out)); (case side2 => exact (Kd.R_nil _ _ _ _ _)); (case side3 => exact (below_later HB.out)); rintro e w12 ⟨v252, rfl, hbox, ho, hb⟩; refine ⟨_, rfl, ?_⟩; have n0_ := Aside0.mk (hbox); have n1_ := Aside0.mk (ho); have n2_ := Aside0.mk (hb); clear BK247; clear HB; have BK247 := n0_; have HO253 := n1_; have HB := n2_; clear n0_ n1_ n2_; clear hbox ho hb; obtain ⟨Ao13, co13, eo13⟩ := Kd.R_slice HO253.out; subst eo13) | ((with_reducible refine gate_callee (f := 40) rfl ?_); refine goesL_ (some 28) rfl rfl Try.func40 (by kernel_rfl) rfl #[.pointer (some ⟨gb247, 0, none⟩)] rfl (by (try simp only [List.map_toArray, List.map_cons, List.map_nil]); first | done | rfl | (simp only [List.length_drop, List.length_take]; rfl)) ?_; (with_reducible refine (impl_deltaReader_uvar.calls k gb247 A0 c0 l0 t249 t250 (.slice Ao13 t251.length co13) t251 t254 t255 t256 t257 w _ HR0.out HC0.out ?side1 ?side2 ?side3 GE247.out A6.out).mono ?_); (case side1 => exact (blk_later BK247.out)); (case side2 => exact (R_later HO253.out)); (case side3 => exact (below_later HB.out)); rintro e w14 ⟨v258, rfl, hbox, ho, hb⟩; refine ⟨_, rfl, ?_⟩; have n0_ := Aside0.mk (hbox); have n1_ := Aside0.mk (ho); have n2_ := Aside0.mk (hb); clear BK247; clear HB; clear HO253; have BK247 := n0_; have HO259 := n1_; have HB := n2_; clear n0_ n1_ n2_; clear hbox ho hb; obtain ⟨Ao15, co15, eo15⟩ := Kd.R_slice HO259.out; subst eo15) | ((with_reducible refine gate_callee (f := 40) rfl ?_); refine goesL_ (some 30) rfl rfl Try.func40 (by kernel_rfl) rfl #[.pointer (some ⟨gb247, 0, none⟩)] rfl (by (try simp only [List.map_toArray, List.map_cons, List.map_nil]); first | done | rfl | (simp only [List.length_drop, List.length_take]; rfl)) ?_; (with_reducible refine (impl_deltaReader_uvar.calls k gb247 A0 c0 l0 t255 t256 (.slice Ao15 t257.length co15) t257 t260 t261 t262 t263 w _ HR0.out HC0.out ?side1 ?side2 ?side3 GE247.out A7.out).mono ?_); (case side1 => exact (blk_later BK247.out)); (case side2 => exact (R_later HO259.out)); (case side3 => exact (below_later HB.out)); rintro e w16 ⟨v264, rfl, hbox, ho, hb⟩; refine ⟨_, rfl, ?_⟩; have n0_ := Aside0.mk (hbox); have n1_ := Aside0.mk (ho); have n2_ := Aside0.mk (hb); clear BK247; clear HB; clear HO259; have BK247 := n0_; have HO265 := n1_; have HB := n2_; clear n0_ n1_ n2_; clear hbox ho hb; obtain ⟨Ao17, co17, eo17⟩ := Kd.R_slice HO265.out; subst eo17) | ((with_reducible refine gate_callee (f := 40) rfl ?_); refine goesL_ (some 32) rfl rfl Try.func40 (by kernel_rfl) rfl #[.pointer (some ⟨gb247, 0, none⟩)] rfl (by (try simp only [List.map_toArray, List.map_cons, List.map_nil]); first | done | rfl | (simp only [List.length_drop, List.length_take]; rfl)) ?_; (with_reducible refine (impl_deltaReader_uvar.calls k gb247 A0 c0 l0 t261 t262 (.slice Ao17 t263.length co17) t263 t266 t267 t268 t269 w _ HR0.out HC0.out ?side1 ?side2 ?side3 GE247.out A8.out).mono ?_); (case side1 => exact (blk_later BK247.out)); (case side2 => exact (R_later HO265.out)); (case side3 => exact (below_later HB.out)); rintro e w18 ⟨v270, rfl, hbox, ho, hb⟩; refine ⟨_, rfl, ?_⟩; have n0_ := Aside0.mk (hbox); have n1_ := Aside0.mk (ho); have n2_ := Aside0.mk (hb); clear BK247; clear HB; clear HO265; have BK247 := n0_; have HO271 := n1_; have HB := n2_; clear n0_ n1_ n2_; clear hbox ho hb) | ((with_reducible refine gate_callee (f := 41) rfl ?_); refine goesL_ (some 33) rfl rfl Try.func41 (by kernel_rfl) rfl #[.int .i64 t266] rfl (by (try simp only [List.map_toArray, List.map_cons, List.map_nil]); first | done | rfl | (simp only [List.length_drop, List.length_take]; rfl)) ?_; (with_reducible refine (impl_Zag.calls t266 t272 _ A9.out).mono ?_); rintro e w' ⟨rfl, ⟨nd, rfl⟩⟩; refine ⟨_, rfl, ?_⟩))
    (try simp only [Act.put, List.setIfInBounds_toArray, List.set_cons_zero, List.set_cons_succ])
    go_cut [58] (fun v58 wc => ∃ (kq : Nat) (x58_9 : Bool), v58 = .bool x58_9 ∧ Aside0 (impl_DeltaRead.j0 kq l0 t248 t254 t260 t272 x58_9 l0 t267 t268 t269 = some (r1, r2, r3)) ∧ Aside0 (kq ≤ k) ∧ Aside0 (Kd.R (Kd.int .i64) 3 wc w.heap.size (fun _ => True) v270 t269) ∧ Aside0 (wc.heap[gb247]? = some (.cells #[(.slice A0 l0.length c0), .int .i64 t267, .bool t268, v270] 51 (0, 0))) ∧ Aside0 (Below w.heap.size w wc))
    case first =>
      have H := HC10.out
      clear HC10
      by_cases c19 : t268 = true
      · subst c19
        have H1 : (impl_DeltaRead.j0 k l0 t248 t254 t260 t272 true l0 t267 true t269) = some (r1, r2, r3) := by rw [if_pos rfl] at H; exact H
        clear H
        have H := H1
        clear H1
        have H' := Aside0.mk H
        clear H
        have hcz20_0 : w18.cell? ⟨gb247, 0, none⟩ = some (.slice A0 l0.length c0) := (blk_cell BK247.out 0).trans rfl
        have hcz20_1 : w18.cell? ⟨gb247, 1, none⟩ = some (.int .i64 t267) := (blk_cell BK247.out 1).trans rfl
        have hcz20_2 : w18.cell? ⟨gb247, 2, none⟩ = some (.bool true) := (blk_cell BK247.out 2).trans rfl
        have hcz20_3 : w18.cell? ⟨gb247, 3, none⟩ = some (v270) := (blk_cell BK247.out 3).trans rfl
        have hfz20_0 := blk_frozen BK247.out 0
        have hfz20_1 := blk_frozen BK247.out 1
        have hfz20_2 := blk_frozen BK247.out 2
        have hfz20_3 := blk_frozen BK247.out 3
        go_wp2
        go_meet
        case rel => exact ⟨_, (true), (by first | rfl | (simp; done) | (simp [*]; done)), H', ⟨by first | omega | exact Nat.le_refl _⟩, ⟨by (with_reducible repeat (first | apply Kd.R_alloc | apply Kd.R_drewN | apply Kd.R_drew)); exact HO271.out⟩, ⟨by (with_reducible repeat (first | refine blk_drewN ?_ _ | refine blk_drew ?_ | refine blk_alloc ?_ _)); exact BK247.out⟩, ⟨below_later HB.out⟩⟩
      · replace c19 := Bool.eq_false_iff.mpr c19
        subst c19
        have H1 : ((impl_within.f t248 128 1024).bind fun t273 => (if t273 = true then (if (Int.tmod t248 128) = 0 then ((impl_within.f t254 1 t248).bind fun t274 => (if t274 = true then ((impl_within.f t260 0 2000).bind fun t275 => (impl_DeltaRead.j0 k l0 t248 t254 t260 t272 (!t275) l0 t267 false t269)) else (impl_DeltaRead.j0 k l0 t248 t254 t260 t272 true l0 t267 false t269))) else (impl_DeltaRead.j0 k l0 t248 t254 t260 t272 true l0 t267 false t269)) else (impl_DeltaRead.j0 k l0 t248 t254 t260 t272 true l0 t267 false t269))) = some (r1, r2, r3) := by rw [if_neg (show ¬ (false = true) by decide)] at H; exact H
        clear H
        have H := H1
        clear H1
        replace H := Option.bind_eq_some_iff.mp H
        obtain ⟨t273, A210, H⟩ := H
        replace H : (if t273 = true then (if (Int.tmod t248 128) = 0 then ((impl_within.f t254 1 t248).bind fun t274 => (if t274 = true then ((impl_within.f t260 0 2000).bind fun t275 => (impl_DeltaRead.j0 k l0 t248 t254 t260 t272 (!t275) l0 t267 false t269)) else (impl_DeltaRead.j0 k l0 t248 t254 t260 t272 true l0 t267 false t269))) else (impl_DeltaRead.j0 k l0 t248 t254 t260 t272 true l0 t267 false t269)) else (impl_DeltaRead.j0 k l0 t248 t254 t260 t272 true l0 t267 false t269)) = some (r1, r2, r3) := H
        have A21 := Aside0.mk A210
        clear A210
        by_cases c22 : t273 = true
        · subst c22
          have H1 : (if (Int.tmod t248 128) = 0 then ((impl_within.f t254 1 t248).bind fun t274 => (if t274 = true then ((impl_within.f t260 0 2000).bind fun t275 => (impl_DeltaRead.j0 k l0 t248 t254 t260 t272 (!t275) l0 t267 false t269)) else (impl_DeltaRead.j0 k l0 t248 t254 t260 t272 true l0 t267 false t269))) else (impl_DeltaRead.j0 k l0 t248 t254 t260 t272 true l0 t267 false t269)) = some (r1, r2, r3) := by rw [if_pos rfl] at H; exact H
          clear H
          have H := H1
          clear H1
          by_cases c23 : (Int.tmod t248 128) = 0
          · rw [if_pos c23] at H
            have c23b0 : ((Int.tmod t248 128) == 0) = true := beq_iff_eq.mpr c23
            have c23b1 : ((Int.tmod t248 128) != 0) = false := bne_eq_false_iff_eq.mpr c23
            clear c23
            (first | rw [c23b0] | rw [c23b1] | (simp only [i64_w, i32_w]; rw [c23b0]) | skip)
            replace H := Option.bind_eq_some_iff.mp H
            obtain ⟨t274, A240, H⟩ := H
            replace H : (if t274 = true then ((impl_within.f t260 0 2000).bind fun t275 => (impl_DeltaRead.j0 k l0 t248 t254 t260 t272 (!t275) l0 t267 false t269)) else (impl_DeltaRead.j0 k l0 t248 t254 t260 t272 true l0 t267 false t269)) = some (r1, r2, r3) := H
            have A24 := Aside0.mk A240
            clear A240
            by_cases c25 : t274 = true
            · subst c25
              have H1 : ((impl_within.f t260 0 2000).bind fun t275 => (impl_DeltaRead.j0 k l0 t248 t254 t260 t272 (!t275) l0 t267 false t269)) = some (r1, r2, r3) := by rw [if_pos rfl] at H; exact H
              clear H
              have H := H1
              clear H1
              replace H := Option.bind_eq_some_iff.mp H
              obtain ⟨t275, A260, H⟩ := H
              replace H : (impl_DeltaRead.j0 k l0 t248 t254 t260 t272 (!t275) l0 t267 false t269) = some (r1, r2, r3) := H
              have A26 := Aside0.mk A260
              clear A260
              have H' := Aside0.mk H
              clear H
              have hcz27_0 : w18.cell? ⟨gb247, 0, none⟩ = some (.slice A0 l0.length c0) := (blk_cell BK247.out 0).trans rfl
              have hcz27_1 : w18.cell? ⟨gb247, 1, none⟩ = some (.int .i64 t267) := (blk_cell BK247.out 1).trans rfl
              have hcz27_2 : w18.cell? ⟨gb247, 2, none⟩ = some (.bool false) := (blk_cell BK247.out 2).trans rfl
              have hcz27_3 : w18.cell? ⟨gb247, 3, none⟩ = some (v270) := (blk_cell BK247.out 3).trans rfl
              have hfz27_0 := blk_frozen BK247.out 0
              have hfz27_1 := blk_frozen BK247.out 1
              have hfz27_2 := blk_frozen BK247.out 2
              have hfz27_3 := blk_frozen BK247.out 3
              go_wp2_with (first | (go_at_call 39; (with_reducible refine (impl_within.calls t248 128 1024 true _ A21.out).mono ?_); rintro e w' ⟨rfl, ⟨nd, rfl⟩⟩) | (go_at_call 39; (with_reducible refine (impl_within.calls t254 1 t248 true _ A24.out).mono ?_); rintro e w' ⟨rfl, ⟨nd, rfl⟩⟩) | (go_at_call 39; (with_reducible refine (impl_within.calls t260 0 2000 t275 _ A26.out).mono ?_); rintro e w' ⟨rfl, ⟨nd, rfl⟩⟩))
              go_meet
              case rel => exact ⟨_, (!t275), (by first | rfl | (simp; done) | (simp [*]; done)), H', ⟨by first | omega | exact Nat.le_refl _⟩, ⟨by (with_reducible repeat (first | apply Kd.R_alloc | apply Kd.R_drewN | apply Kd.R_drew)); exact HO271.out⟩, ⟨by (with_reducible repeat (first | refine blk_drewN ?_ _ | refine blk_drew ?_ | refine blk_alloc ?_ _)); exact BK247.out⟩, ⟨below_later HB.out⟩⟩
            · replace c25 := Bool.eq_false_iff.mpr c25
              subst c25
              have H1 : (impl_DeltaRead.j0 k l0 t248 t254 t260 t272 true l0 t267 false t269) = some (r1, r2, r3) := by rw [if_neg (show ¬ (false = true) by decide)] at H; exact H
              clear H
              have H := H1
              clear H1
              have H' := Aside0.mk H
              clear H
              have hcz28_0 : w18.cell? ⟨gb247, 0, none⟩ = some (.slice A0 l0.length c0) := (blk_cell BK247.out 0).trans rfl
              have hcz28_1 : w18.cell? ⟨gb247, 1, none⟩ = some (.int .i64 t267) := (blk_cell BK247.out 1).trans rfl
              have hcz28_2 : w18.cell? ⟨gb247, 2, none⟩ = some (.bool false) := (blk_cell BK247.out 2).trans rfl
              have hcz28_3 : w18.cell? ⟨gb247, 3, none⟩ = some (v270) := (blk_cell BK247.out 3).trans rfl
              have hfz28_0 := blk_frozen BK247.out 0
              have hfz28_1 := blk_frozen BK247.out 1
              have hfz28_2 := blk_frozen BK247.out 2
              have hfz28_3 := blk_frozen BK247.out 3
              go_wp2_with (first | (go_at_call 39; (with_reducible refine (impl_within.calls t248 128 1024 true _ A21.out).mono ?_); rintro e w' ⟨rfl, ⟨nd, rfl⟩⟩) | (go_at_call 39; (with_reducible refine (impl_within.calls t254 1 t248 false _ A24.out).mono ?_); rintro e w' ⟨rfl, ⟨nd, rfl⟩⟩))
              go_meet
              case rel => exact ⟨_, (true), (by first | rfl | (simp; done) | (simp [*]; done)), H', ⟨by first | omega | exact Nat.le_refl _⟩, ⟨by (with_reducible repeat (first | apply Kd.R_alloc | apply Kd.R_drewN | apply Kd.R_drew)); exact HO271.out⟩, ⟨by (with_reducible repeat (first | refine blk_drewN ?_ _ | refine blk_drew ?_ | refine blk_alloc ?_ _)); exact BK247.out⟩, ⟨below_later HB.out⟩⟩
          · rw [if_neg c23] at H
            have c23b0 : ((Int.tmod t248 128) == 0) = false := beq_eq_false_iff_ne.mpr c23
            have c23b1 : ((Int.tmod t248 128) != 0) = true := bne_iff_ne.mpr c23
            (first | rw [c23b0] | rw [c23b1] | (simp only [i64_w, i32_w]; rw [c23b0]) | skip)
            have H' := Aside0.mk H
            clear H
            have hcz29_0 : w18.cell? ⟨gb247, 0, none⟩ = some (.slice A0 l0.length c0) := (blk_cell BK247.out 0).trans rfl
            have hcz29_1 : w18.cell? ⟨gb247, 1, none⟩ = some (.int .i64 t267) := (blk_cell BK247.out 1).trans rfl
            have hcz29_2 : w18.cell? ⟨gb247, 2, none⟩ = some (.bool false) := (blk_cell BK247.out 2).trans rfl
            have hcz29_3 : w18.cell? ⟨gb247, 3, none⟩ = some (v270) := (blk_cell BK247.out 3).trans rfl
            have hfz29_0 := blk_frozen BK247.out 0
            have hfz29_1 := blk_frozen BK247.out 1
            have hfz29_2 := blk_frozen BK247.out 2
            have hfz29_3 := blk_frozen BK247.out 3
            go_wp2_with (first | (go_at_call 39; (with_reducible refine (impl_within.calls t248 128 1024 true _ A21.out).mono ?_); rintro e w' ⟨rfl, ⟨nd, rfl⟩⟩))
            go_meet
            case rel => exact ⟨_, (true), (by first | rfl | (simp; done) | (simp [*]; done)), H', ⟨by first | omega | exact Nat.le_refl _⟩, ⟨by (with_reducible repeat (first | apply Kd.R_alloc | apply Kd.R_drewN | apply Kd.R_drew)); exact HO271.out⟩, ⟨by (with_reducible repeat (first | refine blk_drewN ?_ _ | refine blk_drew ?_ | refine blk_alloc ?_ _)); exact BK247.out⟩, ⟨below_later HB.out⟩⟩
        · replace c22 := Bool.eq_false_iff.mpr c22
          subst c22
          have H1 : (impl_DeltaRead.j0 k l0 t248 t254 t260 t272 true l0 t267 false t269) = some (r1, r2, r3) := by rw [if_neg (show ¬ (false = true) by decide)] at H; exact H
          clear H
          have H := H1
          clear H1
          have H' := Aside0.mk H
          clear H
          have hcz30_0 : w18.cell? ⟨gb247, 0, none⟩ = some (.slice A0 l0.length c0) := (blk_cell BK247.out 0).trans rfl
          have hcz30_1 : w18.cell? ⟨gb247, 1, none⟩ = some (.int .i64 t267) := (blk_cell BK247.out 1).trans rfl
          have hcz30_2 : w18.cell? ⟨gb247, 2, none⟩ = some (.bool false) := (blk_cell BK247.out 2).trans rfl
          have hcz30_3 : w18.cell? ⟨gb247, 3, none⟩ = some (v270) := (blk_cell BK247.out 3).trans rfl
          have hfz30_0 := blk_frozen BK247.out 0
          have hfz30_1 := blk_frozen BK247.out 1
          have hfz30_2 := blk_frozen BK247.out 2
          have hfz30_3 := blk_frozen BK247.out 3
          go_wp2_with (first | (go_at_call 39; (with_reducible refine (impl_within.calls t248 128 1024 false _ A21.out).mono ?_); rintro e w' ⟨rfl, ⟨nd, rfl⟩⟩))
          go_meet
          case rel => exact ⟨_, (true), (by first | rfl | (simp; done) | (simp [*]; done)), H', ⟨by first | omega | exact Nat.le_refl _⟩, ⟨by (with_reducible repeat (first | apply Kd.R_alloc | apply Kd.R_drewN | apply Kd.R_drew)); exact HO271.out⟩, ⟨by (with_reducible repeat (first | refine blk_drewN ?_ _ | refine blk_drew ?_ | refine blk_alloc ?_ _)); exact BK247.out⟩, ⟨below_later HB.out⟩⟩
    case rest =>
      clear HC10
      try clear c1
      try clear c2
      try clear p2
      try clear c3
      try clear c4
      try clear c11
      try clear c19
      try clear c22
      try clear c23
      try clear c23b0
      try clear c23b1
      try clear c25
      try clear hcz20_0
      try clear hcz20_1
      try clear hcz20_2
      try clear hcz20_3
      try clear hcz27_0
      try clear hcz27_1
      try clear hcz27_2
      try clear hcz27_3
      try clear hcz28_0
      try clear hcz28_1
      try clear hcz28_2
      try clear hcz28_3
      try clear hcz29_0
      try clear hcz29_1
      try clear hcz29_2
      try clear hcz29_3
      try clear hcz30_0
      try clear hcz30_1
      try clear hcz30_2
      try clear hcz30_3
      try clear hfz20_0
      try clear hfz20_1
      try clear hfz20_2
      try clear hfz20_3
      try clear hfz27_0
      try clear hfz27_1
      try clear hfz27_2
      try clear hfz27_3
      try clear hfz28_0
      try clear hfz28_1
      try clear hfz28_2
      try clear hfz28_3
      try clear hfz29_0
      try clear hfz29_1
      try clear hfz29_2
      try clear hfz29_3
      try clear hfz30_0
      try clear hfz30_1
      try clear hfz30_2
      try clear hfz30_3
      obtain ⟨kq, x58_9, rfl, HA, HJ9, HO_248003, BK247, HB⟩ := hcut
      cases kq with
      | zero => exact absurd HA.out (by simp [impl_DeltaRead.j0])
      | succ kj9 =>
        have H := HA.out
        clear HA
        simp only [impl_DeltaRead.j0] at H
        by_cases c31 : x58_9 = true
        · subst c31
          have H1 : (some (([] : List Int), 0, false)) = some (r1, r2, r3) := by rw [if_pos rfl] at H; exact H
          clear H
          have H := H1
          clear H1
          simp only [Option.some.injEq, Prod.mk.injEq] at H
          obtain ⟨rfl, rfl, rfl⟩ := H
          go_wp2
          go_ret3
          exact ⟨_, by first | rfl | (simp [errW_none, errW_some] <;> rfl) | (simp [*, errW_none, errW_some] <;> rfl), by first | exact Kd.R_nil _ _ _ _ _ | exact Kd.N_nil _ _ _ _ _ | exact Kd.V_nil _ _ _ _ _ | exact Kd.Q_nil _ _ _ _ _ | exact Kd.S_nil _ _ _ _ _, below_later HB.out⟩
        · replace c31 := Bool.eq_false_iff.mpr c31
          subst c31
          have H1 : (if t254 = 0 then (none) else (if (Int.tmod t248 t254) = 0 then (impl_DeltaRead.j1 kj9 l0 t248 t254 t260 t272 ((Int.tmod (wrap64 (Int.tdiv t248 t254)) 32) != 0) l0 t267 t268 t269) else (impl_DeltaRead.j1 kj9 l0 t248 t254 t260 t272 true l0 t267 t268 t269))) = some (r1, r2, r3) := by rw [if_neg (show ¬ (false = true) by decide)] at H; exact H
          clear H
          have H := H1
          clear H1
          have HC32 := Aside0.mk H
          clear H
          go_upto_region 10 with (fail)
          go_cut [69] (fun v69 wc => ∃ (kq : Nat) (x69_31 : Bool), v69 = .bool x69_31 ∧ Aside0 (impl_DeltaRead.j1 kq l0 t248 t254 t260 t272 x69_31 l0 t267 t268 t269 = some (r1, r2, r3)) ∧ Aside0 (kq ≤ kj9) ∧ Aside0 (Kd.R (Kd.int .i64) 3 wc w.heap.size (fun _ => True) v270 t269) ∧ Aside0 (wc.heap[gb247]? = some (.cells #[(.slice A0 l0.length c0), .int .i64 t267, .bool t268, v270] 51 (0, 0))) ∧ Aside0 (Below w.heap.size w wc))
          case first =>
            have H := HC32.out
            clear HC32
            by_cases c33 : t254 = 0
            · rw [if_pos c33] at H
              exact absurd H (by simp)
            · rw [if_neg c33] at H
              have c33b0 : (t254 == 0) = false := beq_eq_false_iff_ne.mpr c33
              have c33b1 : (t254 != 0) = true := bne_iff_ne.mpr c33
              (first | rw [c33b0] | rw [c33b1] | (simp only [i64_w, i32_w]; rw [c33b0]) | skip)
              by_cases c34 : (Int.tmod t248 t254) = 0
              · rw [if_pos c34] at H
                have c34b0 : ((Int.tmod t248 t254) == 0) = true := beq_iff_eq.mpr c34
                have c34b1 : ((Int.tmod t248 t254) != 0) = false := bne_eq_false_iff_eq.mpr c34
                clear c34
                have H' := Aside0.mk H
                clear H
                go_wp2
                go_meet
                case rel => exact ⟨_, (((Int.tmod (wrap64 (Int.tdiv t248 t254)) 32) != 0)), (by first | rfl | (simp; done) | (simp [*]; done)), H', ⟨by have := HJ9.out; first | omega | exact Nat.le_refl _⟩, ⟨by (with_reducible repeat (first | apply Kd.R_alloc | apply Kd.R_drewN | apply Kd.R_drew)); exact HO_248003.out⟩, ⟨by (with_reducible repeat (first | refine blk_drewN ?_ _ | refine blk_drew ?_ | refine blk_alloc ?_ _)); exact BK247.out⟩, ⟨below_later HB.out⟩⟩
              · rw [if_neg c34] at H
                have c34b0 : ((Int.tmod t248 t254) == 0) = false := beq_eq_false_iff_ne.mpr c34
                have c34b1 : ((Int.tmod t248 t254) != 0) = true := bne_iff_ne.mpr c34
                have H' := Aside0.mk H
                clear H
                go_wp2
                go_meet
                case rel => exact ⟨_, (true), (by first | rfl | (simp; done) | (simp [*]; done)), H', ⟨by have := HJ9.out; first | omega | exact Nat.le_refl _⟩, ⟨by (with_reducible repeat (first | apply Kd.R_alloc | apply Kd.R_drewN | apply Kd.R_drew)); exact HO_248003.out⟩, ⟨by (with_reducible repeat (first | refine blk_drewN ?_ _ | refine blk_drew ?_ | refine blk_alloc ?_ _)); exact BK247.out⟩, ⟨below_later HB.out⟩⟩
          case rest =>
            clear HC32
            try clear c1
            try clear c2
            try clear p2
            try clear c3
            try clear c4
            try clear p6
            try clear c11
            try clear c19
            try clear c22
            try clear c23
            try clear c23b0
            try clear c23b1
            try clear c25
            try clear c31
            try clear c33
            try clear c33b0
            try clear c33b1
            try clear c34
            try clear c34b0
            try clear c34b1
            try clear hcz20_0
            try clear hcz20_1
            try clear hcz20_2
            try clear hcz20_3
            try clear hcz27_0
            try clear hcz27_1
            try clear hcz27_2
            try clear hcz27_3
            try clear hcz28_0
            try clear hcz28_1
            try clear hcz28_2
            try clear hcz28_3
            try clear hcz29_0
            try clear hcz29_1
            try clear hcz29_2
            try clear hcz29_3
            try clear hcz30_0
            try clear hcz30_1
            try clear hcz30_2
            try clear hcz30_3
            try clear hfz20_0
            try clear hfz20_1
            try clear hfz20_2
            try clear hfz20_3
            try clear hfz27_0
            try clear hfz27_1
            try clear hfz27_2
            try clear hfz27_3
            try clear hfz28_0
            try clear hfz28_1
            try clear hfz28_2
            try clear hfz28_3
            try clear hfz29_0
            try clear hfz29_1
            try clear hfz29_2
            try clear hfz29_3
            try clear hfz30_0
            try clear hfz30_1
            try clear hfz30_2
            try clear hfz30_3
            try clear p2
            obtain ⟨kq, x69_31, rfl, HA, HJ31, HO_248003, BK247, HB⟩ := hcut
            cases kq with
            | zero => exact absurd HA.out (by simp [impl_DeltaRead.j1])
            | succ kj31 =>
              have H := HA.out
              clear HA
              simp only [impl_DeltaRead.j1] at H
              by_cases c35 : x69_31 = true
              · subst c35
                have H1 : (some (([] : List Int), 0, false)) = some (r1, r2, r3) := by rw [if_pos rfl] at H; exact H
                clear H
                have H := H1
                clear H1
                simp only [Option.some.injEq, Prod.mk.injEq] at H
                obtain ⟨rfl, rfl, rfl⟩ := H
                go_wp2
                go_ret3
                exact ⟨_, by first | rfl | (simp [errW_none, errW_some] <;> rfl) | (simp [*, errW_none, errW_some] <;> rfl), by first | exact Kd.R_nil _ _ _ _ _ | exact Kd.N_nil _ _ _ _ _ | exact Kd.V_nil _ _ _ _ _ | exact Kd.Q_nil _ _ _ _ _ | exact Kd.S_nil _ _ _ _ _, below_later HB.out⟩
              · replace c35 := Bool.eq_false_iff.mpr c35
                subst c35
                have H1 : (if t260 = 0 then (some (([] : List Int), t267, true)) else (if t254 = 0 then (none) else (impl_DeltaRead.l0 kj31 l0 t254 t260 (wrap64 (Int.tdiv t248 t254)) l0 t267 t268 (([t272] : List Int))))) = some (r1, r2, r3) := by rw [if_neg (show ¬ (false = true) by decide)] at H; exact H
                clear H
                have H := H1
                clear H1
                by_cases c36 : t260 = 0
                · rw [if_pos c36] at H
                  have c36b0 : (t260 == 0) = true := beq_iff_eq.mpr c36
                  have c36b1 : (t260 != 0) = false := bne_eq_false_iff_eq.mpr c36
                  clear c36
                  simp only [Option.some.injEq, Prod.mk.injEq] at H
                  obtain ⟨rfl, rfl, rfl⟩ := H
                  try go_wp2
                  have n0_ := Aside0.mk (Kd.R_drew HO_248003.out)
                  have n1_ := Aside0.mk (blk_drew BK247.out)
                  have n2_ := Aside0.mk (below_drew1 HB.out)
                  clear HO_248003
                  clear BK247
                  clear HB
                  have HO_248003 := n0_
                  have BK247 := n1_
                  have HB := n2_
                  clear n0_ n1_ n2_
                  refine start_ (n := 7) (S := fun w' => w'.cell? ⟨gb247, 0, none⟩ = some (.slice A0 l0.length c0) ∧ w'.cell? ⟨gb247, 1, none⟩ = some (.int .i64 t267) ∧ w'.cell? ⟨gb247, 2, none⟩ = some (.bool t268) ∧ w'.cell? ⟨gb247, 3, none⟩ = some (v270)) (ds := []) #[false, false, false, false, false, false, false] (by kernel_rfl) rfl rfl ⟨(blk_cell BK247.out 0).trans rfl, (blk_cell BK247.out 1).trans rfl, (blk_cell BK247.out 2).trans rfl, (blk_cell BK247.out 3).trans rfl⟩ (fun hHeld => ?_)
                  generalize wc.drew = w37 at HO_248003 BK247 HB hHeld ⊢
                  refine pure_ (i := 0) (N := some 72) (v := ?_) (a' := ?_) #[true, false, false, false, false, false, false] rfl rfl (by kernel_rfl) (fun _ _ _ h => h) (Or.inl ⟨by rfl, ?_⟩) ?_ ?_
                  rotate_left
                  · intro w'
                    go_simp
                    with_reducible rfl
                  rotate_left
                  · simp only [Act.put, List.setIfInBounds_toArray, List.set_cons_zero, List.set_cons_succ, i64_w, i32_w]
                    rfl
                  refine pure_ (i := 1) (N := some 73) (v := ?_) (a' := ?_) #[true, true, false, false, false, false, false] rfl rfl (by kernel_rfl) (fun _ _ _ h => h) (Or.inl ⟨by rfl, ?_⟩) ?_ ?_
                  rotate_left
                  · intro w'
                    go_simp
                    with_reducible rfl
                  rotate_left
                  · simp only [Act.put, List.setIfInBounds_toArray, List.set_cons_zero, List.set_cons_succ, i64_w, i32_w]
                    rfl
                  refine pure_ (i := 2) (N := some 74) (v := ?_) (a' := ?_) #[true, true, true, false, false, false, false] rfl rfl (by kernel_rfl) (fun _ _ _ h => h) (Or.inl ⟨by rfl, ?_⟩) ?_ ?_
                  rotate_left
                  · intro w'
                    go_simp
                    with_reducible rfl
                  rotate_left
                  · simp only [Act.put, List.setIfInBounds_toArray, List.set_cons_zero, List.set_cons_succ, i64_w, i32_w]
                    rfl
                  refine pure_ (i := 4) (N := some 4) (v := ?_) (a' := ?_) #[true, true, true, false, true, false, false] rfl rfl (by kernel_rfl) (fun _ _ _ h => h) (Or.inl ⟨by rfl, ?_⟩) ?_ ?_
                  rotate_left
                  · intro w'
                    go_simp
                    with_reducible rfl
                  rotate_left
                  · simp only [Act.put, List.setIfInBounds_toArray, List.set_cons_zero, List.set_cons_succ, i64_w, i32_w]
                    rfl
                  refine take_ (i := 3) (N := some 75) (v := ?_) (a' := ?_) #[true, true, true, true, true, false, false] rfl rfl (by kernel_rfl) (fun _ _ _ h => h) (Or.inl ⟨by rfl, ?_⟩) hHeld ?_ ?_
                  rotate_left
                  · rintro w' ⟨s0, s1, s2, s3⟩
                    go_simp
                    with_reducible rfl
                  rotate_left
                  · simp only [Act.put, List.setIfInBounds_toArray, List.set_cons_zero, List.set_cons_succ, i64_w, i32_w]
                    rfl
                  refine pure_ (i := 5) (N := some 5) (v := ?_) (a' := ?_) #[true, true, true, true, true, true, false] rfl rfl (by kernel_rfl) (fun _ _ _ h => h) (Or.inl ⟨by rfl, ?_⟩) ?_ ?_
                  rotate_left
                  · intro w'
                    go_simp
                    with_reducible rfl
                  rotate_left
                  · simp only [Act.put, List.setIfInBounds_toArray, List.set_cons_zero, List.set_cons_succ, i64_w, i32_w]
                    rfl
                  refine pure_ (i := 6) (N := some 6) (v := ?_) (a' := ?_) #[true, true, true, true, true, true, true] rfl rfl (by kernel_rfl) (fun _ _ _ h => h) (Or.inl ⟨by rfl, ?_⟩) ?_ ?_
                  rotate_left
                  · intro w'
                    go_simp
                    with_reducible rfl
                  rotate_left
                  · simp only [Act.put, List.setIfInBounds_toArray, List.set_cons_zero, List.set_cons_succ, i64_w, i32_w]
                    rfl
                  refine done_ (by kernel_rfl) ?_
                  try go_wp2
                  go_ret3
                  exact ⟨_, by first | rfl | (simp [errW_none, errW_some] <;> rfl) | (simp [*, errW_none, errW_some] <;> rfl), by first | exact Kd.R_nil _ _ _ _ _ | exact Kd.N_nil _ _ _ _ _ | exact Kd.V_nil _ _ _ _ _ | exact Kd.Q_nil _ _ _ _ _ | exact Kd.S_nil _ _ _ _ _, below_later HB.out⟩
                · rw [if_neg c36] at H
                  have c36b0 : (t260 == 0) = false := beq_eq_false_iff_ne.mpr c36
                  have c36b1 : (t260 != 0) = true := bne_iff_ne.mpr c36
                  by_cases c38 : t254 = 0
                  · rw [if_pos c38] at H
                    exact absurd H (by simp)
                  · rw [if_neg c38] at H
                    have c38b0 : (t254 == 0) = false := beq_eq_false_iff_ne.mpr c38
                    have c38b1 : (t254 != 0) = true := bne_iff_ne.mpr c38
                    obtain ⟨y276, hy276⟩ : ∃ y_ : List Int, y_ = (([t272] : List Int)) := ⟨_, rfl⟩
                    replace H : (impl_DeltaRead.l0 kj31 l0 t254 t260 (wrap64 (Int.tdiv t248 t254)) l0 t267 t268 y276) = some (r1, r2, r3) := by first | (rw [hy276]; with_reducible exact H) | (have H2_ := (Option.bind_some _ _).symm.trans H; rw [hy276]; with_reducible exact H2_) | (have H2_ := (Option.bind_some _ _).symm.trans H; with_reducible exact H2_) | with_reducible exact H | (rw [hy276]; exact H) | exact H
                    have Ny276 := Aside0.mk hy276
                    clear hy276
                    have H' := Aside0.mk H
                    clear H
                    go_wp2_with (first | ((with_reducible refine gate_dst (N := 81) rfl ?_); (try (refine gate_guard (by rfl) ?_; dsimp only)); refine Kd.R_lit (Kd.int .i64) _ 3 ?hg (N := 81) ?hd (xs := ([t272] : List Int)) (inner := [.int .i64 t272]) (ok := fun _ => True) (okp := fun _ => True) ?hr ?hp (fun _ hk => hk) trivial (Below.refl _ _) (Nat.le_refl _) (by simp) ?_; (case hd => rfl); (case hg => rfl); (case hr => first | (go_simp; done) | (go_simp; rfl)); (case hp => exact (Reps.one (show Kd.M (Kd.int .i64) _ _ _ t272 [.int .i64 t272] from rfl) (Reps.none _ _))); intro v277 w39 ho40 hb hg_ hnew_; clear hg_ hnew_; (first | rw [← Ny276.out] at ho40 | (simp only [Int.reduceToNat] at ho40; rw [← Ny276.out] at ho40)); have n0_ := Aside0.mk (Kd.R_elder' (R_later HO_248003.out) (Kd.R_base ho40) hb); have n1_ := Aside0.mk (Kd.R_lower (Kd.R_new' ho40 (Kd.R_lt (R_later HO_248003.out))) (below_size (below_later HB.out))); have n2_ := Aside0.mk (blk_below (blk_later BK247.out) hb); have n3_ := Aside0.mk (below_step (below_later HB.out) hb); clear HO_248003; clear BK247; clear HB; have HO_248003 := n0_; have HO278 := n1_; have BK247 := n2_; have HB := n3_; clear n0_ n1_ n2_ n3_; clear hb ho40; obtain ⟨Ao41, co41, eo41⟩ := Kd.R_slice HO278.out; subst eo41; have hcz42_0 : w39.cell? ⟨gb247, 0, none⟩ = some (.slice A0 l0.length c0) := (blk_cell BK247.out 0).trans rfl; have hcz42_1 : w39.cell? ⟨gb247, 1, none⟩ = some (.int .i64 t267) := (blk_cell BK247.out 1).trans rfl; have hcz42_2 : w39.cell? ⟨gb247, 2, none⟩ = some (.bool t268) := (blk_cell BK247.out 2).trans rfl; have hcz42_3 : w39.cell? ⟨gb247, 3, none⟩ = some (v270) := (blk_cell BK247.out 3).trans rfl; have hfz42_0 := blk_frozen BK247.out 0; have hfz42_1 := blk_frozen BK247.out 1; have hfz42_2 := blk_frozen BK247.out 2; have hfz42_3 := blk_frozen BK247.out 3))
                    go_loopg [] kj31 (fun kq w' => ∃ (x248001_3 : Int) (x248002_3 : Bool) (x248003_3 : List Int) (u248003 : Value), Aside0 (impl_DeltaRead.l0 kq l0 t254 t260 (wrap64 (Int.tdiv t248 t254)) l0 x248001_3 x248002_3 x248003_3 = some (r1, r2, r3)) ∧ Aside0 (kq ≤ kj31) ∧ Aside0 (Kd.R (Kd.int .i64) 3 w' w.heap.size (fun _ => True) u248003 x248003_3) ∧ Aside0 (w'.heap[gb247]? = some (.cells #[(.slice A0 l0.length c0), .int .i64 x248001_3, .bool x248002_3, u248003] 51 (0, 0))) ∧ Aside0 (Below w.heap.size w w'))
                    case atStart => exact ⟨(t267), (t268), (y276), (.slice Ao41 y276.length co41), H', ⟨Nat.le_refl _⟩, ⟨by (with_reducible repeat (first | apply Kd.R_alloc | apply Kd.R_drewN | apply Kd.R_drew)); exact Kd.R_mono (Kd.R_far (p := ⟨gb247, 3, none⟩) (Kd.R_types HO278.out BK247.out (by decide)) (fun _ hk => hk.2) (.slice Ao41 y276.length co41)) (fun _ hk => trivial)⟩, ⟨by (with_reducible repeat (first | refine blk_drewN ?_ _ | refine blk_drew ?_ | refine blk_alloc ?_ _)); refine blk_put (cs := #[.slice A0 l0.length c0, .int .i64 t267, .bool t268, v270]) ?_ 3 _ rfl; (with_reducible repeat (first | refine blk_drewN ?_ _ | refine blk_drew ?_ | refine blk_alloc ?_ _)); exact BK247.out⟩, ⟨below_later HB.out⟩⟩
                    case round =>
                      clear H'
                      try clear c1
                      try clear c2
                      try clear p2
                      try clear c3
                      try clear c4
                      try clear p6
                      try clear c11
                      try clear c19
                      try clear c22
                      try clear c23
                      try clear c23b0
                      try clear c23b1
                      try clear c25
                      try clear c31
                      try clear c33
                      try clear c33b0
                      try clear c33b1
                      try clear c34
                      try clear c34b0
                      try clear c34b1
                      try clear c35
                      try clear c36
                      try clear c36b0
                      try clear c36b1
                      try clear c38
                      try clear c38b0
                      try clear c38b1
                      try clear c39
                      try clear c40
                      try clear c41
                      try clear hcz20_0
                      try clear hcz20_1
                      try clear hcz20_2
                      try clear hcz20_3
                      try clear hcz27_0
                      try clear hcz27_1
                      try clear hcz27_2
                      try clear hcz27_3
                      try clear hcz28_0
                      try clear hcz28_1
                      try clear hcz28_2
                      try clear hcz28_3
                      try clear hcz29_0
                      try clear hcz29_1
                      try clear hcz29_2
                      try clear hcz29_3
                      try clear hcz30_0
                      try clear hcz30_1
                      try clear hcz30_2
                      try clear hcz30_3
                      try clear hcz42_0
                      try clear hcz42_1
                      try clear hcz42_2
                      try clear hcz42_3
                      try clear hfz20_0
                      try clear hfz20_1
                      try clear hfz20_2
                      try clear hfz20_3
                      try clear hfz27_0
                      try clear hfz27_1
                      try clear hfz27_2
                      try clear hfz27_3
                      try clear hfz28_0
                      try clear hfz28_1
                      try clear hfz28_2
                      try clear hfz28_3
                      try clear hfz29_0
                      try clear hfz29_1
                      try clear hfz29_2
                      try clear hfz29_3
                      try clear hfz30_0
                      try clear hfz30_1
                      try clear hfz30_2
                      try clear hfz30_3
                      try clear hfz42_0
                      try clear hfz42_1
                      try clear hfz42_2
                      try clear hfz42_3
                      try clear p2
                      try clear p6
                      obtain ⟨x248001_3, x248002_3, x248003_3, u248003, HA, HK3, HO_248003, BK247, HB⟩ := hrel
                      cases gk with
                      | zero => exact absurd HA.out (by simp [impl_DeltaRead.l0])
                      | succ k3 =>
                        have H := HA.out
                        clear HA
                        simp only [impl_DeltaRead.l0] at H
                        have HC43 := Aside0.mk H
                        clear H
                        go_upto_region 16 with (fail)
                        go_cut [97] (fun v97 wc => ∃ (kq : Nat) (x97_42 : Bool), v97 = .bool x97_42 ∧ Aside0 (impl_DeltaRead.j3 kq l0 t254 t260 (wrap64 (Int.tdiv t248 t254)) x97_42 l0 x248001_3 x248002_3 x248003_3 = some (r1, r2, r3)) ∧ Aside0 (kq ≤ k3) ∧ Aside0 (Kd.R (Kd.int .i64) 3 wc w.heap.size (fun _ => True) u248003 x248003_3) ∧ Aside0 (wc.heap[gb247]? = some (.cells #[(.slice A0 l0.length c0), .int .i64 x248001_3, .bool x248002_3, u248003] 51 (0, 0))) ∧ Aside0 (Below w.heap.size w wc))
                        case first =>
                          have H := HC43.out
                          clear HC43
                          by_cases c44 : (x248003_3.length : Int) < t260
                          · rw [if_pos c44] at H
                            have c44b0 : decide ((x248003_3.length : Int) < t260) = true := decide_eq_true c44
                            clear c44
                            (first | rw [c44b0] | (simp only [i64_w, i32_w]; rw [c44b0]) | skip)
                            have H' := Aside0.mk H
                            clear H
                            have hcz45_0 : wr.cell? ⟨gb247, 0, none⟩ = some (.slice A0 l0.length c0) := (blk_cell BK247.out 0).trans rfl
                            have hcz45_1 : wr.cell? ⟨gb247, 1, none⟩ = some (.int .i64 x248001_3) := (blk_cell BK247.out 1).trans rfl
                            have hcz45_2 : wr.cell? ⟨gb247, 2, none⟩ = some (.bool x248002_3) := (blk_cell BK247.out 2).trans rfl
                            have hcz45_3 : wr.cell? ⟨gb247, 3, none⟩ = some (u248003) := (blk_cell BK247.out 3).trans rfl
                            have hfz45_0 := blk_frozen BK247.out 0
                            have hfz45_1 := blk_frozen BK247.out 1
                            have hfz45_2 := blk_frozen BK247.out 2
                            have hfz45_3 := blk_frozen BK247.out 3
                            obtain ⟨Ao46, co46, eo46⟩ := Kd.R_slice HO_248003.out
                            subst eo46
                            go_wp2
                            go_meet
                            case rel => exact ⟨_, (!x248002_3), (by first | rfl | (simp; done) | (simp [*]; done)), H', ⟨by have := HJ9.out; have := HJ31.out; have := HK3.out; first | omega | exact Nat.le_refl _⟩, ⟨by (with_reducible repeat (first | apply Kd.R_alloc | apply Kd.R_drewN | apply Kd.R_drew)); exact HO_248003.out⟩, ⟨by (with_reducible repeat (first | refine blk_drewN ?_ _ | refine blk_drew ?_ | refine blk_alloc ?_ _)); exact BK247.out⟩, ⟨below_later HB.out⟩⟩
                          · rw [if_neg c44] at H
                            have c44b0 : decide ((x248003_3.length : Int) < t260) = false := decide_eq_false c44
                            clear c44
                            (first | rw [c44b0] | (simp only [i64_w, i32_w]; rw [c44b0]) | skip)
                            have H' := Aside0.mk H
                            clear H
                            have hcz47_0 : wr.cell? ⟨gb247, 0, none⟩ = some (.slice A0 l0.length c0) := (blk_cell BK247.out 0).trans rfl
                            have hcz47_1 : wr.cell? ⟨gb247, 1, none⟩ = some (.int .i64 x248001_3) := (blk_cell BK247.out 1).trans rfl
                            have hcz47_2 : wr.cell? ⟨gb247, 2, none⟩ = some (.bool x248002_3) := (blk_cell BK247.out 2).trans rfl
                            have hcz47_3 : wr.cell? ⟨gb247, 3, none⟩ = some (u248003) := (blk_cell BK247.out 3).trans rfl
                            have hfz47_0 := blk_frozen BK247.out 0
                            have hfz47_1 := blk_frozen BK247.out 1
                            have hfz47_2 := blk_frozen BK247.out 2
                            have hfz47_3 := blk_frozen BK247.out 3
                            obtain ⟨Ao48, co48, eo48⟩ := Kd.R_slice HO_248003.out
                            subst eo48
                            go_wp2
                            go_meet
                            case rel => exact ⟨_, (false), (by first | rfl | (simp; done) | (simp [*]; done)), H', ⟨by have := HJ9.out; have := HJ31.out; have := HK3.out; first | omega | exact Nat.le_refl _⟩, ⟨by (with_reducible repeat (first | apply Kd.R_alloc | apply Kd.R_drewN | apply Kd.R_drew)); exact HO_248003.out⟩, ⟨by (with_reducible repeat (first | refine blk_drewN ?_ _ | refine blk_drew ?_ | refine blk_alloc ?_ _)); exact BK247.out⟩, ⟨below_later HB.out⟩⟩
                        case rest =>
                          clear HC43
                          try clear c1
                          try clear c2
                          try clear p2
                          try clear c3
                          try clear c4
                          try clear p6
                          try clear c11
                          try clear c19
                          try clear c22
                          try clear c23
                          try clear c23b0
                          try clear c23b1
                          try clear c25
                          try clear c31
                          try clear c33
                          try clear c33b0
                          try clear c33b1
                          try clear c34
                          try clear c34b0
                          try clear c34b1
                          try clear c35
                          try clear c36
                          try clear c36b0
                          try clear c36b1
                          try clear c38
                          try clear c38b0
                          try clear c38b1
                          try clear c39
                          try clear c40
                          try clear c41
                          try clear c44
                          try clear c44b0
                          try clear hcz20_0
                          try clear hcz20_1
                          try clear hcz20_2
                          try clear hcz20_3
                          try clear hcz27_0
                          try clear hcz27_1
                          try clear hcz27_2
                          try clear hcz27_3
                          try clear hcz28_0
                          try clear hcz28_1
                          try clear hcz28_2
                          try clear hcz28_3
                          try clear hcz29_0
                          try clear hcz29_1
                          try clear hcz29_2
                          try clear hcz29_3
                          try clear hcz30_0
                          try clear hcz30_1
                          try clear hcz30_2
                          try clear hcz30_3
                          try clear hcz42_0
                          try clear hcz42_1
                          try clear hcz42_2
                          try clear hcz42_3
                          try clear hcz45_0
                          try clear hcz45_1
                          try clear hcz45_2
                          try clear hcz45_3
                          try clear hcz47_0
                          try clear hcz47_1
                          try clear hcz47_2
                          try clear hcz47_3
                          try clear hfz20_0
                          try clear hfz20_1
                          try clear hfz20_2
                          try clear hfz20_3
                          try clear hfz27_0
                          try clear hfz27_1
                          try clear hfz27_2
                          try clear hfz27_3
                          try clear hfz28_0
                          try clear hfz28_1
                          try clear hfz28_2
                          try clear hfz28_3
                          try clear hfz29_0
                          try clear hfz29_1
                          try clear hfz29_2
                          try clear hfz29_3
                          try clear hfz30_0
                          try clear hfz30_1
                          try clear hfz30_2
                          try clear hfz30_3
                          try clear hfz42_0
                          try clear hfz42_1
                          try clear hfz42_2
                          try clear hfz42_3
                          try clear hfz45_0
                          try clear hfz45_1
                          try clear hfz45_2
                          try clear hfz45_3
                          try clear hfz47_0
                          try clear hfz47_1
                          try clear hfz47_2
                          try clear hfz47_3
                          try clear p2
                          try clear p6
                          obtain ⟨kq, x97_42, rfl, HA, HJ42, HO_248003, BK247, HB⟩ := hcut
                          cases kq with
                          | zero => exact absurd HA.out (by simp [impl_DeltaRead.j3])
                          | succ kj42 =>
                            have H := HA.out
                            clear HA
                            simp only [impl_DeltaRead.j3] at H
                            by_cases c49 : x97_42 = true
                            · subst c49
                              have H1 : ((impl_deltaReader_uvar.f kj42 l0 x248001_3 x248002_3 x248003_3).bind fun bt279 => ((impl_Zag.f bt279.1).bind fun t285 => ((impl_deltaReader_take.f l0 bt279.2.1 bt279.2.2.1 bt279.2.2.2 t254).bind fun bt286 => (impl_DeltaRead.l1 kj42 l0 t254 t260 (wrap64 (Int.tdiv t248 t254)) t285 bt286.1 0 l0 bt286.2.1 bt286.2.2.1 bt286.2.2.2)))) = some (r1, r2, r3) := by rw [if_pos rfl] at H; exact H
                              clear H
                              have H := H1
                              clear H1
                              replace H := Option.bind_eq_some_iff.mp H
                              obtain ⟨⟨t279, t280, t281, t282⟩, A500, H⟩ := H
                              replace H : ((impl_Zag.f t279).bind fun t285 => ((impl_deltaReader_take.f l0 t280 t281 t282 t254).bind fun bt286 => (impl_DeltaRead.l1 kj42 l0 t254 t260 (wrap64 (Int.tdiv t248 t254)) t285 bt286.1 0 l0 bt286.2.1 bt286.2.2.1 bt286.2.2.2))) = some (r1, r2, r3) := H
                              have A50 := Aside0.mk A500
                              clear A500
                              replace H := Option.bind_eq_some_iff.mp H
                              obtain ⟨t285, A510, H⟩ := H
                              replace H : ((impl_deltaReader_take.f l0 t280 t281 t282 t254).bind fun bt286 => (impl_DeltaRead.l1 kj42 l0 t254 t260 (wrap64 (Int.tdiv t248 t254)) t285 bt286.1 0 l0 bt286.2.1 bt286.2.2.1 bt286.2.2.2)) = some (r1, r2, r3) := H
                              have A51 := Aside0.mk A510
                              clear A510
                              replace H := Option.bind_eq_some_iff.mp H
                              obtain ⟨⟨t286, t287, t288, t289⟩, A520, H⟩ := H
                              replace H : (impl_DeltaRead.l1 kj42 l0 t254 t260 (wrap64 (Int.tdiv t248 t254)) t285 t286 0 l0 t287 t288 t289) = some (r1, r2, r3) := H
                              have A52 := Aside0.mk A520
                              clear A520
                              have H' := Aside0.mk H
                              clear H
                              obtain ⟨Ao53, co53, eo53⟩ := Kd.R_slice HO_248003.out
                              subst eo53
                              go_wp2_with (first | ((with_reducible refine gate_callee (f := 40) rfl ?_); refine goesL_ (some 99) rfl rfl Try.func40 (by kernel_rfl) rfl #[.pointer (some ⟨gb247, 0, none⟩)] rfl (by (try simp only [List.map_toArray, List.map_cons, List.map_nil]); first | done | rfl | (simp only [List.length_drop, List.length_take]; rfl)) ?_; (with_reducible refine (impl_deltaReader_uvar.calls kj42 gb247 A0 c0 l0 x248001_3 x248002_3 (.slice Ao53 x248003_3.length co53) x248003_3 t279 t280 t281 t282 w _ HR0.out HC0.out ?side1 ?side2 ?side3 GE247.out A50.out).mono ?_); (case side1 => exact (blk_later BK247.out)); (case side2 => exact (R_later HO_248003.out)); (case side3 => exact (below_later HB.out)); rintro e w54 ⟨v283, rfl, hbox, ho, hb⟩; refine ⟨_, rfl, ?_⟩; have n0_ := Aside0.mk (hbox); have n1_ := Aside0.mk (ho); have n2_ := Aside0.mk (hb); clear BK247; clear HB; clear HO_248003; have BK247 := n0_; have HO284 := n1_; have HB := n2_; clear n0_ n1_ n2_; clear hbox ho hb) | ((with_reducible refine gate_callee (f := 41) rfl ?_); refine goesL_ (some 100) rfl rfl Try.func41 (by kernel_rfl) rfl #[.int .i64 t279] rfl (by (try simp only [List.map_toArray, List.map_cons, List.map_nil]); first | done | rfl | (simp only [List.length_drop, List.length_take]; rfl)) ?_; (with_reducible refine (impl_Zag.calls t279 t285 _ A51.out).mono ?_); rintro e w' ⟨rfl, ⟨nd, rfl⟩⟩; refine ⟨_, rfl, ?_⟩; obtain ⟨Ao55, co55, eo55⟩ := Kd.R_slice HO284.out; subst eo55) | ((with_reducible refine gate_callee (f := 42) rfl ?_); refine goesL_ (some 103) rfl rfl Try.func42 (by kernel_rfl) rfl #[.pointer (some ⟨gb247, 0, none⟩), .int .i64 t254] rfl (by (try simp only [List.map_toArray, List.map_cons, List.map_nil]); first | done | rfl | (simp only [List.length_drop, List.length_take]; rfl)) ?_; (with_reducible refine (impl_deltaReader_take.calls gb247 A0 c0 l0 t280 t281 (.slice Ao55 t282.length co55) t282 t254 t286 t287 t288 t289 w _ HR0.out HC0.out ?side1 ?side2 ?side3 GE247.out A52.out).mono ?_); (case side1 => exact (blk_later BK247.out)); (case side2 => exact (R_later HO284.out)); (case side3 => exact (below_later HB.out)); rintro e w56 ⟨v290, rfl, hbox, ho, hb⟩; refine ⟨_, rfl, ?_⟩; have n0_ := Aside0.mk (hbox); have n1_ := Aside0.mk (ho); have n2_ := Aside0.mk (hb); clear BK247; clear HB; clear HO284; have BK247 := n0_; have HO291 := n1_; have HB := n2_; clear n0_ n1_ n2_; clear hbox ho hb))
                              go_loopg [15] kj42 (fun kq v15 w' => ∃ (x15_5 : Int) (x248001_5 : Int) (x248002_5 : Bool) (x248003_5 : List Int) (u248003 : Value), v15 = .int .i64 x15_5 ∧ Aside0 (impl_DeltaRead.l1 kq l0 t254 t260 (wrap64 (Int.tdiv t248 t254)) t285 t286 x15_5 l0 x248001_5 x248002_5 x248003_5 = some (r1, r2, r3)) ∧ Aside0 (kq ≤ kj42) ∧ Aside0 (Kd.R (Kd.int .i64) 3 w' w.heap.size (fun _ => True) u248003 x248003_5) ∧ Aside0 (w'.heap[gb247]? = some (.cells #[(.slice A0 l0.length c0), .int .i64 x248001_5, .bool x248002_5, u248003] 51 (0, 0))) ∧ Aside0 (Below w.heap.size w w'))
                              case atStart => exact ⟨(0), (t287), (t288), (t289), (v290), (by first | rfl | (simp; done) | (simp [*]; done)), H', ⟨Nat.le_refl _⟩, ⟨by (with_reducible repeat (first | apply Kd.R_alloc | apply Kd.R_drewN | apply Kd.R_drew)); exact HO291.out⟩, ⟨by (with_reducible repeat (first | refine blk_drewN ?_ _ | refine blk_drew ?_ | refine blk_alloc ?_ _)); exact BK247.out⟩, ⟨below_later HB.out⟩⟩
                              case round =>
                                clear H'
                                try clear c1
                                try clear c2
                                try clear p2
                                try clear c3
                                try clear c4
                                try clear p6
                                try clear c11
                                try clear c19
                                try clear c22
                                try clear c23
                                try clear c23b0
                                try clear c23b1
                                try clear c25
                                try clear c31
                                try clear c33
                                try clear c33b0
                                try clear c33b1
                                try clear c34
                                try clear c34b0
                                try clear c34b1
                                try clear c35
                                try clear c36
                                try clear c36b0
                                try clear c36b1
                                try clear c38
                                try clear c38b0
                                try clear c38b1
                                try clear c39
                                try clear c40
                                try clear c41
                                try clear c42
                                try clear c44
                                try clear c44b0
                                try clear c49
                                try clear hcz20_0
                                try clear hcz20_1
                                try clear hcz20_2
                                try clear hcz20_3
                                try clear hcz27_0
                                try clear hcz27_1
                                try clear hcz27_2
                                try clear hcz27_3
                                try clear hcz28_0
                                try clear hcz28_1
                                try clear hcz28_2
                                try clear hcz28_3
                                try clear hcz29_0
                                try clear hcz29_1
                                try clear hcz29_2
                                try clear hcz29_3
                                try clear hcz30_0
                                try clear hcz30_1
                                try clear hcz30_2
                                try clear hcz30_3
                                try clear hcz42_0
                                try clear hcz42_1
                                try clear hcz42_2
                                try clear hcz42_3
                                try clear hcz45_0
                                try clear hcz45_1
                                try clear hcz45_2
                                try clear hcz45_3
                                try clear hcz47_0
                                try clear hcz47_1
                                try clear hcz47_2
                                try clear hcz47_3
                                try clear hfz20_0
                                try clear hfz20_1
                                try clear hfz20_2
                                try clear hfz20_3
                                try clear hfz27_0
                                try clear hfz27_1
                                try clear hfz27_2
                                try clear hfz27_3
                                try clear hfz28_0
                                try clear hfz28_1
                                try clear hfz28_2
                                try clear hfz28_3
                                try clear hfz29_0
                                try clear hfz29_1
                                try clear hfz29_2
                                try clear hfz29_3
                                try clear hfz30_0
                                try clear hfz30_1
                                try clear hfz30_2
                                try clear hfz30_3
                                try clear hfz42_0
                                try clear hfz42_1
                                try clear hfz42_2
                                try clear hfz42_3
                                try clear hfz45_0
                                try clear hfz45_1
                                try clear hfz45_2
                                try clear hfz45_3
                                try clear hfz47_0
                                try clear hfz47_1
                                try clear hfz47_2
                                try clear hfz47_3
                                try clear p2
                                try clear p6
                                obtain ⟨x15_5, x248001_5, x248002_5, x248003_5, u248003, rfl, HA, HK5, HO_248003, BK247, HB⟩ := hrel
                                cases gk with
                                | zero => exact absurd HA.out (by simp [impl_DeltaRead.l1])
                                | succ k5 =>
                                  have H := HA.out
                                  clear HA
                                  simp only [impl_DeltaRead.l1] at H
                                  by_cases c57 : x15_5 < t254
                                  · rw [if_pos c57] at H
                                    have c57b0 : decide (x15_5 < t254) = true := decide_eq_true c57
                                    clear c57
                                    by_cases c58 : (x248003_5.length : Int) < t260
                                    · rw [if_pos c58] at H
                                      have c58b0 : decide ((x248003_5.length : Int) < t260) = true := decide_eq_true c58
                                      clear c58
                                      by_cases c59 : x248002_5 = true
                                      · subst c59
                                        have H1 : (impl_DeltaRead.l0 k5 l0 t254 t260 (wrap64 (Int.tdiv t248 t254)) l0 x248001_5 true x248003_5) = some (r1, r2, r3) := by rw [if_pos rfl] at H; exact H
                                        clear H
                                        have H := H1
                                        clear H1
                                        have H' := Aside0.mk H
                                        clear H
                                        have hcz60_0 : wr.cell? ⟨gb247, 0, none⟩ = some (.slice A0 l0.length c0) := (blk_cell BK247.out 0).trans rfl
                                        have hcz60_1 : wr.cell? ⟨gb247, 1, none⟩ = some (.int .i64 x248001_5) := (blk_cell BK247.out 1).trans rfl
                                        have hcz60_2 : wr.cell? ⟨gb247, 2, none⟩ = some (.bool true) := (blk_cell BK247.out 2).trans rfl
                                        have hcz60_3 : wr.cell? ⟨gb247, 3, none⟩ = some (u248003) := (blk_cell BK247.out 3).trans rfl
                                        have hfz60_0 := blk_frozen BK247.out 0
                                        have hfz60_1 := blk_frozen BK247.out 1
                                        have hfz60_2 := blk_frozen BK247.out 2
                                        have hfz60_3 := blk_frozen BK247.out 3
                                        obtain ⟨Ao61, co61, eo61⟩ := Kd.R_slice HO_248003.out
                                        subst eo61
                                        go_wp2
                                        go_roundg k5
                                        case measure => have := HJ9.out; have := HJ31.out; have := HK3.out; have := HJ42.out; have := HK5.out; omega
                                        case rel => exact ⟨(x248001_5), (true), (x248003_5), (.slice Ao61 x248003_5.length co61), H', ⟨by have := HJ9.out; have := HJ31.out; have := HK3.out; have := HJ42.out; have := HK5.out; omega⟩, ⟨by (with_reducible repeat (first | apply Kd.R_alloc | apply Kd.R_drewN | apply Kd.R_drew)); exact HO_248003.out⟩, ⟨by (with_reducible repeat (first | refine blk_drewN ?_ _ | refine blk_drew ?_ | refine blk_alloc ?_ _)); exact BK247.out⟩, ⟨below_later HB.out⟩⟩
                                      · replace c59 := Bool.eq_false_iff.mpr c59
                                        subst c59
                                        have H1 : (if 0 ≤ (wrap64 (t286 + x15_5)) then (if (wrap64 (t286 + x15_5)) < (l0.length : Int) then ((impl_deltaReader_mini.f k5 l0 x248001_5 false x248003_5 (wrap64 (Int.tdiv t248 t254)) (wrap64 (rd l0 (wrap64 (t286 + x15_5)))) t285 (wrap64 (t260 - (x248003_5.length : Int)))).bind fun bt293 => (impl_DeltaRead.l1 k5 l0 t254 t260 (wrap64 (Int.tdiv t248 t254)) t285 t286 (wrap64 (x15_5 + 1)) l0 bt293.1 bt293.2.1 bt293.2.2)) else (none)) else (none)) = some (r1, r2, r3) := by rw [if_neg (show ¬ (false = true) by decide)] at H; exact H
                                        clear H
                                        have H := H1
                                        clear H1
                                        obtain ⟨ji62, hji62⟩ : ∃ j_ : Int, (wrap64 (t286 + x15_5)) = j_ := ⟨_, rfl⟩
                                        replace H : (if 0 ≤ (ji62) then (if (ji62) < (l0.length : Int) then ((impl_deltaReader_mini.f k5 l0 x248001_5 false x248003_5 (wrap64 (Int.tdiv t248 t254)) (wrap64 (rd l0 (ji62))) t285 (wrap64 (t260 - (x248003_5.length : Int)))).bind fun bt293 => (impl_DeltaRead.l1 k5 l0 t254 t260 (wrap64 (Int.tdiv t248 t254)) t285 t286 (wrap64 (x15_5 + 1)) l0 bt293.1 bt293.2.1 bt293.2.2)) else (none)) else (none)) = some (r1, r2, r3) := by first | (rw [hji62] at H; exact H) | (simp only [hji62] at H ⊢; exact H)
                                        have hji62w : (IntKind.i64.wrap (t286 + x15_5)) = ji62 := (i64_w _).trans hji62
                                        by_cases c63 : 0 ≤ (ji62)
                                        · rw [if_pos c63] at H
                                          have c63b0 : decide (0 ≤ (ji62)) = true := decide_eq_true c63
                                          clear c63
                                          by_cases c64 : (ji62) < (l0.length : Int)
                                          · rw [if_pos c64] at H
                                            have c64b0 : decide ((ji62) < (l0.length : Int)) = true := decide_eq_true c64
                                            clear c64
                                            replace H := Option.bind_eq_some_iff.mp H
                                            obtain ⟨⟨t293, t294, t295⟩, A650, H⟩ := H
                                            replace H : (impl_DeltaRead.l1 k5 l0 t254 t260 (wrap64 (Int.tdiv t248 t254)) t285 t286 (wrap64 (x15_5 + 1)) l0 t293 t294 t295) = some (r1, r2, r3) := H
                                            have A65 := Aside0.mk A650
                                            clear A650
                                            have H' := Aside0.mk H
                                            clear H
                                            have hcz66_0 : wr.cell? ⟨gb247, 0, none⟩ = some (.slice A0 l0.length c0) := (blk_cell BK247.out 0).trans rfl
                                            have hcz66_1 : wr.cell? ⟨gb247, 1, none⟩ = some (.int .i64 x248001_5) := (blk_cell BK247.out 1).trans rfl
                                            have hcz66_2 : wr.cell? ⟨gb247, 2, none⟩ = some (.bool false) := (blk_cell BK247.out 2).trans rfl
                                            have hcz66_3 : wr.cell? ⟨gb247, 3, none⟩ = some (u248003) := (blk_cell BK247.out 3).trans rfl
                                            have hfz66_0 := blk_frozen BK247.out 0
                                            have hfz66_1 := blk_frozen BK247.out 1
                                            have hfz66_2 := blk_frozen BK247.out 2
                                            have hfz66_3 := blk_frozen BK247.out 3
                                            obtain ⟨Ao67, co67, eo67⟩ := Kd.R_slice HO_248003.out
                                            subst eo67
                                            try go_wp2
                                            have n0_ := Aside0.mk (Kd.R_drew HO_248003.out)
                                            have n1_ := Aside0.mk (blk_drew BK247.out)
                                            have n2_ := Aside0.mk (below_drew1 HB.out)
                                            clear HO_248003
                                            clear BK247
                                            clear HB
                                            have HO_248003 := n0_
                                            have BK247 := n1_
                                            have HB := n2_
                                            clear n0_ n1_ n2_
                                            have p292 : 0 ≤ ((ji62) : Int) := of_decide_eq_true (by first | (with_reducible assumption) | assumption)
                                            have q292 : (ji62) < (l0.length : Int) := of_decide_eq_true (by first | (with_reducible assumption) | assumption)
                                            obtain ⟨ad292, e292, hx292_0⟩ := Kd.at_int HR0.out (ji62) p292 q292
                                            have hw292_0 := hx292_0
                                            cases e292
                                            replace hx292_0 := (HB.out.cell (World.block_lt_of_cell? w _ hx292_0)).trans hx292_0
                                            replace p292 := eq_true p292
                                            replace q292 := eq_true q292
                                            refine start_ (n := 18) (S := fun w' => w'.cell? ⟨gb247, 0, none⟩ = some (.slice (some ad292) l0.length c0) ∧ w'.cell? ⟨gb247, 1, none⟩ = some (.int .i64 x248001_5) ∧ w'.cell? ⟨gb247, 2, none⟩ = some (.bool false) ∧ w'.cell? ⟨gb247, 3, none⟩ = some (.slice Ao67 x248003_5.length co67) ∧ w'.cell? (ad292.add ((ji62)).toNat) = some (.int .u8 (rd l0 (ji62)))) (ds := [17]) #[false, false, false, false, false, false, false, false, false, false, false, false, false, false, false, false, false, false] (by kernel_rfl) rfl rfl ⟨(blk_cell BK247.out 0).trans rfl, (blk_cell BK247.out 1).trans rfl, (blk_cell BK247.out 2).trans rfl, (blk_cell BK247.out 3).trans rfl, ((HB.out.cell (World.block_lt_of_cell? w _ hw292_0)).trans hw292_0)⟩ (fun hHeld => ?_); refine with_tabW impl_DeltaRead.tab22 impl_DeltaRead.bits22 (fun HT_ HW_ => ?_)
                                            generalize wr.drew = w68 at HO_248003 BK247 HB hx292_0 hHeld ⊢
                                            refine pure_ (i := 0) (N := some 125) (v := ?_) (a' := ?_) #[true, false, false, false, false, false, false, false, false, false, false, false, false, false, false, false, false, false] rfl rfl (any_of HT_.out (by kernel_rfl)) (fun _ _ _ h => h) (Or.inl ⟨by rfl, ?_⟩) ?_ ?_
                                            rotate_left
                                            · intro w'
                                              go_simp
                                              with_reducible rfl
                                            rotate_left
                                            · simp only [Act.put, List.setIfInBounds_toArray, List.set_cons_zero, List.set_cons_succ, i64_w, i32_w]
                                              rfl
                                            refine pure_ (i := 1) (N := some 126) (v := ?_) (a' := ?_) #[true, true, false, false, false, false, false, false, false, false, false, false, false, false, false, false, false, false] rfl rfl (any_of HT_.out (by kernel_rfl)) (fun _ _ _ h => h) (Or.inl ⟨by rfl, ?_⟩) ?_ ?_
                                            rotate_left
                                            · intro w'
                                              go_simp
                                              with_reducible rfl
                                            rotate_left
                                            · simp only [Act.put, List.setIfInBounds_toArray, List.set_cons_zero, List.set_cons_succ, i64_w, i32_w]
                                              rfl
                                            refine pure_ (i := 2) (N := some 127) (v := ?_) (a' := ?_) #[true, true, true, false, false, false, false, false, false, false, false, false, false, false, false, false, false, false] rfl rfl (any_of HT_.out (by kernel_rfl)) (fun _ _ _ h => h) (Or.inl ⟨by rfl, ?_⟩) ?_ ?_
                                            rotate_left
                                            · intro w'
                                              go_simp
                                              with_reducible rfl
                                            rotate_left
                                            · simp only [Act.put, List.setIfInBounds_toArray, List.set_cons_zero, List.set_cons_succ, i64_w, i32_w]
                                              rfl
                                            refine pure_ (i := 3) (N := some 128) (v := ?_) (a' := ?_) #[true, true, true, true, false, false, false, false, false, false, false, false, false, false, false, false, false, false] rfl rfl (any_of HT_.out (by kernel_rfl)) (fun _ _ _ h => h) (Or.inl ⟨by rfl, ?_⟩) ?_ ?_
                                            rotate_left
                                            · intro w'
                                              go_simp
                                              with_reducible rfl
                                            rotate_left
                                            · simp only [Act.put, List.setIfInBounds_toArray, List.set_cons_zero, List.set_cons_succ, i64_w, i32_w]
                                              rfl
                                            refine pure_ (i := 4) (N := some 129) (v := ?_) (a' := ?_) #[true, true, true, true, true, false, false, false, false, false, false, false, false, false, false, false, false, false] rfl rfl (any_of HT_.out (by kernel_rfl)) (fun _ _ _ h => h) (Or.inl ⟨by rfl, ?_⟩) ?_ ?_
                                            rotate_left
                                            · intro w'
                                              go_simp
                                              with_reducible rfl
                                            rotate_left
                                            · simp only [Act.put, List.setIfInBounds_toArray, List.set_cons_zero, List.set_cons_succ, i64_w, i32_w]
                                              rfl
                                            refine pure_ (i := 5) (N := some 130) (v := ?_) (a' := ?_) #[true, true, true, true, true, true, false, false, false, false, false, false, false, false, false, false, false, false] rfl rfl (any_of HT_.out (by kernel_rfl)) (fun _ _ _ h => h) (Or.inl ⟨by rfl, ?_⟩) ?_ ?_
                                            rotate_left
                                            · intro w'
                                              go_simp
                                              with_reducible rfl
                                            rotate_left
                                            · simp only [Act.put, List.setIfInBounds_toArray, List.set_cons_zero, List.set_cons_succ, i64_w, i32_w]
                                              rfl
                                            refine pure_ (i := 6) (N := some 131) (v := ?_) (a' := ?_) #[true, true, true, true, true, true, true, false, false, false, false, false, false, false, false, false, false, false] rfl rfl (any_of HT_.out (by kernel_rfl)) (fun _ _ _ h => h) (Or.inl ⟨by rfl, ?_⟩) ?_ ?_
                                            rotate_left
                                            · intro w'
                                              go_simp
                                              with_reducible rfl
                                            rotate_left
                                            · simp only [Act.put, List.setIfInBounds_toArray, List.set_cons_zero, List.set_cons_succ, i64_w, i32_w]
                                              rfl
                                            refine pure_ (i := 9) (N := some 134) (v := ?_) (a' := ?_) #[true, true, true, true, true, true, true, false, false, true, false, false, false, false, false, false, false, false] rfl rfl (any_of HT_.out (by kernel_rfl)) (fun _ _ _ h => h) (Or.inl ⟨by rfl, ?_⟩) ?_ ?_
                                            rotate_left
                                            · intro w'
                                              go_simp
                                              with_reducible rfl
                                            rotate_left
                                            · simp only [Act.put, List.setIfInBounds_toArray, List.set_cons_zero, List.set_cons_succ, i64_w, i32_w]
                                              rfl
                                            refine pure_ (i := 10) (N := some 135) (v := ?_) (a' := ?_) #[true, true, true, true, true, true, true, false, false, true, true, false, false, false, false, false, false, false] rfl rfl (any_of HT_.out (by kernel_rfl)) (fun _ _ _ h => h) (Or.inl ⟨by rfl, ?_⟩) ?_ ?_
                                            rotate_left
                                            · intro w'
                                              go_simp
                                              with_reducible rfl
                                            rotate_left
                                            · simp only [Act.put, List.setIfInBounds_toArray, List.set_cons_zero, List.set_cons_succ, i64_w, i32_w]
                                              rfl
                                            refine pure_ (i := 11) (N := some 136) (v := ?_) (a' := ?_) #[true, true, true, true, true, true, true, false, false, true, true, true, false, false, false, false, false, false] rfl rfl (any_of HT_.out (by kernel_rfl)) (fun _ _ _ h => h) (Or.inl ⟨by rfl, ?_⟩) ?_ ?_
                                            rotate_left
                                            · intro w'
                                              go_simp
                                              with_reducible rfl
                                            rotate_left
                                            · simp only [Act.put, List.setIfInBounds_toArray, List.set_cons_zero, List.set_cons_succ, i64_w, i32_w]
                                              rfl
                                            refine pure_ (i := 12) (N := some 137) (v := ?_) (a' := ?_) #[true, true, true, true, true, true, true, false, false, true, true, true, true, false, false, false, false, false] rfl rfl (any_of HT_.out (by kernel_rfl)) (fun _ _ _ h => h) (Or.inl ⟨by rfl, ?_⟩) ?_ ?_
                                            rotate_left
                                            · intro w'
                                              go_simp
                                              with_reducible rfl
                                            rotate_left
                                            · simp only [Act.put, List.setIfInBounds_toArray, List.set_cons_zero, List.set_cons_succ, i64_w, i32_w]
                                              rfl
                                            refine pure_ (i := 13) (N := some 138) (v := ?_) (a' := ?_) #[true, true, true, true, true, true, true, false, false, true, true, true, true, true, false, false, false, false] rfl rfl (any_of HT_.out (by kernel_rfl)) (fun _ _ _ h => h) (Or.inl ⟨by rfl, ?_⟩) ?_ ?_
                                            rotate_left
                                            · intro w'
                                              go_simp
                                              with_reducible rfl
                                            rotate_left
                                            · simp only [Act.put, List.setIfInBounds_toArray, List.set_cons_zero, List.set_cons_succ, i64_w, i32_w]
                                              rfl
                                            refine take_ (i := 7) (N := some 132) (v := ?_) (a' := ?_) #[true, true, true, true, true, true, true, true, false, true, true, true, true, true, false, false, false, false] rfl rfl (take_ofW HT_.out HW_.out (by kernel_rfl)) (fun _ _ _ h => h) (Or.inl ⟨by rfl, ?_⟩) hHeld ?_ ?_
                                            rotate_left
                                            · rintro w' ⟨s0, s1, s2, s3, s4⟩
                                              go_simp
                                              with_reducible rfl
                                            rotate_left
                                            · simp only [Act.put, List.setIfInBounds_toArray, List.set_cons_zero, List.set_cons_succ, i64_w, i32_w]
                                              rfl
                                            refine pure_ (i := 8) (N := some 133) (v := ?_) (a' := ?_) #[true, true, true, true, true, true, true, true, true, true, true, true, true, true, false, false, false, false] rfl rfl (any_of HT_.out (by kernel_rfl)) (fun _ _ _ h => h) (Or.inl ⟨by rfl, ?_⟩) ?_ ?_
                                            rotate_left
                                            · intro w'
                                              go_simp
                                              with_reducible rfl
                                            rotate_left
                                            · simp only [Act.put, List.setIfInBounds_toArray, List.set_cons_zero, List.set_cons_succ, i64_w, i32_w]
                                              rfl
                                            refine take_ (i := 14) (N := some 139) (v := ?_) (a' := ?_) #[true, true, true, true, true, true, true, true, true, true, true, true, true, true, true, false, false, false] rfl rfl (take_ofW HT_.out HW_.out (by kernel_rfl)) (fun _ _ _ h => h) (Or.inl ⟨by rfl, ?_⟩) hHeld ?_ ?_
                                            rotate_left
                                            · rintro w' ⟨s0, s1, s2, s3, s4⟩
                                              go_simp
                                              with_reducible rfl
                                            rotate_left
                                            · simp only [Act.put, List.setIfInBounds_toArray, List.set_cons_zero, List.set_cons_succ, i64_w, i32_w]
                                              rfl
                                            refine pure_ (i := 15) (N := some 140) (v := ?_) (a' := ?_) #[true, true, true, true, true, true, true, true, true, true, true, true, true, true, true, true, false, false] rfl rfl (any_of HT_.out (by kernel_rfl)) (fun _ _ _ h => h) (Or.inl ⟨by rfl, ?_⟩) ?_ ?_
                                            rotate_left
                                            · intro w'
                                              go_simp
                                              with_reducible rfl
                                            rotate_left
                                            · simp only [Act.put, List.setIfInBounds_toArray, List.set_cons_zero, List.set_cons_succ, i64_w, i32_w]
                                              rfl
                                            refine pure_ (i := 16) (N := some 141) (v := ?_) (a' := ?_) #[true, true, true, true, true, true, true, true, true, true, true, true, true, true, true, true, true, false] rfl rfl (any_of HT_.out (by kernel_rfl)) (fun _ _ _ h => h) (Or.inl ⟨by rfl, ?_⟩) ?_ ?_
                                            rotate_left
                                            · intro w'
                                              go_simp
                                              with_reducible rfl
                                            rotate_left
                                            · simp only [Act.put, List.setIfInBounds_toArray, List.set_cons_zero, List.set_cons_succ, i64_w, i32_w]
                                              rfl
                                            refine last_ (i := 17) (N := some 142) #[true, true, true, true, true, true, true, true, true, true, true, true, true, true, true, true, true, true] rfl rfl (one_of HT_.out (by kernel_rfl)) (by decide) (fun K hK => ?_)
                                            refine goes_ Try.func43 (by kernel_rfl) rfl #[.pointer (some ⟨gb247, 0, none⟩), .int .i64 (wrap64 (Int.tdiv t248 t254)), .int .i64 (wrap64 (rd l0 (ji62))), .int .i64 t285, .int .i64 (wrap64 (t260 - (x248003_5.length : Int)))] (by rfl) rfl rfl (by (try simp only [List.map_toArray, List.map_cons, List.map_nil]); first | done | rfl | (simp only [List.length_drop, List.length_take]; rfl)) ?_
                                            with_reducible refine (impl_deltaReader_mini.calls k5 gb247 (some ad292) c0 l0 x248001_5 false (.slice Ao67 x248003_5.length co67) x248003_5 (wrap64 (Int.tdiv t248 t254)) (wrap64 (rd l0 (ji62))) t285 (wrap64 (t260 - (x248003_5.length : Int))) t293 t294 t295 w _ HR0.out HC0.out ?side1 ?side2 ?side3 GE247.out A65.out).mono ?_
                                            (case side1 => exact (blk_later BK247.out))
                                            (case side2 => exact (R_later HO_248003.out))
                                            (case side3 => exact (below_later HB.out))
                                            rintro e w69 ⟨v296, rfl, hbox, ho, hb⟩
                                            refine ⟨_, rfl, ?_⟩
                                            have n0_ := Aside0.mk (hbox)
                                            have n1_ := Aside0.mk (ho)
                                            have n2_ := Aside0.mk (hb)
                                            clear BK247
                                            clear HB
                                            clear HO_248003
                                            have BK247 := n0_
                                            have HO297 := n1_
                                            have HB := n2_
                                            clear n0_ n1_ n2_
                                            clear hbox ho hb
                                            refine hK.out _ _ ?_
                                            clear hK K
                                            refine norm_ (a' := ?_) ?_ ?_
                                            rotate_left
                                            · show Act.put _ (some 142) _ = _
                                              simp only [Act.put, List.setIfInBounds_toArray, List.set_cons_zero, List.set_cons_succ, i64_w, i32_w]
                                              rfl
                                            refine done_ (done_of HT_.out (by kernel_rfl)) ?_
                                            try go_wp2
                                            go_roundg k5
                                            case measure => have := HJ9.out; have := HJ31.out; have := HK3.out; have := HJ42.out; have := HK5.out; omega
                                            case rel => exact ⟨(wrap64 (x15_5 + 1)), (t293), (t294), (t295), (v296), (by first | rfl | (simp; done) | (simp [*]; done)), H', ⟨by have := HJ9.out; have := HJ31.out; have := HK3.out; have := HJ42.out; have := HK5.out; omega⟩, ⟨by (with_reducible repeat (first | apply Kd.R_alloc | apply Kd.R_drewN | apply Kd.R_drew)); exact HO297.out⟩, ⟨by (with_reducible repeat (first | refine blk_drewN ?_ _ | refine blk_drew ?_ | refine blk_alloc ?_ _)); exact BK247.out⟩, ⟨below_later HB.out⟩⟩
                                          · rw [if_neg c64] at H
                                            exact absurd H (by simp)
                                        · rw [if_neg c63] at H
                                          exact absurd H (by simp)
                                    · rw [if_neg c58] at H
                                      have c58b0 : decide ((x248003_5.length : Int) < t260) = false := decide_eq_false c58
                                      clear c58
                                      have H' := Aside0.mk H
                                      clear H
                                      have hcz70_0 : wr.cell? ⟨gb247, 0, none⟩ = some (.slice A0 l0.length c0) := (blk_cell BK247.out 0).trans rfl
                                      have hcz70_1 : wr.cell? ⟨gb247, 1, none⟩ = some (.int .i64 x248001_5) := (blk_cell BK247.out 1).trans rfl
                                      have hcz70_2 : wr.cell? ⟨gb247, 2, none⟩ = some (.bool x248002_5) := (blk_cell BK247.out 2).trans rfl
                                      have hcz70_3 : wr.cell? ⟨gb247, 3, none⟩ = some (u248003) := (blk_cell BK247.out 3).trans rfl
                                      have hfz70_0 := blk_frozen BK247.out 0
                                      have hfz70_1 := blk_frozen BK247.out 1
                                      have hfz70_2 := blk_frozen BK247.out 2
                                      have hfz70_3 := blk_frozen BK247.out 3
                                      obtain ⟨Ao71, co71, eo71⟩ := Kd.R_slice HO_248003.out
                                      subst eo71
                                      go_wp2
                                      go_roundg k5
                                      case measure => have := HJ9.out; have := HJ31.out; have := HK3.out; have := HJ42.out; have := HK5.out; omega
                                      case rel => exact ⟨(x248001_5), (x248002_5), (x248003_5), (.slice Ao71 x248003_5.length co71), H', ⟨by have := HJ9.out; have := HJ31.out; have := HK3.out; have := HJ42.out; have := HK5.out; omega⟩, ⟨by (with_reducible repeat (first | apply Kd.R_alloc | apply Kd.R_drewN | apply Kd.R_drew)); exact HO_248003.out⟩, ⟨by (with_reducible repeat (first | refine blk_drewN ?_ _ | refine blk_drew ?_ | refine blk_alloc ?_ _)); exact BK247.out⟩, ⟨below_later HB.out⟩⟩
                                  · rw [if_neg c57] at H
                                    have c57b0 : decide (x15_5 < t254) = false := decide_eq_false c57
                                    clear c57
                                    have H' := Aside0.mk H
                                    clear H
                                    go_wp2
                                    go_roundg k5
                                    case measure => have := HJ9.out; have := HJ31.out; have := HK3.out; have := HJ42.out; have := HK5.out; omega
                                    case rel => exact ⟨(x248001_5), (x248002_5), (x248003_5), (u248003), H', ⟨by have := HJ9.out; have := HJ31.out; have := HK3.out; have := HJ42.out; have := HK5.out; omega⟩, ⟨by (with_reducible repeat (first | apply Kd.R_alloc | apply Kd.R_drewN | apply Kd.R_drew)); exact HO_248003.out⟩, ⟨by (with_reducible repeat (first | refine blk_drewN ?_ _ | refine blk_drew ?_ | refine blk_alloc ?_ _)); exact BK247.out⟩, ⟨below_later HB.out⟩⟩
                            · replace c49 := Bool.eq_false_iff.mpr c49
                              subst c49
                              have H1 : (if x248002_3 = true then (some (([] : List Int), 0, false)) else (some (x248003_3, x248001_3, true))) = some (r1, r2, r3) := by rw [if_neg (show ¬ (false = true) by decide)] at H; exact H
                              clear H
                              have H := H1
                              clear H1
                              by_cases c72 : x248002_3 = true
                              · subst c72
                                have H1 : (some (([] : List Int), 0, false)) = some (r1, r2, r3) := by rw [if_pos rfl] at H; exact H
                                clear H
                                have H := H1
                                clear H1
                                simp only [Option.some.injEq, Prod.mk.injEq] at H
                                obtain ⟨rfl, rfl, rfl⟩ := H
                                have hcz73_0 : wc.cell? ⟨gb247, 0, none⟩ = some (.slice A0 l0.length c0) := (blk_cell BK247.out 0).trans rfl
                                have hcz73_1 : wc.cell? ⟨gb247, 1, none⟩ = some (.int .i64 x248001_3) := (blk_cell BK247.out 1).trans rfl
                                have hcz73_2 : wc.cell? ⟨gb247, 2, none⟩ = some (.bool true) := (blk_cell BK247.out 2).trans rfl
                                have hcz73_3 : wc.cell? ⟨gb247, 3, none⟩ = some (u248003) := (blk_cell BK247.out 3).trans rfl
                                have hfz73_0 := blk_frozen BK247.out 0
                                have hfz73_1 := blk_frozen BK247.out 1
                                have hfz73_2 := blk_frozen BK247.out 2
                                have hfz73_3 := blk_frozen BK247.out 3
                                go_wp2
                                go_ret3
                                exact ⟨_, by first | rfl | (simp [errW_none, errW_some] <;> rfl) | (simp [*, errW_none, errW_some] <;> rfl), by first | exact Kd.R_nil _ _ _ _ _ | exact Kd.N_nil _ _ _ _ _ | exact Kd.V_nil _ _ _ _ _ | exact Kd.Q_nil _ _ _ _ _ | exact Kd.S_nil _ _ _ _ _, below_later HB.out⟩
                              · replace c72 := Bool.eq_false_iff.mpr c72
                                subst c72
                                have H1 : (some (x248003_3, x248001_3, true)) = some (r1, r2, r3) := by rw [if_neg (show ¬ (false = true) by decide)] at H; exact H
                                clear H
                                have H := H1
                                clear H1
                                simp only [Option.some.injEq, Prod.mk.injEq] at H
                                obtain ⟨rfl, rfl, rfl⟩ := H
                                have hcz74_0 : wc.cell? ⟨gb247, 0, none⟩ = some (.slice A0 l0.length c0) := (blk_cell BK247.out 0).trans rfl
                                have hcz74_1 : wc.cell? ⟨gb247, 1, none⟩ = some (.int .i64 x248001_3) := (blk_cell BK247.out 1).trans rfl
                                have hcz74_2 : wc.cell? ⟨gb247, 2, none⟩ = some (.bool false) := (blk_cell BK247.out 2).trans rfl
                                have hcz74_3 : wc.cell? ⟨gb247, 3, none⟩ = some (u248003) := (blk_cell BK247.out 3).trans rfl
                                have hfz74_0 := blk_frozen BK247.out 0
                                have hfz74_1 := blk_frozen BK247.out 1
                                have hfz74_2 := blk_frozen BK247.out 2
                                have hfz74_3 := blk_frozen BK247.out 3
                                try go_wp2
                                have n0_ := Aside0.mk (Kd.R_drew HO_248003.out)
                                have n1_ := Aside0.mk (blk_drew BK247.out)
                                have n2_ := Aside0.mk (below_drew1 HB.out)
                                clear HO_248003
                                clear BK247
                                clear HB
                                have HO_248003 := n0_
                                have BK247 := n1_
                                have HB := n2_
                                clear n0_ n1_ n2_
                                refine start_ (n := 11) (S := fun w' => w'.cell? ⟨gb247, 0, none⟩ = some (.slice A0 l0.length c0) ∧ w'.cell? ⟨gb247, 1, none⟩ = some (.int .i64 x248001_3) ∧ w'.cell? ⟨gb247, 2, none⟩ = some (.bool false) ∧ w'.cell? ⟨gb247, 3, none⟩ = some (u248003)) (ds := []) #[false, false, false, false, false, false, false, false, false, false, false] (by kernel_rfl) rfl rfl ⟨(blk_cell BK247.out 0).trans rfl, (blk_cell BK247.out 1).trans rfl, (blk_cell BK247.out 2).trans rfl, (blk_cell BK247.out 3).trans rfl⟩ (fun hHeld => ?_); refine with_tabW impl_DeltaRead.tab25 impl_DeltaRead.bits25 (fun HT_ HW_ => ?_)
                                generalize wc.drew = w75 at HO_248003 BK247 HB hHeld ⊢
                                refine pure_ (i := 0) (N := some 147) (v := ?_) (a' := ?_) #[true, false, false, false, false, false, false, false, false, false, false] rfl rfl (any_of HT_.out (by kernel_rfl)) (fun _ _ _ h => h) (Or.inl ⟨by rfl, ?_⟩) ?_ ?_
                                rotate_left
                                · intro w'
                                  go_simp
                                  with_reducible rfl
                                rotate_left
                                · simp only [Act.put, List.setIfInBounds_toArray, List.set_cons_zero, List.set_cons_succ, i64_w, i32_w]
                                  rfl
                                refine pure_ (i := 1) (N := some 148) (v := ?_) (a' := ?_) #[true, true, false, false, false, false, false, false, false, false, false] rfl rfl (any_of HT_.out (by kernel_rfl)) (fun _ _ _ h => h) (Or.inl ⟨by rfl, ?_⟩) ?_ ?_
                                rotate_left
                                · intro w'
                                  go_simp
                                  with_reducible rfl
                                rotate_left
                                · simp only [Act.put, List.setIfInBounds_toArray, List.set_cons_zero, List.set_cons_succ, i64_w, i32_w]
                                  rfl
                                refine pure_ (i := 2) (N := some 149) (v := ?_) (a' := ?_) #[true, true, true, false, false, false, false, false, false, false, false] rfl rfl (any_of HT_.out (by kernel_rfl)) (fun _ _ _ h => h) (Or.inl ⟨by rfl, ?_⟩) ?_ ?_
                                rotate_left
                                · intro w'
                                  go_simp
                                  with_reducible rfl
                                rotate_left
                                · simp only [Act.put, List.setIfInBounds_toArray, List.set_cons_zero, List.set_cons_succ, i64_w, i32_w]
                                  rfl
                                refine pure_ (i := 4) (N := some 151) (v := ?_) (a' := ?_) #[true, true, true, false, true, false, false, false, false, false, false] rfl rfl (any_of HT_.out (by kernel_rfl)) (fun _ _ _ h => h) (Or.inl ⟨by rfl, ?_⟩) ?_ ?_
                                rotate_left
                                · intro w'
                                  go_simp
                                  with_reducible rfl
                                rotate_left
                                · simp only [Act.put, List.setIfInBounds_toArray, List.set_cons_zero, List.set_cons_succ, i64_w, i32_w]
                                  rfl
                                refine pure_ (i := 5) (N := some 152) (v := ?_) (a' := ?_) #[true, true, true, false, true, true, false, false, false, false, false] rfl rfl (any_of HT_.out (by kernel_rfl)) (fun _ _ _ h => h) (Or.inl ⟨by rfl, ?_⟩) ?_ ?_
                                rotate_left
                                · intro w'
                                  go_simp
                                  with_reducible rfl
                                rotate_left
                                · simp only [Act.put, List.setIfInBounds_toArray, List.set_cons_zero, List.set_cons_succ, i64_w, i32_w]
                                  rfl
                                refine pure_ (i := 6) (N := some 153) (v := ?_) (a' := ?_) #[true, true, true, false, true, true, true, false, false, false, false] rfl rfl (any_of HT_.out (by kernel_rfl)) (fun _ _ _ h => h) (Or.inl ⟨by rfl, ?_⟩) ?_ ?_
                                rotate_left
                                · intro w'
                                  go_simp
                                  with_reducible rfl
                                rotate_left
                                · simp only [Act.put, List.setIfInBounds_toArray, List.set_cons_zero, List.set_cons_succ, i64_w, i32_w]
                                  rfl
                                refine take_ (i := 3) (N := some 150) (v := ?_) (a' := ?_) #[true, true, true, true, true, true, true, false, false, false, false] rfl rfl (take_ofW HT_.out HW_.out (by kernel_rfl)) (fun _ _ _ h => h) (Or.inl ⟨by rfl, ?_⟩) hHeld ?_ ?_
                                rotate_left
                                · rintro w' ⟨s0, s1, s2, s3⟩
                                  go_simp
                                  with_reducible rfl
                                rotate_left
                                · simp only [Act.put, List.setIfInBounds_toArray, List.set_cons_zero, List.set_cons_succ, i64_w, i32_w]
                                  rfl
                                refine pure_ (i := 8) (N := some 4) (v := ?_) (a' := ?_) #[true, true, true, true, true, true, true, false, true, false, false] rfl rfl (any_of HT_.out (by kernel_rfl)) (fun _ _ _ h => h) (Or.inl ⟨by rfl, ?_⟩) ?_ ?_
                                rotate_left
                                · intro w'
                                  go_simp
                                  with_reducible rfl
                                rotate_left
                                · simp only [Act.put, List.setIfInBounds_toArray, List.set_cons_zero, List.set_cons_succ, i64_w, i32_w]
                                  rfl
                                refine take_ (i := 7) (N := some 154) (v := ?_) (a' := ?_) #[true, true, true, true, true, true, true, true, true, false, false] rfl rfl (take_ofW HT_.out HW_.out (by kernel_rfl)) (fun _ _ _ h => h) (Or.inl ⟨by rfl, ?_⟩) hHeld ?_ ?_
                                rotate_left
                                · rintro w' ⟨s0, s1, s2, s3⟩
                                  go_simp
                                  with_reducible rfl
                                rotate_left
                                · simp only [Act.put, List.setIfInBounds_toArray, List.set_cons_zero, List.set_cons_succ, i64_w, i32_w]
                                  rfl
                                refine pure_ (i := 9) (N := some 5) (v := ?_) (a' := ?_) #[true, true, true, true, true, true, true, true, true, true, false] rfl rfl (any_of HT_.out (by kernel_rfl)) (fun _ _ _ h => h) (Or.inl ⟨by rfl, ?_⟩) ?_ ?_
                                rotate_left
                                · intro w'
                                  go_simp
                                  with_reducible rfl
                                rotate_left
                                · simp only [Act.put, List.setIfInBounds_toArray, List.set_cons_zero, List.set_cons_succ, i64_w, i32_w]
                                  rfl
                                refine pure_ (i := 10) (N := some 6) (v := ?_) (a' := ?_) #[true, true, true, true, true, true, true, true, true, true, true] rfl rfl (any_of HT_.out (by kernel_rfl)) (fun _ _ _ h => h) (Or.inl ⟨by rfl, ?_⟩) ?_ ?_
                                rotate_left
                                · intro w'
                                  go_simp
                                  with_reducible rfl
                                rotate_left
                                · simp only [Act.put, List.setIfInBounds_toArray, List.set_cons_zero, List.set_cons_succ, i64_w, i32_w]
                                  rfl
                                refine done_ (done_of HT_.out (by kernel_rfl)) ?_
                                try go_wp2
                                go_ret3
                                exact ⟨_, by first | rfl | (simp [errW_none, errW_some] <;> rfl) | (simp [*, errW_none, errW_some] <;> rfl), by (with_reducible repeat (first | apply Kd.R_alloc | apply Kd.R_drewN | apply Kd.R_drew)); exact HO_248003.out, below_later HB.out⟩
  · replace c4 := Bool.eq_false_iff.mpr c4
    subst c4
    have H1 : (some (([] : List Int), 0, false)) = some (r1, r2, r3) := by rw [if_neg (show ¬ (false = true) by decide)] at H; exact H
    clear H
    have H := H1
    clear H1
    simp only [Option.some.injEq, Prod.mk.injEq] at H
    obtain ⟨rfl, rfl, rfl⟩ := H
    go_enter Try.func11, Try.ntmps11
    go_wp2_with (first | ((with_reducible refine gate_callee (f := 39) rfl ?_); refine goesL_ (some 19) rfl rfl Try.func39 (by kernel_rfl) rfl #[.int .i64 a1, .int .i64 0, .int .i64 (l0.length : Int)] rfl (by (try simp only [List.map_toArray, List.map_cons, List.map_nil]); first | done | rfl | (simp only [List.length_drop, List.length_take]; rfl)) ?_; (with_reducible refine (impl_within.calls a1 0 (l0.length : Int) false _ A3.out).mono ?_); rintro e w' ⟨rfl, ⟨nd, rfl⟩⟩; refine ⟨_, rfl, ?_⟩))
    go_ret3
    exact ⟨_, by first | rfl | (simp [errW_none, errW_some] <;> rfl) | (simp [*, errW_none, errW_some] <;> rfl), by first | exact Kd.R_nil _ _ _ _ _ | exact Kd.N_nil _ _ _ _ _ | exact Kd.V_nil _ _ _ _ _ | exact Kd.Q_nil _ _ _ _ _ | exact Kd.S_nil _ _ _ _ _, below_later HB.out⟩

end Go.Proofs.Ytgcanbeckamjeaa.PFnExactFrontRead
