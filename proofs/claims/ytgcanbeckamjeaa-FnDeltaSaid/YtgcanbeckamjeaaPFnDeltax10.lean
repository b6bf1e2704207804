/- The machine's side of FnDelta, written by wip/tools/hyb.py of this repo: each Go function as a plain Lean function, and the proof that the call comes to just its answer. No condition. -/
import Derived.Test.YtgcanbeckamjeaaPFnDeltax0
import Derived.Test.YtgcanbeckamjeaaPFnDeltax1
import Derived.Test.YtgcanbeckamjeaaPFnDeltax2
import Derived.Test.YtgcanbeckamjeaaPFnDeltax4
import Derived.Test.YtgcanbeckamjeaaPFnDeltax7
import Derived.Test.YtgcanbeckamjeaaPFnDeltax9
namespace Go.Proofs.Ytgcanbeckamjeaa.PFnDelta
open Go.RowKit Go.Proofs.YtgcanbeckamjeaaW.PrintWords Go.Proofs.YtgcanbeckamjeaaW.PrintLast Go.Proofs.YtgcanbeckamjeaaW.PrintMore Go.Proofs.YtgcanbeckamjeaaW.PrintMore2
attribute [local go_sem] max2_int min2_int max_two min_two max_three min_three max_four min_four   -- for this text's walks alone
set_option linter.unusedVariables false
set_option linter.unusedSimpArgs false

/-! ### laws_at: function 12 -/
def laws_at.f (l0 : List Int) (a1 : Int) : Option (Int) := if a1 < (l0.length : Int) then (if 0 ≤ a1 then (some (wrap64 (rd l0 a1))) else (none)) else (some (Int.tmod (wrap64 ((wrap64 (a1 * 7)) + (l0.length : Int))) 256))
set_option maxHeartbeats 8000000 in
set_option maxRecDepth 100000 in
theorem laws_at.calls (A0 : Option Addr) (c0 : Nat) (l0 : List Int) (a1 : Int) (r : Int) (w : World) (hr0 : Kd.C (Kd.int .u8) w A0 l0.length l0) (hc0 : l0.length ≤ c0) (h : laws_at.f l0 a1 = some r) :
    Calls Try.prog 12 #[.slice A0 l0.length c0, .int .i64 a1] w fun e w' => e = .returned (.int .i64 r) ∧ Drawn0 w w' := by
  have HR0 := Aside0.mk hr0
  have HC0 := Aside0.mk hc0
  clear hr0 hc0
  have H : (if a1 < (l0.length : Int) then (if 0 ≤ a1 then (some (wrap64 (rd l0 a1))) else (none)) else (some (Int.tmod (wrap64 ((wrap64 (a1 * 7)) + (l0.length : Int))) 256))) = some r := h
  clear h
  by_cases c3 : a1 < (l0.length : Int)
  · rw [if_pos c3] at H
    have c3b0 : decide (a1 < (l0.length : Int)) = true := decide_eq_true c3
    clear c3
    by_cases c4 : 0 ≤ a1
    · rw [if_pos c4] at H
      have c4b0 : decide (0 ≤ a1) = true := decide_eq_true c4
      clear c4
      obtain rfl := Option.some.inj H
      have p480 : 0 ≤ (a1 : Int) := of_decide_eq_true (by first | (with_reducible assumption) | assumption)
      have q480 : a1 < (l0.length : Int) := of_decide_eq_true (by first | (with_reducible assumption) | assumption)
      obtain ⟨ad480, e480, hx480_0⟩ := Kd.at_int HR0.out a1 p480 q480
      cases e480
      replace p480 := eq_true p480
      replace q480 := eq_true q480
      go_enter Try.func12, Try.ntmps12
      go_wp2
      go_ret
      exact ⟨by first | rfl | (simp; done) | (simp [*]; done), by repeat (first | exact Drawn0.refl _ | apply Drawn0.step)⟩
    · rw [if_neg c4] at H
      exact absurd H (by simp)
  · rw [if_neg c3] at H
    have c3b0 : decide (a1 < (l0.length : Int)) = false := decide_eq_false c3
    clear c3
    obtain rfl := Option.some.inj H
    go_enter Try.func12, Try.ntmps12
    go_wp2
    go_ret
    exact ⟨by first | rfl | (simp; done) | (simp [*]; done), by repeat (first | exact Drawn0.refl _ | apply Drawn0.step)⟩

/-! ### laws_sameInts: function 14 -/
def laws_sameInts.l0 : Nat → List Int → List Int → Int → Option (Bool)
  | 0, _, _, _ => none
  | k + 1, x0, x1, x5 => if x5 < (x0.length : Int) then (if 0 ≤ x5 then (if x5 < (x1.length : Int) then (if (rd x0 x5) = (rd x1 x5) then (laws_sameInts.l0 k x0 x1 (wrap64 (x5 + 1))) else (some false)) else (none)) else (none)) else (some true)
def laws_sameInts.f (k : Nat) (l0 : List Int) (l1 : List Int) : Option (Bool) := if (l0.length : Int) = (l1.length : Int) then (laws_sameInts.l0 k l0 l1 0) else (some false)
theorem laws_sameInts.mono_l : ∀ k, (∀ y0 y1 y2, LeO (laws_sameInts.l0 k y0 y1 y2) (laws_sameInts.l0 (k + 1) y0 y1 y2))
  | 0 => fun _ _ _ r h => by simp [laws_sameInts.l0] at h
  | k + 1 => by
    have ih0 := laws_sameInts.mono_l k
    · intro y0 y1 y2
      unfold laws_sameInts.l0
      repeat' first
      | (with_reducible exact ih0 _ _ _)
      | (with_reducible exact LeO.refl _)
      | (with_reducible exact LeO.none _)
      | (with_reducible refine LeO.ite ?_ ?_)
      | (with_reducible refine LeO.bind ?_ (fun _ => ?_))
      | exact ih0 _ _ _
      | exact LeO.none _
      | refine LeO.ite ?_ ?_
      | refine LeO.bind ?_ (fun _ => ?_)
theorem laws_sameInts.mono : ∀ a0 a1 k, LeO (laws_sameInts.f k a0 a1) (laws_sameInts.f (k + 1) a0 a1) := by
  intro a0 a1 k
  have ih0 := laws_sameInts.mono_l k
  unfold laws_sameInts.f
  repeat' first
      | (with_reducible exact ih0 _ _ _)
      | (with_reducible exact LeO.refl _)
      | (with_reducible exact LeO.none _)
      | (with_reducible refine LeO.ite ?_ ?_)
      | (with_reducible refine LeO.bind ?_ (fun _ => ?_))
      | exact ih0 _ _ _
      | exact LeO.none _
      | refine LeO.ite ?_ ?_
      | refine LeO.bind ?_ (fun _ => ?_)
set_option maxHeartbeats 8000000 in
set_option maxRecDepth 100000 in
theorem laws_sameInts.calls (k : Nat) (A0 : Option Addr) (c0 : Nat) (l0 : List Int) (A1 : Option Addr) (c1 : Nat) (l1 : List Int) (r : Bool) (w : World) (hr0 : Kd.C (Kd.int .i64) w A0 l0.length l0) (hc0 : l0.length ≤ c0) (hr1 : Kd.C (Kd.int .i64) w A1 l1.length l1) (hc1 : l1.length ≤ c1) (h : laws_sameInts.f k l0 l1 = some r) :
    Calls Try.prog 14 #[.slice A0 l0.length c0, .slice A1 l1.length c1] w fun e w' => e = .returned (.bool r) ∧ Drawn0 w w' := by
  have HR0 := Aside0.mk hr0
  have HC0 := Aside0.mk hc0
  clear hr0 hc0
  have HR1 := Aside0.mk hr1
  have HC1 := Aside0.mk hc1
  clear hr1 hc1
  have H : (if (l0.length : Int) = (l1.length : Int) then (laws_sameInts.l0 k l0 l1 0) else (some false)) = some r := h
  clear h
  by_cases c3 : (l0.length : Int) = (l1.length : Int)
  · rw [if_pos c3] at H
    have c3b0 : ((l0.length : Int) == (l1.length : Int)) = true := beq_iff_eq.mpr c3
    have c3b1 : ((l0.length : Int) != (l1.length : Int)) = false := bne_eq_false_iff_eq.mpr c3
    have c3b2 : (l0.length == l1.length) = true := by first | simpa using c3 | (simp at c3 ⊢; omega)
    clear c3
    have H' := Aside0.mk H
    clear H
    go_enter Try.func14, Try.ntmps14
    go_wp2
    repeat (go_quiet (fail); try go_wp2)
    go_loopg [5] k (fun kq v5 w' => ∃ (x5_1 : Int), v5 = .int .i64 x5_1 ∧ Aside0 (laws_sameInts.l0 kq l0 l1 x5_1 = some r) ∧ Aside0 (kq ≤ k) ∧ Drawn0 w w')
    case atStart => exact ⟨(0), (by first | rfl | (simp; done) | (simp [*]; done)), H', ⟨Nat.le_refl _⟩, by repeat (first | exact Drawn0.refl _ | apply Drawn0.step)⟩
    case round =>
      clear H'
      try clear c1
      try clear p2
      try clear c3
      try clear c3b0
      try clear c3b1
      try clear c3b2
      obtain ⟨x5_1, rfl, HA, HK1, ⟨m1, rfl⟩⟩ := hrel
      cases gk with
      | zero => exact absurd HA.out (by simp [laws_sameInts.l0])
      | succ k1 =>
        have H := HA.out
        clear HA
        simp only [laws_sameInts.l0] at H
        by_cases c4 : x5_1 < (l0.length : Int)
        · rw [if_pos c4] at H
          have c4b0 : decide (x5_1 < (l0.length : Int)) = true := decide_eq_true c4
          clear c4
          by_cases c5 : 0 ≤ x5_1
          · rw [if_pos c5] at H
            have c5b0 : decide (0 ≤ x5_1) = true := decide_eq_true c5
            clear c5
            by_cases c6 : x5_1 < (l1.length : Int)
            · rw [if_pos c6] at H
              have c6b0 : decide (x5_1 < (l1.length : Int)) = true := decide_eq_true c6
              clear c6
              by_cases c7 : (rd l0 x5_1) = (rd l1 x5_1)
              · rw [if_pos c7] at H
                have c7b0 : ((rd l0 x5_1) == (rd l1 x5_1)) = true := beq_iff_eq.mpr c7
                have c7b1 : ((rd l0 x5_1) != (rd l1 x5_1)) = false := bne_eq_false_iff_eq.mpr c7
                clear c7
                have H' := Aside0.mk H
                clear H
                have p481 : 0 ≤ (x5_1 : Int) := of_decide_eq_true (by first | (with_reducible assumption) | assumption)
                have q481 : x5_1 < (l0.length : Int) := of_decide_eq_true (by first | (with_reducible assumption) | assumption)
                obtain ⟨ad481, e481, hx481_0⟩ := Kd.at_int HR0.out x5_1 p481 q481
                cases e481
                replace p481 := eq_true p481
                replace q481 := eq_true q481
                have p482 : 0 ≤ (x5_1 : Int) := of_decide_eq_true (by first | (with_reducible assumption) | assumption)
                have q482 : x5_1 < (l1.length : Int) := of_decide_eq_true (by first | (with_reducible assumption) | assumption)
                obtain ⟨ad482, e482, hx482_0⟩ := Kd.at_int HR1.out x5_1 p482 q482
                cases e482
                replace p482 := eq_true p482
                replace q482 := eq_true q482
                go_wp2
                repeat (go_quiet (fail); try go_wp2)
                go_roundg k1
                case measure => have := HK1.out; omega
                case rel => exact ⟨(wrap64 (x5_1 + 1)), (by first | rfl | (simp; done) | (simp [*]; done)), H', ⟨by have := HK1.out; omega⟩, by repeat (first | exact Drawn0.refl _ | apply Drawn0.step)⟩
              · rw [if_neg c7] at H
                have c7b0 : ((rd l0 x5_1) == (rd l1 x5_1)) = false := beq_eq_false_iff_ne.mpr c7
                have c7b1 : ((rd l0 x5_1) != (rd l1 x5_1)) = true := bne_iff_ne.mpr c7
                obtain rfl := Option.some.inj H
                have p481 : 0 ≤ (x5_1 : Int) := of_decide_eq_true (by first | (with_reducible assumption) | assumption)
                have q481 : x5_1 < (l0.length : Int) := of_decide_eq_true (by first | (with_reducible assumption) | assumption)
                obtain ⟨ad481, e481, hx481_0⟩ := Kd.at_int HR0.out x5_1 p481 q481
                cases e481
                replace p481 := eq_true p481
                replace q481 := eq_true q481
                have p482 : 0 ≤ (x5_1 : Int) := of_decide_eq_true (by first | (with_reducible assumption) | assumption)
                have q482 : x5_1 < (l1.length : Int) := of_decide_eq_true (by first | (with_reducible assumption) | assumption)
                obtain ⟨ad482, e482, hx482_0⟩ := Kd.at_int HR1.out x5_1 p482 q482
                cases e482
                replace p482 := eq_true p482
                replace q482 := eq_true q482
                go_wp2
                repeat (go_quiet (fail); try go_wp2)
                go_ret
                exact ⟨by first | rfl | (simp; done) | (simp [*]; done), by repeat (first | exact Drawn0.refl _ | apply Drawn0.step)⟩
            · rw [if_neg c6] at H
              exact absurd H (by simp)
          · rw [if_neg c5] at H
            exact absurd H (by simp)
        · rw [if_neg c4] at H
          have c4b0 : decide (x5_1 < (l0.length : Int)) = false := decide_eq_false c4
          clear c4
          obtain rfl := Option.some.inj H
          go_wp2
          repeat (go_quiet (fail); try go_wp2)
          go_ret
          exact ⟨by first | rfl | (simp; done) | (simp [*]; done), by repeat (first | exact Drawn0.refl _ | apply Drawn0.step)⟩
  · rw [if_neg c3] at H
    have c3b0 : ((l0.length : Int) == (l1.length : Int)) = false := beq_eq_false_iff_ne.mpr c3
    have c3b1 : ((l0.length : Int) != (l1.length : Int)) = true := bne_iff_ne.mpr c3
    have c3b2 : (l0.length == l1.length) = false := by first | simpa using c3 | (simp at c3 ⊢; omega)
    obtain rfl := Option.some.inj H
    go_enter Try.func14, Try.ntmps14
    go_wp2
    repeat (go_quiet (fail); try go_wp2)
    go_ret
    exact ⟨by first | rfl | (simp; done) | (simp [*]; done), by repeat (first | exact Drawn0.refl _ | apply Drawn0.step)⟩

/-! ### laws_FnDelta: function 3 -/
mutual
def laws_FnDelta.j0 : Nat → List Int → List Int → List Int → Int → Bool → List Int → Int → Option (Bool)
  | 0, _, _, _, _, _, _, _ => none
  | k + 1, x3, x4, x8, x9, x10, x11, x12 => laws_FnDelta.l0 k x3 x4 x8 x9 x10 x11 x12 0
def laws_FnDelta.l0 : Nat → List Int → List Int → List Int → Int → Bool → List Int → Int → Int → Option (Bool)
  | 0, _, _, _, _, _, _, _, _ => none
  | k + 1, x3, x4, x8, x9, x10, x11, x12, x13 => if x13 < (x11.length : Int) then (if 0 ≤ x13 then (laws_FnDelta.l0 k x3 x4 x8 x9 x10 x11 (wrap64 (x12 + (rd x11 x13))) (wrap64 (x13 + 1))) else (none)) else (if x10 = true then (if x9 = (x4.length : Int) then ((laws_sameInts.f k x8 x3).bind fun t515 => (if t515 = true then (if (x3.length : Int) = 0 then (if (x11.length : Int) = 0 then (some true) else (if (x11.length : Int) = (wrap64 ((x3.length : Int) - 1)) then (some true) else (some false))) else (if (x11.length : Int) = (wrap64 ((x3.length : Int) - 1)) then (if 0 ≤ (wrap64 ((x3.length : Int) - 1)) then (if (wrap64 ((x3.length : Int) - 1)) < (x3.length : Int) then (some (x12 == (rd x3 (wrap64 ((x3.length : Int) - 1))))) else (none)) else (none)) else (some false))) else (some false))) else (some false)) else (some false))
end
def laws_FnDelta.f (k : Nat) (l0 : List Int) : Option (Bool) := (laws_big.f l0).bind fun t483 => (if t483 = true then (some true) else ((spec_DrawDeltaPack.f k l0).bind fun t484 => ((impl_DeltaPack.f k t484).bind fun bt487 => ((spec_DeltaPack.f k t484).bind fun bt491 => (if (bt487.2 != bt491.2) = true then (some false) else (if bt487.2 = true then ((some (([] : List Int) : List Int)).bind fun y495 => (if y495.length + bt487.1.length < 140737488355328 then ((some (y495 ++ bt487.1 : List Int)).bind fun y498 => ((laws_at.f l0 1).bind fun t501 => (if y498.length < 140737488355328 then ((impl_DeltaRead.f k (y498 ++ [(t501) % 256]) 0).bind fun bt505 => ((impl_Differences.f k t484).bind fun t510 => (if (t484.length : Int) > 0 then (if 0 < (t484.length : Int) then (laws_FnDelta.j0 k t484 bt487.1 bt505.1 bt505.2.1 bt505.2.2 t510 (rd t484 0)) else (none)) else (laws_FnDelta.j0 k t484 bt487.1 bt505.1 bt505.2.1 bt505.2.2 t510 0)))) else (none)))) else (none))) else (some ((bt487.1.length : Int) == 0))))))))
theorem laws_FnDelta.mono_l : ∀ k, (∀ y0 y1 y2 y3 y4 y5 y6, LeO (laws_FnDelta.j0 k y0 y1 y2 y3 y4 y5 y6) (laws_FnDelta.j0 (k + 1) y0 y1 y2 y3 y4 y5 y6)) ∧ (∀ y0 y1 y2 y3 y4 y5 y6 y7, LeO (laws_FnDelta.l0 k y0 y1 y2 y3 y4 y5 y6 y7) (laws_FnDelta.l0 (k + 1) y0 y1 y2 y3 y4 y5 y6 y7))
  | 0 => ⟨fun _ _ _ _ _ _ _ r h => by simp [laws_FnDelta.j0] at h, fun _ _ _ _ _ _ _ _ r h => by simp [laws_FnDelta.l0] at h⟩
  | k + 1 => by
    obtain ⟨ih0, ih1⟩ := laws_FnDelta.mono_l k
    refine ⟨?_, ?_⟩
    · intro y0 y1 y2 y3 y4 y5 y6
      unfold laws_FnDelta.j0
      repeat' first
      | (with_reducible exact ih0 _ _ _ _ _ _ _)
      | (with_reducible exact ih1 _ _ _ _ _ _ _ _)
      | (with_reducible exact impl_DeltaPack.mono _ _)
      | (with_reducible exact impl_DeltaRead.mono _ _ _)
      | (with_reducible exact impl_Differences.mono _ _)
      | (with_reducible exact laws_sameInts.mono _ _ _)
      | (with_reducible exact spec_DeltaPack.mono _ _)
      | (with_reducible exact spec_DrawDeltaPack.mono _ _)
      | (with_reducible exact LeO.refl _)
      | (with_reducible exact LeO.none _)
      | (with_reducible refine LeO.ite ?_ ?_)
      | (with_reducible refine LeO.bind ?_ (fun _ => ?_))
      | exact ih0 _ _ _ _ _ _ _
      | exact ih1 _ _ _ _ _ _ _ _
      | exact impl_DeltaPack.mono _ _
      | exact impl_DeltaRead.mono _ _ _
      | exact impl_Differences.mono _ _
      | exact laws_sameInts.mono _ _ _
      | exact spec_DeltaPack.mono _ _
      | exact spec_DrawDeltaPack.mono _ _
      | exact LeO.none _
      | refine LeO.ite ?_ ?_
      | refine LeO.bind ?_ (fun _ => ?_)
    · intro y0 y1 y2 y3 y4 y5 y6 y7
      unfold laws_FnDelta.l0
      repeat' first
      | (with_reducible exact ih0 _ _ _ _ _ _ _)
      | (with_reducible exact ih1 _ _ _ _ _ _ _ _)
      | (with_reducible exact impl_DeltaPack.mono _ _)
      | (with_reducible exact impl_DeltaRead.mono _ _ _)
      | (with_reducible exact impl_Differences.mono _ _)
      | (with_reducible exact laws_sameInts.mono _ _ _)
      | (with_reducible exact spec_DeltaPack.mono _ _)
      | (with_reducible exact spec_DrawDeltaPack.mono _ _)
      | (with_reducible exact LeO.refl _)
      | (with_reducible exact LeO.none _)
      | (with_reducible refine LeO.ite ?_ ?_)
      | (with_reducible refine LeO.bind ?_ (fun _ => ?_))
      | exact ih0 _ _ _ _ _ _ _
      | exact ih1 _ _ _ _ _ _ _ _
      | exact impl_DeltaPack.mono _ _
      | exact impl_DeltaRead.mono _ _ _
      | exact impl_Differences.mono _ _
      | exact laws_sameInts.mono _ _ _
      | exact spec_DeltaPack.mono _ _
      | exact spec_DrawDeltaPack.mono _ _
      | exact LeO.none _
      | refine LeO.ite ?_ ?_
      | refine LeO.bind ?_ (fun _ => ?_)
theorem laws_FnDelta.mono : ∀ a0 k, LeO (laws_FnDelta.f k a0) (laws_FnDelta.f (k + 1) a0) := by
  intro a0 k
  obtain ⟨ih0, ih1⟩ := laws_FnDelta.mono_l k
  unfold laws_FnDelta.f
  repeat' first
      | (with_reducible exact ih0 _ _ _ _ _ _ _)
      | (with_reducible exact ih1 _ _ _ _ _ _ _ _)
      | (with_reducible exact impl_DeltaPack.mono _ _)
      | (with_reducible exact impl_DeltaRead.mono _ _ _)
      | (with_reducible exact impl_Differences.mono _ _)
      | (with_reducible exact laws_sameInts.mono _ _ _)
      | (with_reducible exact spec_DeltaPack.mono _ _)
      | (with_reducible exact spec_DrawDeltaPack.mono _ _)
      | (with_reducible exact LeO.refl _)
      | (with_reducible exact LeO.none _)
      | (with_reducible refine LeO.ite ?_ ?_)
      | (with_reducible refine LeO.bind ?_ (fun _ => ?_))
      | exact ih0 _ _ _ _ _ _ _
      | exact ih1 _ _ _ _ _ _ _ _
      | exact impl_DeltaPack.mono _ _
      | exact impl_DeltaRead.mono _ _ _
      | exact impl_Differences.mono _ _
      | exact laws_sameInts.mono _ _ _
      | exact spec_DeltaPack.mono _ _
      | exact spec_DrawDeltaPack.mono _ _
      | exact LeO.none _
      | refine LeO.ite ?_ ?_
      | refine LeO.bind ?_ (fun _ => ?_)
set_option maxHeartbeats 8000000 in
set_option maxRecDepth 100000 in
theorem laws_FnDelta.calls (k : Nat) (A0 : Option Addr) (c0 : Nat) (l0 : List Int) (r : Bool) (w : World) (hr0 : Kd.C (Kd.int .u8) w A0 l0.length l0) (hc0 : l0.length ≤ c0) (h : laws_FnDelta.f k l0 = some r) :
    Calls Try.prog 3 #[.slice A0 l0.length c0] w fun e w' => e = .returned (.bool r) ∧ Below w.heap.size w w' := by
  have HR0 := Aside0.mk hr0
  have HC0 := Aside0.mk hc0
  clear hr0 hc0
  have HB := Aside0.mk (Below.refl w.heap.size w)
  have H : ((laws_big.f l0).bind fun t483 => (if t483 = true then (some true) else ((spec_DrawDeltaPack.f k l0).bind fun t484 => ((impl_DeltaPack.f k t484).bind fun bt487 => ((spec_DeltaPack.f k t484).bind fun bt491 => (if (bt487.2 != bt491.2) = true then (some false) else (if bt487.2 = true then ((some (([] : List Int) : List Int)).bind fun y495 => (if y495.length + bt487.1.length < 140737488355328 then ((some (y495 ++ bt487.1 : List Int)).bind fun y498 => ((laws_at.f l0 1).bind fun t501 => (if y498.length < 140737488355328 then ((impl_DeltaRead.f k (y498 ++ [(t501) % 256]) 0).bind fun bt505 => ((impl_Differences.f k t484).bind fun t510 => (if (t484.length : Int) > 0 then (if 0 < (t484.length : Int) then (laws_FnDelta.j0 k t484 bt487.1 bt505.1 bt505.2.1 bt505.2.2 t510 (rd t484 0)) else (none)) else (laws_FnDelta.j0 k t484 bt487.1 bt505.1 bt505.2.1 bt505.2.2 t510 0)))) else (none)))) else (none))) else (some ((bt487.1.length : Int) == 0))))))))) = some r := h
  clear h
  replace H := Option.bind_eq_some_iff.mp H
  obtain ⟨t483, A20, H⟩ := H
  replace H : (if t483 = true then (some true) else ((spec_DrawDeltaPack.f k l0).bind fun t484 => ((impl_DeltaPack.f k t484).bind fun bt487 => ((spec_DeltaPack.f k t484).bind fun bt491 => (if (bt487.2 != bt491.2) = true then (some false) else (if bt487.2 = true then ((some (([] : List Int) : List Int)).bind fun y495 => (if y495.length + bt487.1.length < 140737488355328 then ((some (y495 ++ bt487.1 : List Int)).bind fun y498 => ((laws_at.f l0 1).bind fun t501 => (if y498.length < 140737488355328 then ((impl_DeltaRead.f k (y498 ++ [(t501) % 256]) 0).bind fun bt505 => ((impl_Differences.f k t484).bind fun t510 => (if (t484.length : Int) > 0 then (if 0 < (t484.length : Int) then (laws_FnDelta.j0 k t484 bt487.1 bt505.1 bt505.2.1 bt505.2.2 t510 (rd t484 0)) else (none)) else (laws_FnDelta.j0 k t484 bt487.1 bt505.1 bt505.2.1 bt505.2.2 t510 0)))) else (none)))) else (none))) else (some ((bt487.1.length : Int) == 0)))))))) = some r := H
  have A2 := Aside0.mk A20
  clear A20
  by_cases c3 : t483 = true
  · subst c3
    have H1 : (some true) = some r := by rw [if_pos rfl] at H; exact H
    clear H
    have H := H1
    clear H1
    obtain rfl := Option.some.inj H
    go_enter Try.func3, Try.ntmps3
    go_wp2_with (first | ((with_reducible refine gate_callee (f := 7) rfl ?_); refine goesL_ (some 15) rfl rfl Try.func7 (by kernel_rfl) rfl #[.slice A0 l0.length c0] rfl (by (try simp only [List.map_toArray, List.map_cons, List.map_nil]); first | done | rfl | (simp only [List.length_drop, List.length_take]; rfl)) ?_; (with_reducible refine (laws_big.calls _ _ l0 true _ ?side1 ?side2 A2.out).mono ?_); (case side1 => repeat (first | exact HR0.out | (with_reducible refine Kd.C_alloc ?_ _) | (with_reducible refine Kd.C_drewN ?_ _) | (with_reducible refine Kd.C_drew ?_))); (case side2 => exact HC0.out); rintro e w' ⟨rfl, ⟨nd, rfl⟩⟩; refine ⟨_, rfl, ?_⟩))
    go_ret
    exact ⟨by first | rfl | (simp [errW_none, errW_some] <;> rfl) | (simp [*, errW_none, errW_some] <;> rfl), below_later HB.out⟩
  · replace c3 := Bool.eq_false_iff.mpr c3
    subst c3
    have H1 : ((spec_DrawDeltaPack.f k l0).bind fun t484 => ((impl_DeltaPack.f k t484).bind fun bt487 => ((spec_DeltaPack.f k t484).bind fun bt491 => (if (bt487.2 != bt491.2) = true then (some false) else (if bt487.2 = true then ((some (([] : List Int) : List Int)).bind fun y495 => (if y495.length + bt487.1.length < 140737488355328 then ((some (y495 ++ bt487.1 : List Int)).bind fun y498 => ((laws_at.f l0 1).bind fun t501 => (if y498.length < 140737488355328 then ((impl_DeltaRead.f k (y498 ++ [(t501) % 256]) 0).bind fun bt505 => ((impl_Differences.f k t484).bind fun t510 => (if (t484.length : Int) > 0 then (if 0 < (t484.length : Int) then (laws_FnDelta.j0 k t484 bt487.1 bt505.1 bt505.2.1 bt505.2.2 t510 (rd t484 0)) else (none)) else (laws_FnDelta.j0 k t484 bt487.1 bt505.1 bt505.2.1 bt505.2.2 t510 0)))) else (none)))) else (none))) else (some ((bt487.1.length : Int) == 0))))))) = some r := by rw [if_neg (show ¬ (false = true) by decide)] at H; exact H
    clear H
    have H := H1
    clear H1
    replace H := Option.bind_eq_some_iff.mp H
    obtain ⟨t484, A40, H⟩ := H
    replace H : ((impl_DeltaPack.f k t484).bind fun bt487 => ((spec_DeltaPack.f k t484).bind fun bt491 => (if (bt487.2 != bt491.2) = true then (some false) else (if bt487.2 = true then ((some (([] : List Int) : List Int)).bind fun y495 => (if y495.length + bt487.1.length < 140737488355328 then ((some (y495 ++ bt487.1 : List Int)).bind fun y498 => ((laws_at.f l0 1).bind fun t501 => (if y498.length < 140737488355328 then ((impl_DeltaRead.f k (y498 ++ [(t501) % 256]) 0).bind fun bt505 => ((impl_Differences.f k t484).bind fun t510 => (if (t484.length : Int) > 0 then (if 0 < (t484.length : Int) then (laws_FnDelta.j0 k t484 bt487.1 bt505.1 bt505.2.1 bt505.2.2 t510 (rd t484 0)) else (none)) else (laws_FnDelta.j0 k t484 bt487.1 bt505.1 bt505.2.1 bt505.2.2 t510 0)))) else (none)))) else (none))) else (some ((bt487.1.length : Int) == 0)))))) = some r := H
    have A4 := Aside0.mk A40
    clear A40
    replace H := Option.bind_eq_some_iff.mp H
    obtain ⟨⟨t487, t488⟩, A50, H⟩ := H
    replace H : ((spec_DeltaPack.f k t484).bind fun bt491 => (if (t488 != bt491.2) = true then (some false) else (if t488 = true then ((some (([] : List Int) : List Int)).bind fun y495 => (if y495.length + t487.length < 140737488355328 then ((some (y495 ++ t487 : List Int)).bind fun y498 => ((laws_at.f l0 1).bind fun t501 => (if y498.length < 140737488355328 then ((impl_DeltaRead.f k (y498 ++ [(t501) % 256]) 0).bind fun bt505 => ((impl_Differences.f k t484).bind fun t510 => (if (t484.length : Int) > 0 then (if 0 < (t484.length : Int) then (laws_FnDelta.j0 k t484 t487 bt505.1 bt505.2.1 bt505.2.2 t510 (rd t484 0)) else (none)) else (laws_FnDelta.j0 k t484 t487 bt505.1 bt505.2.1 bt505.2.2 t510 0)))) else (none)))) else (none))) else (some ((t487.length : Int) == 0))))) = some r := H
    have A5 := Aside0.mk A50
    clear A50
    replace H := Option.bind_eq_some_iff.mp H
    obtain ⟨⟨t491, t492⟩, A60, H⟩ := H
    replace H : (if (t488 != t492) = true then (some false) else (if t488 = true then ((some (([] : List Int) : List Int)).bind fun y495 => (if y495.length + t487.length < 140737488355328 then ((some (y495 ++ t487 : List Int)).bind fun y498 => ((laws_at.f l0 1).bind fun t501 => (if y498.length < 140737488355328 then ((impl_DeltaRead.f k (y498 ++ [(t501) % 256]) 0).bind fun bt505 => ((impl_Differences.f k t484).bind fun t510 => (if (t484.length : Int) > 0 then (if 0 < (t484.length : Int) then (laws_FnDelta.j0 k t484 t487 bt505.1 bt505.2.1 bt505.2.2 t510 (rd t484 0)) else (none)) else (laws_FnDelta.j0 k t484 t487 bt505.1 bt505.2.1 bt505.2.2 t510 0)))) else (none)))) else (none))) else (some ((t487.length : Int) == 0)))) = some r := H
    have A6 := Aside0.mk A60
    clear A60
    by_cases c7 : (t488 != t492) = true
    · rw [if_pos c7] at H
      have c7b0 : (t488 != t492) = true := c7
      (try (have c7b1 : decide (t488 = t492) = false := by simpa using c7))
      (try (have c7b2 : (t488 == t492) = false := by simpa using c7))
      (try (have c7b3 : ¬ (t488 = t492) := by simpa using c7))
      clear c7
      obtain rfl := Option.some.inj H
      go_enter Try.func3, Try.ntmps3
      go_wp2_with (first | ((with_reducible refine gate_callee (f := 7) rfl ?_); refine goesL_ (some 15) rfl rfl Try.func7 (by kernel_rfl) rfl #[.slice A0 l0.length c0] rfl (by (try simp only [List.map_toArray, List.map_cons, List.map_nil]); first | done | rfl | (simp only [List.length_drop, List.length_take]; rfl)) ?_; (with_reducible refine (laws_big.calls _ _ l0 false _ ?side1 ?side2 A2.out).mono ?_); (case side1 => repeat (first | exact HR0.out | (with_reducible refine Kd.C_alloc ?_ _) | (with_reducible refine Kd.C_drewN ?_ _) | (with_reducible refine Kd.C_drew ?_))); (case side2 => exact HC0.out); rintro e w' ⟨rfl, ⟨nd, rfl⟩⟩; refine ⟨_, rfl, ?_⟩) | ((with_reducible refine gate_callee (f := 8) rfl ?_); refine goesL_ (some 17) rfl rfl Try.func8 (by kernel_rfl) rfl #[.slice A0 l0.length c0] rfl (by (try simp only [List.map_toArray, List.map_cons, List.map_nil]); first | done | rfl | (simp only [List.length_drop, List.length_take]; rfl)) ?_; (with_reducible refine (spec_DrawDeltaPack.calls k _ _ l0 t484 _ ?side1 ?side2 A4.out).mono ?_); (case side1 => repeat (first | exact HR0.out | (with_reducible refine Kd.C_alloc ?_ _) | (with_reducible refine Kd.C_drewN ?_ _) | (with_reducible refine Kd.C_drew ?_))); (case side2 => exact HC0.out); rintro e w8 ⟨v485, rfl, ho0, hb⟩; refine ⟨_, rfl, ?_⟩; have n0_ := Aside0.mk (Kd.R_lower ho0 (below_size (below_later HB.out))); have n1_ := Aside0.mk (below_step (below_later HB.out) hb); clear HB; have HO486 := n0_; have HB := n1_; clear n0_ n1_; (try clear hb); (try clear hb2); (try clear hk); (try clear hi); (try clear ho0); obtain ⟨Ao9, co9, eo9⟩ := Kd.R_slice HO486.out; subst eo9) | ((with_reducible refine gate_callee (f := 9) rfl ?_); refine goesL_ (some 20) rfl rfl Try.func9 (by kernel_rfl) rfl #[.slice Ao9 t484.length co9] rfl (by (try simp only [List.map_toArray, List.map_cons, List.map_nil]); first | done | rfl | (simp only [List.length_drop, List.length_take]; rfl)) ?_; (with_reducible refine (impl_DeltaPack.calls k _ _ t484 t487 t488 _ ?side1 ?side2 A5.out).mono ?_); (case side1 => repeat (first | exact (Kd.R_reads' HO486.out).2.2 | (with_reducible refine Kd.C_alloc ?_ _) | (with_reducible refine Kd.C_drewN ?_ _) | (with_reducible refine Kd.C_drew ?_))); (case side2 => exact (Kd.R_reads' HO486.out).2.1); rintro e w10 ⟨v489, rfl, ho0, hb⟩; refine ⟨_, rfl, ?_⟩; have n0_ := Aside0.mk (Kd.R_below (R_later HO486.out) hb); have n1_ := Aside0.mk (Kd.R_lower ho0 (below_size (below_later HB.out))); have n2_ := Aside0.mk (below_step (below_later HB.out) hb); clear HO486; clear HB; have HO486 := n0_; have HO490 := n1_; have HB := n2_; clear n0_ n1_ n2_; (try clear hb); (try clear hb2); (try clear hk); (try clear hi); (try clear ho0)) | ((with_reducible refine gate_callee (f := 10) rfl ?_); refine goesL_ (some 25) rfl rfl Try.func10 (by kernel_rfl) rfl #[.slice Ao9 t484.length co9] rfl (by (try simp only [List.map_toArray, List.map_cons, List.map_nil]); first | done | rfl | (simp only [List.length_drop, List.length_take]; rfl)) ?_; (with_reducible refine (spec_DeltaPack.calls k _ _ t484 t491 t492 _ ?side1 ?side2 A6.out).mono ?_); (case side1 => repeat (first | exact (Kd.R_reads' HO486.out).2.2 | (with_reducible refine Kd.C_alloc ?_ _) | (with_reducible refine Kd.C_drewN ?_ _) | (with_reducible refine Kd.C_drew ?_))); (case side2 => exact (Kd.R_reads' HO486.out).2.1); rintro e w11 ⟨v493, rfl, ho0, hb⟩; refine ⟨_, rfl, ?_⟩; have n0_ := Aside0.mk (Kd.R_below (R_later HO486.out) hb); have n1_ := Aside0.mk (Kd.R_elder' (R_later HO490.out) (Kd.R_base ho0) hb); have n2_ := Aside0.mk (Kd.R_lower (Kd.R_new' ho0 (Kd.R_lt (R_later HO490.out))) (below_size (below_later HB.out))); have n3_ := Aside0.mk (below_step (below_later HB.out) hb); clear HO486; clear HO490; clear HB; have HO486 := n0_; have HO490 := n1_; have HO494 := n2_; have HB := n3_; clear n0_ n1_ n2_ n3_; (try clear hb); (try clear hb2); (try clear hk); (try clear hi); (try clear ho0)))
      go_ret
      exact ⟨by first | rfl | (simp [errW_none, errW_some] <;> rfl) | (simp [*, errW_none, errW_some] <;> rfl), below_later HB.out⟩
    · rw [if_neg c7] at H
      have c7b0 : (t488 != t492) = false := by simpa using c7
      (try (have c7b1 : decide (t488 = t492) = true := by simpa using c7))
      (try (have c7b2 : (t488 == t492) = true := by simpa using c7))
      clear c7
      by_cases c12 : t488 = true
      · subst c12
        have H1 : ((some (([] : List Int) : List Int)).bind fun y495 => (if y495.length + t487.length < 140737488355328 then ((some (y495 ++ t487 : List Int)).bind fun y498 => ((laws_at.f l0 1).bind fun t501 => (if y498.length < 140737488355328 then ((impl_DeltaRead.f k (y498 ++ [(t501) % 256]) 0).bind fun bt505 => ((impl_Differences.f k t484).bind fun t510 => (if (t484.length : Int) > 0 then (if 0 < (t484.length : Int) then (laws_FnDelta.j0 k t484 t487 bt505.1 bt505.2.1 bt505.2.2 t510 (rd t484 0)) else (none)) else (laws_FnDelta.j0 k t484 t487 bt505.1 bt505.2.1 bt505.2.2 t510 0)))) else (none)))) else (none))) = some r := by rw [if_pos rfl] at H; exact H
        clear H
        have H := H1
        clear H1
        obtain ⟨y495, hy495⟩ : ∃ y_ : List Int, y_ = (([] : List Int)) := ⟨_, rfl⟩
        replace H : (if y495.length + t487.length < 140737488355328 then ((some (y495 ++ t487 : List Int)).bind fun y498 => ((laws_at.f l0 1).bind fun t501 => (if y498.length < 140737488355328 then ((impl_DeltaRead.f k (y498 ++ [(t501) % 256]) 0).bind fun bt505 => ((impl_Differences.f k t484).bind fun t510 => (if (t484.length : Int) > 0 then (if 0 < (t484.length : Int) then (laws_FnDelta.j0 k t484 t487 bt505.1 bt505.2.1 bt505.2.2 t510 (rd t484 0)) else (none)) else (laws_FnDelta.j0 k t484 t487 bt505.1 bt505.2.1 bt505.2.2 t510 0)))) else (none)))) else (none)) = some r := by first | (rw [hy495]; with_reducible exact H) | (have H2_ := (Option.bind_some _ _).symm.trans H; rw [hy495]; with_reducible exact H2_) | (have H2_ := (Option.bind_some _ _).symm.trans H; with_reducible exact H2_) | with_reducible exact H | (rw [hy495]; exact H) | exact H
        have Ny495 := Aside0.mk hy495
        clear hy495
        by_cases c13 : y495.length + t487.length < 140737488355328
        · rw [if_pos c13] at H
          have LMc13 := Aside0.mk c13
          clear c13
          obtain ⟨y498, hy498⟩ : ∃ y_ : List Int, y_ = (y495 ++ t487) := ⟨_, rfl⟩
          replace H : ((laws_at.f l0 1).bind fun t501 => (if y498.length < 140737488355328 then ((impl_DeltaRead.f k (y498 ++ [(t501) % 256]) 0).bind fun bt505 => ((impl_Differences.f k t484).bind fun t510 => (if (t484.length : Int) > 0 then (if 0 < (t484.length : Int) then (laws_FnDelta.j0 k t484 t487 bt505.1 bt505.2.1 bt505.2.2 t510 (rd t484 0)) else (none)) else (laws_FnDelta.j0 k t484 t487 bt505.1 bt505.2.1 bt505.2.2 t510 0)))) else (none))) = some r := by first | (rw [hy498]; with_reducible exact H) | (have H2_ := (Option.bind_some _ _).symm.trans H; rw [hy498]; with_reducible exact H2_) | (have H2_ := (Option.bind_some _ _).symm.trans H; with_reducible exact H2_) | with_reducible exact H | (rw [hy498]; exact H) | exact H
          have Ny498 := Aside0.mk hy498
          clear hy498
          replace H := Option.bind_eq_some_iff.mp H
          obtain ⟨t501, A140, H⟩ := H
          replace H : (if y498.length < 140737488355328 then ((impl_DeltaRead.f k (y498 ++ [(t501) % 256]) 0).bind fun bt505 => ((impl_Differences.f k t484).bind fun t510 => (if (t484.length : Int) > 0 then (if 0 < (t484.length : Int) then (laws_FnDelta.j0 k t484 t487 bt505.1 bt505.2.1 bt505.2.2 t510 (rd t484 0)) else (none)) else (laws_FnDelta.j0 k t484 t487 bt505.1 bt505.2.1 bt505.2.2 t510 0)))) else (none)) = some r := H
          have A14 := Aside0.mk A140
          clear A140
          by_cases c15 : y498.length < 140737488355328
          · rw [if_pos c15] at H
            have LMc15 := Aside0.mk c15
            clear c15
            obtain ⟨y502, hy502⟩ : ∃ y_ : List Int, y_ = (y498 ++ [(t501) % 256]) := ⟨_, rfl⟩
            replace H : ((impl_DeltaRead.f k y502 0).bind fun bt505 => ((impl_Differences.f k t484).bind fun t510 => (if (t484.length : Int) > 0 then (if 0 < (t484.length : Int) then (laws_FnDelta.j0 k t484 t487 bt505.1 bt505.2.1 bt505.2.2 t510 (rd t484 0)) else (none)) else (laws_FnDelta.j0 k t484 t487 bt505.1 bt505.2.1 bt505.2.2 t510 0)))) = some r := by first | (rw [hy502]; with_reducible exact H) | (have H2_ := (Option.bind_some _ _).symm.trans H; rw [hy502]; with_reducible exact H2_) | (have H2_ := (Option.bind_some _ _).symm.trans H; with_reducible exact H2_) | with_reducible exact H | (rw [hy502]; exact H) | exact H
            have Ny502 := Aside0.mk hy502
            clear hy502
            replace H := Option.bind_eq_some_iff.mp H
            obtain ⟨⟨t505, t506, t507⟩, A160, H⟩ := H
            replace H : ((impl_Differences.f k t484).bind fun t510 => (if (t484.length : Int) > 0 then (if 0 < (t484.length : Int) then (laws_FnDelta.j0 k t484 t487 t505 t506 t507 t510 (rd t484 0)) else (none)) else (laws_FnDelta.j0 k t484 t487 t505 t506 t507 t510 0))) = some r := H
            have A16 := Aside0.mk A160
            clear A160
            replace H := Option.bind_eq_some_iff.mp H
            obtain ⟨t510, A170, H⟩ := H
            replace H : (if (t484.length : Int) > 0 then (if 0 < (t484.length : Int) then (laws_FnDelta.j0 k t484 t487 t505 t506 t507 t510 (rd t484 0)) else (none)) else (laws_FnDelta.j0 k t484 t487 t505 t506 t507 t510 0)) = some r := H
            have A17 := Aside0.mk A170
            clear A170
            have HC18 := Aside0.mk H
            clear H
            go_enter Try.func3, Try.ntmps3
            go_upto_if 53 with (first | ((with_reducible refine gate_callee (f := 7) rfl ?_); refine goesL_ (some 15) rfl rfl Try.func7 (by kernel_rfl) rfl #[.slice A0 l0.length c0] rfl (by (try simp only [List.map_toArray, List.map_cons, List.map_nil]); first | done | rfl | (simp only [List.length_drop, List.length_take]; rfl)) ?_; (with_reducible refine (laws_big.calls _ _ l0 false _ ?side1 ?side2 A2.out).mono ?_); (case side1 => repeat (first | exact HR0.out | (with_reducible refine Kd.C_alloc ?_ _) | (with_reducible refine Kd.C_drewN ?_ _) | (with_reducible refine Kd.C_drew ?_))); (case side2 => exact HC0.out); rintro e w' ⟨rfl, ⟨nd, rfl⟩⟩; refine ⟨_, rfl, ?_⟩) | ((with_reducible refine gate_callee (f := 8) rfl ?_); refine goesL_ (some 17) rfl rfl Try.func8 (by kernel_rfl) rfl #[.slice A0 l0.length c0] rfl (by (try simp only [List.map_toArray, List.map_cons, List.map_nil]); first | done | rfl | (simp only [List.length_drop, List.length_take]; rfl)) ?_; (with_reducible refine (spec_DrawDeltaPack.calls k _ _ l0 t484 _ ?side1 ?side2 A4.out).mono ?_); (case side1 => repeat (first | exact HR0.out | (with_reducible refine Kd.C_alloc ?_ _) | (with_reducible refine Kd.C_drewN ?_ _) | (with_reducible refine Kd.C_drew ?_))); (case side2 => exact HC0.out); rintro e w19 ⟨v485, rfl, ho0, hb⟩; refine ⟨_, rfl, ?_⟩; have n0_ := Aside0.mk (Kd.R_lower ho0 (below_size (below_later HB.out))); have n1_ := Aside0.mk (below_step (below_later HB.out) hb); clear HB; have HO486 := n0_; have HB := n1_; clear n0_ n1_; (try clear hb); (try clear hb2); (try clear hk); (try clear hi); (try clear ho0); obtain ⟨Ao20, co20, eo20⟩ := Kd.R_slice HO486.out; subst eo20) | ((with_reducible refine gate_callee (f := 9) rfl ?_); refine goesL_ (some 20) rfl rfl Try.func9 (by kernel_rfl) rfl #[.slice Ao20 t484.length co20] rfl (by (try simp only [List.map_toArray, List.map_cons, List.map_nil]); first | done | rfl | (simp only [List.length_drop, List.length_take]; rfl)) ?_; (with_reducible refine (impl_DeltaPack.calls k _ _ t484 t487 true _ ?side1 ?side2 A5.out).mono ?_); (case side1 => repeat (first | exact (Kd.R_reads' HO486.out).2.2 | (with_reducible refine Kd.C_alloc ?_ _) | (with_reducible refine Kd.C_drewN ?_ _) | (with_reducible refine Kd.C_drew ?_))); (case side2 => exact (Kd.R_reads' HO486.out).2.1); rintro e w21 ⟨v489, rfl, ho0, hb⟩; refine ⟨_, rfl, ?_⟩; have n0_ := Aside0.mk (Kd.R_below (R_later HO486.out) hb); have n1_ := Aside0.mk (Kd.R_lower ho0 (below_size (below_later HB.out))); have n2_ := Aside0.mk (below_step (below_later HB.out) hb); clear HO486; clear HB; have HO486 := n0_; have HO490 := n1_; have HB := n2_; clear n0_ n1_ n2_; (try clear hb); (try clear hb2); (try clear hk); (try clear hi); (try clear ho0)) | ((with_reducible refine gate_callee (f := 10) rfl ?_); refine goesL_ (some 25) rfl rfl Try.func10 (by kernel_rfl) rfl #[.slice Ao20 t484.length co20] rfl (by (try simp only [List.map_toArray, List.map_cons, List.map_nil]); first | done | rfl | (simp only [List.length_drop, List.length_take]; rfl)) ?_; (with_reducible refine (spec_DeltaPack.calls k _ _ t484 t491 t492 _ ?side1 ?side2 A6.out).mono ?_); (case side1 => repeat (first | exact (Kd.R_reads' HO486.out).2.2 | (with_reducible refine Kd.C_alloc ?_ _) | (with_reducible refine Kd.C_drewN ?_ _) | (with_reducible refine Kd.C_drew ?_))); (case side2 => exact (Kd.R_reads' HO486.out).2.1); rintro e w22 ⟨v493, rfl, ho0, hb⟩; refine ⟨_, rfl, ?_⟩; have n0_ := Aside0.mk (Kd.R_below (R_later HO486.out) hb); have n1_ := Aside0.mk (Kd.R_elder' (R_later HO490.out) (Kd.R_base ho0) hb); have n2_ := Aside0.mk (Kd.R_lower (Kd.R_new' ho0 (Kd.R_lt (R_later HO490.out))) (below_size (below_later HB.out))); have n3_ := Aside0.mk (below_step (below_later HB.out) hb); clear HO486; clear HO490; clear HB; have HO486 := n0_; have HO490 := n1_; have HO494 := n2_; have HB := n3_; clear n0_ n1_ n2_ n3_; (try clear hb); (try clear hb2); (try clear hk); (try clear hi); (try clear ho0)) | ((with_reducible refine gate_dst (N := 37) rfl ?_); (try (refine gate_guard (by rfl) ?_; dsimp only)); refine Kd.R_lit (Kd.int .u8) _ 5 ?hg (N := 37) ?hd (xs := ([] : List Int)) (inner := []) (ok := fun _ => True) (okp := fun _ => True) ?hr ?hp (fun _ hk => hk) trivial (Below.refl _ _) (Nat.le_refl _) (by simp) ?_; (case hd => rfl); (case hg => rfl); (case hr => first | (go_simp; done) | (go_simp; rfl)); (case hp => exact (Reps.none _ _)); intro v496 w23 ho24 hb hg_ hnew_; clear hg_ hnew_; (first | rw [← Ny495.out] at ho24 | (simp only [Int.reduceToNat] at ho24; rw [← Ny495.out] at ho24)); have n0_ := Aside0.mk (Kd.R_below (R_later HO486.out) hb); have n1_ := Aside0.mk (Kd.R_elder' (R_later HO490.out) (Kd.R_base ho24) hb); have n2_ := Aside0.mk (Kd.R_elder' (R_later HO494.out) (Kd.R_base ho24) hb); have n3_ := Aside0.mk (Kd.R_lower (Kd.R_new' (Kd.R_new' ho24 (Kd.R_lt (R_later HO490.out))) (Kd.R_lt (R_later HO494.out))) (below_size (below_later HB.out))); have n4_ := Aside0.mk (below_step (below_later HB.out) hb); clear HO486; clear HO490; clear HO494; clear HB; have HO486 := n0_; have HO490 := n1_; have HO494 := n2_; have HO497 := n3_; have HB := n4_; clear n0_ n1_ n2_ n3_ n4_; clear hb ho24; obtain ⟨Ao26, co26, eo26⟩ := Kd.R_slice HO490.out; subst eo26) | ((with_reducible refine gate_builtin (b := .append) (xs := #[.tmp 37, .tmp 38]) rfl ?_); (try (refine gate_guard (by rfl) ?_; dsimp only)); at_builtin; refine Kd.R_append_rows (Kd.int .u8) (w0 := w) w.heap.size rfl (.tmp 37) (.tmp 38) 22 5 (.int .u8 0) 1 rfl Try.underlying22 info5 rfl (by decide) (by omega) v496 y495 t487 _ _ _ (fun k_ => some k_ ≠ (.slice Ao26 t487.length co26 : Value).ownBlock ∧ some k_ ≠ (v493 : Value).ownBlock) (fun _ => False) rfl rfl ?aO ?aR (fun _ _ h => h) (fun _ h => h.elim) ?aF ?aB ?aS ?aL ?_; (case aR => repeat (first | exact (Kd.R_reads' HO490.out).2.2 | (with_reducible refine Kd.C_alloc ?_ _) | (with_reducible refine Kd.C_drewN ?_ _) | (with_reducible refine Kd.C_drew ?_))); (case aB => exact (below_later HB.out)); (case aF => exact (fun k_ hk => ⟨Kd.fresh' (Kd.R_lt (R_later HO490.out)) k_ hk, Kd.fresh' (Kd.R_lt (R_later HO494.out)) k_ hk⟩)); (case aO => exact (by (with_reducible repeat (first | apply Kd.R_alloc | apply Kd.R_drewN | apply Kd.R_drew)); exact Kd.R_mono HO497.out (fun _ hk => ⟨hk.1.2, hk.2⟩))); (case aS => exact (below_size (below_later HB.out))); (case aL => have := LMc13.out; omega); intro v499 w25 ho hb hg hat; rw [← Ny498.out] at ho; have n0_ := Aside0.mk (Kd.R_over' (R_later HO486.out) (Kd.R_typed (R_later HO497.out)) (by decide) hg); have n1_ := Aside0.mk (Kd.R_after (ok := (fun k_ => some k_ ≠ (v493 : Value).ownBlock)) (by (with_reducible repeat (first | apply Kd.R_alloc | apply Kd.R_drewN | apply Kd.R_drew)); exact Kd.R_mono HO490.out (fun _ hk => ⟨hk.1.2, hk.2⟩)) hg hat); have n2_ := Aside0.mk (Kd.R_after (ok := (fun k_ => some k_ ≠ (.slice Ao26 t487.length co26 : Value).ownBlock)) (by (with_reducible repeat (first | apply Kd.R_alloc | apply Kd.R_drewN | apply Kd.R_drew)); exact Kd.R_mono HO494.out (fun _ hk => ⟨hk.1.2, hk.2⟩)) hg hat); have n3_ := Aside0.mk (hb); have n4_ := Aside0.mk (ho); clear HO486; clear HO490; clear HO494; clear HB; clear HO497; have HO486 := n0_; have HO490 := n1_; have HO494 := n2_; have HB := n3_; have HO500 := n4_; clear n0_ n1_ n2_ n3_ n4_; clear ho hb hg hat) | ((with_reducible refine gate_callee (f := 12) rfl ?_); refine goesL_ (some 41) rfl rfl Try.func12 (by kernel_rfl) rfl #[.slice A0 l0.length c0, .int .i64 1] rfl (by (try simp only [List.map_toArray, List.map_cons, List.map_nil]); first | done | rfl | (simp only [List.length_drop, List.length_take]; rfl)) ?_; (with_reducible refine (laws_at.calls _ _ l0 1 t501 _ ?side1 ?side2 A14.out).mono ?_); (case side1 => repeat (first | exact (Kd.C_below HR0.out HB.out) | (with_reducible refine Kd.C_alloc ?_ _) | (with_reducible refine Kd.C_drewN ?_ _) | (with_reducible refine Kd.C_drew ?_))); (case side2 => exact HC0.out); rintro e w' ⟨rfl, ⟨nd, rfl⟩⟩; refine ⟨_, rfl, ?_⟩) | ((with_reducible refine gate_builtin (b := .append) (xs := #[.tmp 39, .tmp 43]) rfl ?_); (try (refine gate_guard (by rfl) ?_; dsimp only)); at_builtin; refine Kd.R_append (Kd.int .u8) (w0 := w) w.heap.size rfl (.tmp 39) (.tmp 43) 22 5 (.int .u8 0) 1 rfl Try.underlying22 info5 rfl (by decide) (by omega) v499 y498 ((t501) % 256) [.int .u8 ((t501) % 256)] (fun k_ => some k_ ≠ (.slice Ao26 t487.length co26 : Value).ownBlock ∧ some k_ ≠ (v493 : Value).ownBlock) (fun _ => False) rfl rfl ?aP (fun _ hk => hk.elim) ?aF ?aO ?aB ?aS ?aL ?_; (case aP => exact rfl); (case aB => exact (below_later HB.out)); (case aF => exact (fun k_ hk => ⟨Kd.fresh' (Kd.R_lt (R_later HO490.out)) k_ hk, Kd.fresh' (Kd.R_lt (R_later HO494.out)) k_ hk⟩)); (case aO => exact (R_later HO500.out)); (case aS => exact (below_size (below_later HB.out))); (case aL => have := LMc15.out; omega); intro v503 w27 ho hb hg hat; rw [← Ny502.out] at ho; have n0_ := Aside0.mk (Kd.R_over' (R_later HO486.out) (Kd.R_typed (R_later HO500.out)) (by decide) hg); have n1_ := Aside0.mk (Kd.R_after (ok := (fun k_ => some k_ ≠ (v493 : Value).ownBlock)) (R_later HO490.out) hg hat); have n2_ := Aside0.mk (Kd.R_after (ok := (fun k_ => some k_ ≠ (.slice Ao26 t487.length co26 : Value).ownBlock)) (R_later HO494.out) hg hat); have n3_ := Aside0.mk (hb); have n4_ := Aside0.mk (ho); clear HO486; clear HO490; clear HO494; clear HB; clear HO500; have HO486 := n0_; have HO490 := n1_; have HO494 := n2_; have HB := n3_; have HO504 := n4_; clear n0_ n1_ n2_ n3_ n4_; clear ho hb hg hat; obtain ⟨Ao28, co28, eo28⟩ := Kd.R_slice HO504.out; subst eo28) | ((with_reducible refine gate_callee (f := 11) rfl ?_); refine goesL_ (some 45) rfl rfl Try.func11 (by kernel_rfl) rfl #[.slice Ao28 y502.length co28, .int .i64 0] rfl (by (try simp only [List.map_toArray, List.map_cons, List.map_nil]); first | done | rfl | (simp only [List.length_drop, List.length_take]; rfl)) ?_; (with_reducible refine (impl_DeltaRead.calls k _ _ y502 0 t505 t506 t507 _ ?side1 ?side2 A16.out).mono ?_); (case side1 => repeat (first | exact (Kd.R_reads' HO504.out).2.2 | (with_reducible refine Kd.C_alloc ?_ _) | (with_reducible refine Kd.C_drewN ?_ _) | (with_reducible refine Kd.C_drew ?_))); (case side2 => exact (Kd.R_reads' HO504.out).2.1); rintro e w29 ⟨v508, rfl, ho0, hb⟩; refine ⟨_, rfl, ?_⟩; have n0_ := Aside0.mk (Kd.R_elder' (R_later HO486.out) (Kd.R_base ho0) hb); have n1_ := Aside0.mk (Kd.R_below (R_later HO490.out) hb); have n2_ := Aside0.mk (Kd.R_below (R_later HO494.out) hb); have n3_ := Aside0.mk (Kd.R_below (R_later HO504.out) hb); have n4_ := Aside0.mk (Kd.R_lower (Kd.R_new' ho0 (Kd.R_lt (R_later HO486.out))) (below_size (below_later HB.out))); have n5_ := Aside0.mk (below_step (below_later HB.out) hb); clear HO486; clear HO490; clear HO494; clear HO504; clear HB; have HO486 := n0_; have HO490 := n1_; have HO494 := n2_; have HO504 := n3_; have HO509 := n4_; have HB := n5_; clear n0_ n1_ n2_ n3_ n4_ n5_; (try clear hb); (try clear hb2); (try clear hk); (try clear hi); (try clear ho0)) | ((with_reducible refine gate_callee (f := 13) rfl ?_); refine goesL_ (some 50) rfl rfl Try.func13 (by kernel_rfl) rfl #[.slice Ao20 t484.length co20] rfl (by (try simp only [List.map_toArray, List.map_cons, List.map_nil]); first | done | rfl | (simp only [List.length_drop, List.length_take]; rfl)) ?_; (with_reducible refine (impl_Differences.calls k _ _ t484 t510 _ ?side1 ?side2 A17.out).mono ?_); (case side1 => repeat (first | exact (Kd.R_reads' HO486.out).2.2 | (with_reducible refine Kd.C_alloc ?_ _) | (with_reducible refine Kd.C_drewN ?_ _) | (with_reducible refine Kd.C_drew ?_))); (case side2 => exact (Kd.R_reads' HO486.out).2.1); rintro e w30 ⟨v511, rfl, ho0, hb⟩; refine ⟨_, rfl, ?_⟩; have n0_ := Aside0.mk (Kd.R_elder' (R_later HO486.out) (Kd.R_base ho0) hb); have n1_ := Aside0.mk (Kd.R_below (R_later HO490.out) hb); have n2_ := Aside0.mk (Kd.R_below (R_later HO494.out) hb); have n3_ := Aside0.mk (Kd.R_below (R_later HO504.out) hb); have n4_ := Aside0.mk (Kd.R_elder' (R_later HO509.out) (Kd.R_base ho0) hb); have n5_ := Aside0.mk (Kd.R_lower (Kd.R_new' (Kd.R_new' ho0 (Kd.R_lt (R_later HO486.out))) (Kd.R_lt (R_later HO509.out))) (below_size (below_later HB.out))); have n6_ := Aside0.mk (below_step (below_later HB.out) hb); clear HO486; clear HO490; clear HO494; clear HO504; clear HO509; clear HB; have HO486 := n0_; have HO490 := n1_; have HO494 := n2_; have HO504 := n3_; have HO509 := n4_; have HO512 := n5_; have HB := n6_; clear n0_ n1_ n2_ n3_ n4_ n5_ n6_; (try clear hb); (try clear hb2); (try clear hk); (try clear hi); (try clear ho0)))
            (try simp only [Act.put, List.setIfInBounds_toArray, List.set_cons_zero, List.set_cons_succ])
            go_cut [12] (fun v12 wc => ∃ (kq : Nat) (x12_17 : Int), v12 = .int .i64 x12_17 ∧ Aside0 (laws_FnDelta.j0 kq t484 t487 t505 t506 t507 t510 x12_17 = some r) ∧ Aside0 (kq ≤ k) ∧ Aside0 (Kd.R (Kd.int .i64) 3 wc w.heap.size (fun k_ => some k_ ≠ (v508 : Value).ownBlock ∧ some k_ ≠ (v511 : Value).ownBlock) (.slice Ao20 t484.length co20) t484) ∧ Aside0 (Kd.R (Kd.int .u8) 5 wc w.heap.size (fun _ => True) (.slice Ao26 t487.length co26) t487) ∧ Aside0 (Kd.R (Kd.int .i64) 3 wc w.heap.size (fun k_ => some k_ ≠ ((.slice Ao20 t484.length co20) : Value).ownBlock ∧ some k_ ≠ (v511 : Value).ownBlock) v508 t505) ∧ Aside0 (Kd.R (Kd.int .i64) 3 wc w.heap.size (fun k_ => some k_ ≠ ((.slice Ao20 t484.length co20) : Value).ownBlock ∧ some k_ ≠ (v508 : Value).ownBlock) v511 t510) ∧ Aside0 (Below w.heap.size w wc))
            case first =>
              have H := HC18.out
              clear HC18
              by_cases c31 : (t484.length : Int) > 0
              · rw [if_pos c31] at H
                have c31b0 : decide (0 < (t484.length : Int)) = true := decide_eq_true c31
                have c31b1 : decide (0 < t484.length) = true := decide_eq_true (by omega)
                clear c31
                (first | rw [c31b0] | rw [c31b1] | (simp only [i64_w, i32_w]; rw [c31b0]) | skip)
                by_cases c32 : 0 < (t484.length : Int)
                · rw [if_pos c32] at H
                  have c32b0 : decide (0 < (t484.length : Int)) = true := decide_eq_true c32
                  have c32b1 : decide (0 < t484.length) = true := decide_eq_true (by omega)
                  clear c32
                  have H' := Aside0.mk H
                  clear H
                  have p513 : 0 ≤ (0 : Int) := (by omega)
                  have q513 : 0 < (t484.length : Int) := of_decide_eq_true (by first | (with_reducible assumption) | assumption)
                  obtain ⟨ad513, e513, hx513_0⟩ := Kd.at_int (Kd.R_reads' HO486.out).2.2 0 p513 q513
                  cases e513
                  have qi513 : (0 < t484.length) = True := eq_true (by omega)
                  (try rw [show ((0 : Int)).toNat = 0 from rfl] at hx513_0)
                  (try rw [Addr.add_zero'] at hx513_0)
                  replace p513 := eq_true p513
                  replace q513 := eq_true q513
                  go_wp2
                  go_meet
                  case rel => exact ⟨_, (rd t484 0), (by first | rfl | (simp; done) | (simp [*]; done)), H', ⟨by first | omega | exact Nat.le_refl _⟩, ⟨by (with_reducible repeat (first | apply Kd.R_alloc | apply Kd.R_drewN | apply Kd.R_drew)); exact Kd.R_mono HO486.out (fun _ hk => ⟨hk.1.2, hk.2⟩)⟩, ⟨by (with_reducible repeat (first | apply Kd.R_alloc | apply Kd.R_drewN | apply Kd.R_drew)); exact Kd.R_mono HO490.out (fun _ hk => trivial)⟩, ⟨by (with_reducible repeat (first | apply Kd.R_alloc | apply Kd.R_drewN | apply Kd.R_drew)); exact Kd.R_mono HO509.out (fun _ hk => ⟨hk.1.2, hk.2⟩)⟩, ⟨by (with_reducible repeat (first | apply Kd.R_alloc | apply Kd.R_drewN | apply Kd.R_drew)); exact Kd.R_mono HO512.out (fun _ hk => ⟨hk.1.2, hk.2⟩)⟩, ⟨below_later HB.out⟩⟩
                · rw [if_neg c32] at H
                  exact absurd H (by simp)
              · rw [if_neg c31] at H
                have c31b0 : decide (0 < (t484.length : Int)) = false := decide_eq_false c31
                have c31b1 : decide (0 < t484.length) = false := decide_eq_false (by omega)
                clear c31
                (first | rw [c31b0] | rw [c31b1] | (simp only [i64_w, i32_w]; rw [c31b0]) | skip)
                have H' := Aside0.mk H
                clear H
                go_wp2
                go_meet
                case rel => exact ⟨_, (0), (by first | rfl | (simp; done) | (simp [*]; done)), H', ⟨by first | omega | exact Nat.le_refl _⟩, ⟨by (with_reducible repeat (first | apply Kd.R_alloc | apply Kd.R_drewN | apply Kd.R_drew)); exact Kd.R_mono HO486.out (fun _ hk => ⟨hk.1.2, hk.2⟩)⟩, ⟨by (with_reducible repeat (first | apply Kd.R_alloc | apply Kd.R_drewN | apply Kd.R_drew)); exact Kd.R_mono HO490.out (fun _ hk => trivial)⟩, ⟨by (with_reducible repeat (first | apply Kd.R_alloc | apply Kd.R_drewN | apply Kd.R_drew)); exact Kd.R_mono HO509.out (fun _ hk => ⟨hk.1.2, hk.2⟩)⟩, ⟨by (with_reducible repeat (first | apply Kd.R_alloc | apply Kd.R_drewN | apply Kd.R_drew)); exact Kd.R_mono HO512.out (fun _ hk => ⟨hk.1.2, hk.2⟩)⟩, ⟨below_later HB.out⟩⟩
            case rest =>
              clear HC18
              try clear c1
              try clear p2
              try clear c3
              try clear p5
              try clear q5
              try clear hx5
              try clear qi5
              try clear c7
              try clear c7b0
              try clear c7b1
              try clear c7b2
              try clear c8
              try clear c9
              try clear c10
              try clear c11
              try clear c12
              try clear c13
              try clear c15
              try clear c31
              try clear c31b0
              try clear c31b1
              try clear c32
              try clear c32b0
              try clear c32b1
              try clear hx513_0
              try clear p513
              try clear q513
              obtain ⟨kq, x12_17, rfl, HA, HJ17, HO_3, HO_4, HO_8, HO_11, HB⟩ := hcut
              cases kq with
              | zero => exact absurd HA.out (by simp [laws_FnDelta.j0])
              | succ kj17 =>
                have H := HA.out
                clear HA
                simp only [laws_FnDelta.j0] at H
                have H' := Aside0.mk H
                clear H
                go_wp2
                go_loopg [12, 13] kj17 (fun kq v12 v13 w' => ∃ (x12_2 : Int) (x13_2 : Int), v12 = .int .i64 x12_2 ∧ v13 = .int .i64 x13_2 ∧ Aside0 (laws_FnDelta.l0 kq t484 t487 t505 t506 t507 t510 x12_2 x13_2 = some r) ∧ Aside0 (kq ≤ kj17) ∧ Aside0 (Kd.R (Kd.int .i64) 3 w' w.heap.size (fun k_ => some k_ ≠ (v508 : Value).ownBlock ∧ some k_ ≠ (v511 : Value).ownBlock) (.slice Ao20 t484.length co20) t484) ∧ Aside0 (Kd.R (Kd.int .u8) 5 w' w.heap.size (fun _ => True) (.slice Ao26 t487.length co26) t487) ∧ Aside0 (Kd.R (Kd.int .i64) 3 w' w.heap.size (fun k_ => some k_ ≠ ((.slice Ao20 t484.length co20) : Value).ownBlock ∧ some k_ ≠ (v511 : Value).ownBlock) v508 t505) ∧ Aside0 (Kd.R (Kd.int .i64) 3 w' w.heap.size (fun k_ => some k_ ≠ ((.slice Ao20 t484.length co20) : Value).ownBlock ∧ some k_ ≠ (v508 : Value).ownBlock) v511 t510) ∧ Aside0 (Below w.heap.size w w'))
                case atStart => exact ⟨(x12_17), (0), (by first | rfl | (simp; done) | (simp [*]; done)), (by first | rfl | (simp; done) | (simp [*]; done)), H', ⟨Nat.le_refl _⟩, ⟨by (with_reducible repeat (first | apply Kd.R_alloc | apply Kd.R_drewN | apply Kd.R_drew)); exact HO_3.out⟩, ⟨by (with_reducible repeat (first | apply Kd.R_alloc | apply Kd.R_drewN | apply Kd.R_drew)); exact HO_4.out⟩, ⟨by (with_reducible repeat (first | apply Kd.R_alloc | apply Kd.R_drewN | apply Kd.R_drew)); exact HO_8.out⟩, ⟨by (with_reducible repeat (first | apply Kd.R_alloc | apply Kd.R_drewN | apply Kd.R_drew)); exact HO_11.out⟩, ⟨below_later HB.out⟩⟩
                case round =>
                  clear H'
                  try clear c1
                  try clear p2
                  try clear c3
                  try clear p5
                  try clear q5
                  try clear hx5
                  try clear qi5
                  try clear c7
                  try clear c7b0
                  try clear c7b1
                  try clear c7b2
                  try clear c8
                  try clear c9
                  try clear c10
                  try clear c11
                  try clear c12
                  try clear c13
                  try clear c15
                  try clear c31
                  try clear c31b0
                  try clear c31b1
                  try clear c32
                  try clear c32b0
                  try clear c32b1
                  try clear hx513_0
                  try clear p2
                  try clear p5
                  try clear p513
                  try clear q5
                  try clear q513
                  obtain ⟨x12_2, x13_2, rfl, rfl, HA, HK2, HO_3, HO_4, HO_8, HO_11, HB⟩ := hrel
                  cases gk with
                  | zero => exact absurd HA.out (by simp [laws_FnDelta.l0])
                  | succ k2 =>
                    have H := HA.out
                    clear HA
                    simp only [laws_FnDelta.l0] at H
                    by_cases c33 : x13_2 < (t510.length : Int)
                    · rw [if_pos c33] at H
                      have c33b0 : decide (x13_2 < (t510.length : Int)) = true := decide_eq_true c33
                      clear c33
                      by_cases c34 : 0 ≤ x13_2
                      · rw [if_pos c34] at H
                        have c34b0 : decide (0 ≤ x13_2) = true := decide_eq_true c34
                        clear c34
                        have H' := Aside0.mk H
                        clear H
                        obtain ⟨Ao35, co35, eo35⟩ := Kd.R_slice HO_11.out
                        subst eo35
                        have p514 : 0 ≤ (x13_2 : Int) := of_decide_eq_true (by first | (with_reducible assumption) | assumption)
                        have q514 : x13_2 < (t510.length : Int) := of_decide_eq_true (by first | (with_reducible assumption) | assumption)
                        obtain ⟨ad514, e514, hx514_0⟩ := Kd.at_int (Kd.R_reads' HO_11.out).2.2 x13_2 p514 q514
                        cases e514
                        replace p514 := eq_true p514
                        replace q514 := eq_true q514
                        go_wp2
                        go_roundg k2
                        case measure => have := HJ17.out; have := HK2.out; omega
                        case rel => exact ⟨(wrap64 (x12_2 + (rd t510 x13_2))), (wrap64 (x13_2 + 1)), (by first | rfl | (simp; done) | (simp [*]; done)), (by first | rfl | (simp; done) | (simp [*]; done)), H', ⟨by have := HJ17.out; have := HK2.out; omega⟩, ⟨by (with_reducible repeat (first | apply Kd.R_alloc | apply Kd.R_drewN | apply Kd.R_drew)); exact HO_3.out⟩, ⟨by (with_reducible repeat (first | apply Kd.R_alloc | apply Kd.R_drewN | apply Kd.R_drew)); exact HO_4.out⟩, ⟨by (with_reducible repeat (first | apply Kd.R_alloc | apply Kd.R_drewN | apply Kd.R_drew)); exact HO_8.out⟩, ⟨by (with_reducible repeat (first | apply Kd.R_alloc | apply Kd.R_drewN | apply Kd.R_drew)); exact HO_11.out⟩, ⟨below_later HB.out⟩⟩
                      · rw [if_neg c34] at H
                        exact absurd H (by simp)
                    · rw [if_neg c33] at H
                      have c33b0 : decide (x13_2 < (t510.length : Int)) = false := decide_eq_false c33
                      clear c33
                      by_cases c36 : t507 = true
                      · subst c36
                        have H1 : (if t506 = (t487.length : Int) then ((laws_sameInts.f k2 t505 t484).bind fun t515 => (if t515 = true then (if (t484.length : Int) = 0 then (if (t510.length : Int) = 0 then (some true) else (if (t510.length : Int) = (wrap64 ((t484.length : Int) - 1)) then (some true) else (some false))) else (if (t510.length : Int) = (wrap64 ((t484.length : Int) - 1)) then (if 0 ≤ (wrap64 ((t484.length : Int) - 1)) then (if (wrap64 ((t484.length : Int) - 1)) < (t484.length : Int) then (some (x12_2 == (rd t484 (wrap64 ((t484.length : Int) - 1))))) else (none)) else (none)) else (some false))) else (some false))) else (some false)) = some r := by rw [if_pos rfl] at H; exact H
                        clear H
                        have H := H1
                        clear H1
                        by_cases c37 : t506 = (t487.length : Int)
                        · rw [if_pos c37] at H
                          have c37b0 : (t506 == (t487.length : Int)) = true := beq_iff_eq.mpr c37
                          have c37b1 : (t506 != (t487.length : Int)) = false := bne_eq_false_iff_eq.mpr c37
                          clear c37
                          replace H := Option.bind_eq_some_iff.mp H
                          obtain ⟨t515, A380, H⟩ := H
                          replace H : (if t515 = true then (if (t484.length : Int) = 0 then (if (t510.length : Int) = 0 then (some true) else (if (t510.length : Int) = (wrap64 ((t484.length : Int) - 1)) then (some true) else (some false))) else (if (t510.length : Int) = (wrap64 ((t484.length : Int) - 1)) then (if 0 ≤ (wrap64 ((t484.length : Int) - 1)) then (if (wrap64 ((t484.length : Int) - 1)) < (t484.length : Int) then (some (x12_2 == (rd t484 (wrap64 ((t484.length : Int) - 1))))) else (none)) else (none)) else (some false))) else (some false)) = some r := H
                          have A38 := Aside0.mk A380
                          clear A380
                          by_cases c39 : t515 = true
                          · subst c39
                            have H1 : (if (t484.length : Int) = 0 then (if (t510.length : Int) = 0 then (some true) else (if (t510.length : Int) = (wrap64 ((t484.length : Int) - 1)) then (some true) else (some false))) else (if (t510.length : Int) = (wrap64 ((t484.length : Int) - 1)) then (if 0 ≤ (wrap64 ((t484.length : Int) - 1)) then (if (wrap64 ((t484.length : Int) - 1)) < (t484.length : Int) then (some (x12_2 == (rd t484 (wrap64 ((t484.length : Int) - 1))))) else (none)) else (none)) else (some false))) = some r := by rw [if_pos rfl] at H; exact H
                            clear H
                            have H := H1
                            clear H1
                            by_cases c40 : (t484.length : Int) = 0
                            · rw [if_pos c40] at H
                              have c40b0 : ((t484.length : Int) == 0) = true := beq_iff_eq.mpr c40
                              have c40b1 : ((t484.length : Int) != 0) = false := bne_eq_false_iff_eq.mpr c40
                              clear c40
                              by_cases c41 : (t510.length : Int) = 0
                              · rw [if_pos c41] at H
                                have c41b0 : ((t510.length : Int) == 0) = true := beq_iff_eq.mpr c41
                                have c41b1 : ((t510.length : Int) != 0) = false := bne_eq_false_iff_eq.mpr c41
                                clear c41
                                obtain rfl := Option.some.inj H
                                obtain ⟨Ao42, co42, eo42⟩ := Kd.R_slice HO_11.out
                                subst eo42
                                obtain ⟨Ao43, co43, eo43⟩ := Kd.R_slice HO_8.out
                                subst eo43
                                go_wp2_with (first | (go_at_call 14; (with_reducible refine (laws_sameInts.calls k2 _ _ t505 _ _ t484 true _ ?side1 ?side2 ?side3 ?side4 A38.out).mono ?_); (case side1 => repeat (first | exact (Kd.R_reads' HO_8.out).2.2 | (with_reducible refine Kd.C_alloc ?_ _) | (with_reducible refine Kd.C_drewN ?_ _) | (with_reducible refine Kd.C_drew ?_))); (case side2 => exact (Kd.R_reads' HO_8.out).2.1); (case side3 => repeat (first | exact (Kd.R_reads' HO_3.out).2.2 | (with_reducible refine Kd.C_alloc ?_ _) | (with_reducible refine Kd.C_drewN ?_ _) | (with_reducible refine Kd.C_drew ?_))); (case side4 => exact (Kd.R_reads' HO_3.out).2.1); rintro e w' ⟨rfl, ⟨nd, rfl⟩⟩))
                                go_ret
                                exact ⟨by first | rfl | (simp [errW_none, errW_some] <;> rfl) | (simp [*, errW_none, errW_some] <;> rfl), below_later HB.out⟩
                              · rw [if_neg c41] at H
                                have c41b0 : ((t510.length : Int) == 0) = false := beq_eq_false_iff_ne.mpr c41
                                have c41b1 : ((t510.length : Int) != 0) = true := bne_iff_ne.mpr c41
                                have c41b2 : ¬ (t510 = []) := fun h_ => c41 (by rw [h_]; rfl)
                                by_cases c44 : (t510.length : Int) = (wrap64 ((t484.length : Int) - 1))
                                · rw [if_pos c44] at H
                                  have c44b0 : ((t510.length : Int) == (wrap64 ((t484.length : Int) - 1))) = true := beq_iff_eq.mpr c44
                                  have c44b1 : ((t510.length : Int) != (wrap64 ((t484.length : Int) - 1))) = false := bne_eq_false_iff_eq.mpr c44
                                  clear c44
                                  obtain rfl := Option.some.inj H
                                  obtain ⟨Ao45, co45, eo45⟩ := Kd.R_slice HO_11.out
                                  subst eo45
                                  obtain ⟨Ao46, co46, eo46⟩ := Kd.R_slice HO_8.out
                                  subst eo46
                                  go_wp2_with (first | (go_at_call 14; (with_reducible refine (laws_sameInts.calls k2 _ _ t505 _ _ t484 true _ ?side1 ?side2 ?side3 ?side4 A38.out).mono ?_); (case side1 => repeat (first | exact (Kd.R_reads' HO_8.out).2.2 | (with_reducible refine Kd.C_alloc ?_ _) | (with_reducible refine Kd.C_drewN ?_ _) | (with_reducible refine Kd.C_drew ?_))); (case side2 => exact (Kd.R_reads' HO_8.out).2.1); (case side3 => repeat (first | exact (Kd.R_reads' HO_3.out).2.2 | (with_reducible refine Kd.C_alloc ?_ _) | (with_reducible refine Kd.C_drewN ?_ _) | (with_reducible refine Kd.C_drew ?_))); (case side4 => exact (Kd.R_reads' HO_3.out).2.1); rintro e w' ⟨rfl, ⟨nd, rfl⟩⟩))
                                  go_ret
                                  exact ⟨by first | rfl | (simp [errW_none, errW_some] <;> rfl) | (simp [*, errW_none, errW_some] <;> rfl), below_later HB.out⟩
                                · rw [if_neg c44] at H
                                  have c44b0 : ((t510.length : Int) == (wrap64 ((t484.length : Int) - 1))) = false := beq_eq_false_iff_ne.mpr c44
                                  have c44b1 : ((t510.length : Int) != (wrap64 ((t484.length : Int) - 1))) = true := bne_iff_ne.mpr c44
                                  obtain rfl := Option.some.inj H
                                  obtain ⟨Ao47, co47, eo47⟩ := Kd.R_slice HO_11.out
                                  subst eo47
                                  obtain ⟨Ao48, co48, eo48⟩ := Kd.R_slice HO_8.out
                                  subst eo48
                                  go_wp2_with (first | (go_at_call 14; (with_reducible refine (laws_sameInts.calls k2 _ _ t505 _ _ t484 true _ ?side1 ?side2 ?side3 ?side4 A38.out).mono ?_); (case side1 => repeat (first | exact (Kd.R_reads' HO_8.out).2.2 | (with_reducible refine Kd.C_alloc ?_ _) | (with_reducible refine Kd.C_drewN ?_ _) | (with_reducible refine Kd.C_drew ?_))); (case side2 => exact (Kd.R_reads' HO_8.out).2.1); (case side3 => repeat (first | exact (Kd.R_reads' HO_3.out).2.2 | (with_reducible refine Kd.C_alloc ?_ _) | (with_reducible refine Kd.C_drewN ?_ _) | (with_reducible refine Kd.C_drew ?_))); (case side4 => exact (Kd.R_reads' HO_3.out).2.1); rintro e w' ⟨rfl, ⟨nd, rfl⟩⟩))
                                  go_ret
                                  exact ⟨by first | rfl | (simp [errW_none, errW_some] <;> rfl) | (simp [*, errW_none, errW_some] <;> rfl), below_later HB.out⟩
                            · rw [if_neg c40] at H
                              have c40b0 : ((t484.length : Int) == 0) = false := beq_eq_false_iff_ne.mpr c40
                              have c40b1 : ((t484.length : Int) != 0) = true := bne_iff_ne.mpr c40
                              have c40b2 : ¬ (t484 = []) := fun h_ => c40 (by rw [h_]; rfl)
                              by_cases c49 : (t510.length : Int) = (wrap64 ((t484.length : Int) - 1))
                              · rw [if_pos c49] at H
                                have c49b0 : ((t510.length : Int) == (wrap64 ((t484.length : Int) - 1))) = true := beq_iff_eq.mpr c49
                                have c49b1 : ((t510.length : Int) != (wrap64 ((t484.length : Int) - 1))) = false := bne_eq_false_iff_eq.mpr c49
                                clear c49
                                obtain ⟨ji50, hji50⟩ : ∃ j_ : Int, (wrap64 ((t484.length : Int) - 1)) = j_ := ⟨_, rfl⟩
                                replace H : (if 0 ≤ (ji50) then (if (ji50) < (t484.length : Int) then (some (x12_2 == (rd t484 (ji50)))) else (none)) else (none)) = some r := by first | (rw [hji50] at H; exact H) | (simp only [hji50] at H ⊢; exact H)
                                (try rw [hji50] at c49b0)
                                (try rw [hji50] at c49b1)
                                (try rw [hji50] at A38)
                                have hji50w : (IntKind.i64.wrap ((t484.length : Int) - 1)) = ji50 := (i64_w _).trans hji50
                                by_cases c51 : 0 ≤ (ji50)
                                · rw [if_pos c51] at H
                                  have c51b0 : decide (0 ≤ (ji50)) = true := decide_eq_true c51
                                  clear c51
                                  by_cases c52 : (ji50) < (t484.length : Int)
                                  · rw [if_pos c52] at H
                                    have c52b0 : decide ((ji50) < (t484.length : Int)) = true := decide_eq_true c52
                                    clear c52
                                    obtain rfl := Option.some.inj H
                                    obtain ⟨Ao53, co53, eo53⟩ := Kd.R_slice HO_11.out
                                    subst eo53
                                    obtain ⟨Ao54, co54, eo54⟩ := Kd.R_slice HO_8.out
                                    subst eo54
                                    go_wp2_with (first | (go_at_call 14; (with_reducible refine (laws_sameInts.calls k2 _ _ t505 _ _ t484 true _ ?side1 ?side2 ?side3 ?side4 A38.out).mono ?_); (case side1 => repeat (first | exact (Kd.R_reads' HO_8.out).2.2 | (with_reducible refine Kd.C_alloc ?_ _) | (with_reducible refine Kd.C_drewN ?_ _) | (with_reducible refine Kd.C_drew ?_))); (case side2 => exact (Kd.R_reads' HO_8.out).2.1); (case side3 => repeat (first | exact (Kd.R_reads' HO_3.out).2.2 | (with_reducible refine Kd.C_alloc ?_ _) | (with_reducible refine Kd.C_drewN ?_ _) | (with_reducible refine Kd.C_drew ?_))); (case side4 => exact (Kd.R_reads' HO_3.out).2.1); rintro e w' ⟨rfl, ⟨nd, rfl⟩⟩; have p516 : 0 ≤ ((ji50) : Int) := of_decide_eq_true (by first | (with_reducible assumption) | assumption); have q516 : (ji50) < (t484.length : Int) := of_decide_eq_true (by first | (with_reducible assumption) | assumption); obtain ⟨ad516, e516, hx516_0⟩ := Kd.at_int (Kd.R_reads' HO_3.out).2.2 (ji50) p516 q516; cases e516; replace p516 := eq_true p516; replace q516 := eq_true q516))
                                    go_ret
                                    exact ⟨by first | rfl | (simp [errW_none, errW_some] <;> rfl) | (simp only [← hji50]; first | rfl | (simp [errW_none, errW_some] <;> rfl)) | (simp [*, errW_none, errW_some] <;> rfl), below_later HB.out⟩
                                  · rw [if_neg c52] at H
                                    exact absurd H (by simp)
                                · rw [if_neg c51] at H
                                  exact absurd H (by simp)
                              · rw [if_neg c49] at H
                                have c49b0 : ((t510.length : Int) == (wrap64 ((t484.length : Int) - 1))) = false := beq_eq_false_iff_ne.mpr c49
                                have c49b1 : ((t510.length : Int) != (wrap64 ((t484.length : Int) - 1))) = true := bne_iff_ne.mpr c49
                                obtain rfl := Option.some.inj H
                                obtain ⟨Ao55, co55, eo55⟩ := Kd.R_slice HO_11.out
                                subst eo55
                                obtain ⟨Ao56, co56, eo56⟩ := Kd.R_slice HO_8.out
                                subst eo56
                                go_wp2_with (first | (go_at_call 14; (with_reducible refine (laws_sameInts.calls k2 _ _ t505 _ _ t484 true _ ?side1 ?side2 ?side3 ?side4 A38.out).mono ?_); (case side1 => repeat (first | exact (Kd.R_reads' HO_8.out).2.2 | (with_reducible refine Kd.C_alloc ?_ _) | (with_reducible refine Kd.C_drewN ?_ _) | (with_reducible refine Kd.C_drew ?_))); (case side2 => exact (Kd.R_reads' HO_8.out).2.1); (case side3 => repeat (first | exact (Kd.R_reads' HO_3.out).2.2 | (with_reducible refine Kd.C_alloc ?_ _) | (with_reducible refine Kd.C_drewN ?_ _) | (with_reducible refine Kd.C_drew ?_))); (case side4 => exact (Kd.R_reads' HO_3.out).2.1); rintro e w' ⟨rfl, ⟨nd, rfl⟩⟩))
                                go_ret
                                exact ⟨by first | rfl | (simp [errW_none, errW_some] <;> rfl) | (simp [*, errW_none, errW_some] <;> rfl), below_later HB.out⟩
                          · replace c39 := Bool.eq_false_iff.mpr c39
                            subst c39
                            have H1 : (some false) = some r := by rw [if_neg (show ¬ (false = true) by decide)] at H; exact H
                            clear H
                            have H := H1
                            clear H1
                            obtain rfl := Option.some.inj H
                            obtain ⟨Ao57, co57, eo57⟩ := Kd.R_slice HO_11.out
                            subst eo57
                            obtain ⟨Ao58, co58, eo58⟩ := Kd.R_slice HO_8.out
                            subst eo58
                            go_wp2_with (first | (go_at_call 14; (with_reducible refine (laws_sameInts.calls k2 _ _ t505 _ _ t484 false _ ?side1 ?side2 ?side3 ?side4 A38.out).mono ?_); (case side1 => repeat (first | exact (Kd.R_reads' HO_8.out).2.2 | (with_reducible refine Kd.C_alloc ?_ _) | (with_reducible refine Kd.C_drewN ?_ _) | (with_reducible refine Kd.C_drew ?_))); (case side2 => exact (Kd.R_reads' HO_8.out).2.1); (case side3 => repeat (first | exact (Kd.R_reads' HO_3.out).2.2 | (with_reducible refine Kd.C_alloc ?_ _) | (with_reducible refine Kd.C_drewN ?_ _) | (with_reducible refine Kd.C_drew ?_))); (case side4 => exact (Kd.R_reads' HO_3.out).2.1); rintro e w' ⟨rfl, ⟨nd, rfl⟩⟩))
                            go_ret
                            exact ⟨by first | rfl | (simp [errW_none, errW_some] <;> rfl) | (simp [*, errW_none, errW_some] <;> rfl), below_later HB.out⟩
                        · rw [if_neg c37] at H
                          have c37b0 : (t506 == (t487.length : Int)) = false := beq_eq_false_iff_ne.mpr c37
                          have c37b1 : (t506 != (t487.length : Int)) = true := bne_iff_ne.mpr c37
                          obtain rfl := Option.some.inj H
                          obtain ⟨Ao59, co59, eo59⟩ := Kd.R_slice HO_11.out
                          subst eo59
                          go_wp2
                          go_ret
                          exact ⟨by first | rfl | (simp [errW_none, errW_some] <;> rfl) | (simp [*, errW_none, errW_some] <;> rfl), below_later HB.out⟩
                      · replace c36 := Bool.eq_false_iff.mpr c36
                        subst c36
                        have H1 : (some false) = some r := by rw [if_neg (show ¬ (false = true) by decide)] at H; exact H
                        clear H
                        have H := H1
                        clear H1
                        obtain rfl := Option.some.inj H
                        obtain ⟨Ao60, co60, eo60⟩ := Kd.R_slice HO_11.out
                        subst eo60
                        go_wp2
                        go_ret
                        exact ⟨by first | rfl | (simp [errW_none, errW_some] <;> rfl) | (simp [*, errW_none, errW_some] <;> rfl), below_later HB.out⟩
          · rw [if_neg c15] at H
            exact absurd H (by simp)
        · rw [if_neg c13] at H
          exact absurd H (by simp)
      · replace c12 := Bool.eq_false_iff.mpr c12
        subst c12
        have H1 : (some ((t487.length : Int) == 0)) = some r := by rw [if_neg (show ¬ (false = true) by decide)] at H; exact H
        clear H
        have H := H1
        clear H1
        obtain rfl := Option.some.inj H
        go_enter Try.func3, Try.ntmps3
        go_wp2_with (first | ((with_reducible refine gate_callee (f := 7) rfl ?_); refine goesL_ (some 15) rfl rfl Try.func7 (by kernel_rfl) rfl #[.slice A0 l0.length c0] rfl (by (try simp only [List.map_toArray, List.map_cons, List.map_nil]); first | done | rfl | (simp only [List.length_drop, List.length_take]; rfl)) ?_; (with_reducible refine (laws_big.calls _ _ l0 false _ ?side1 ?side2 A2.out).mono ?_); (case side1 => repeat (first | exact HR0.out | (with_reducible refine Kd.C_alloc ?_ _) | (with_reducible refine Kd.C_drewN ?_ _) | (with_reducible refine Kd.C_drew ?_))); (case side2 => exact HC0.out); rintro e w' ⟨rfl, ⟨nd, rfl⟩⟩; refine ⟨_, rfl, ?_⟩) | ((with_reducible refine gate_callee (f := 8) rfl ?_); refine goesL_ (some 17) rfl rfl Try.func8 (by kernel_rfl) rfl #[.slice A0 l0.length c0] rfl (by (try simp only [List.map_toArray, List.map_cons, List.map_nil]); first | done | rfl | (simp only [List.length_drop, List.length_take]; rfl)) ?_; (with_reducible refine (spec_DrawDeltaPack.calls k _ _ l0 t484 _ ?side1 ?side2 A4.out).mono ?_); (case side1 => repeat (first | exact HR0.out | (with_reducible refine Kd.C_alloc ?_ _) | (with_reducible refine Kd.C_drewN ?_ _) | (with_reducible refine Kd.C_drew ?_))); (case side2 => exact HC0.out); rintro e w61 ⟨v485, rfl, ho0, hb⟩; refine ⟨_, rfl, ?_⟩; have n0_ := Aside0.mk (Kd.R_lower ho0 (below_size (below_later HB.out))); have n1_ := Aside0.mk (below_step (below_later HB.out) hb); clear HB; have HO486 := n0_; have HB := n1_; clear n0_ n1_; (try clear hb); (try clear hb2); (try clear hk); (try clear hi); (try clear ho0); obtain ⟨Ao62, co62, eo62⟩ := Kd.R_slice HO486.out; subst eo62) | ((with_reducible refine gate_callee (f := 9) rfl ?_); refine goesL_ (some 20) rfl rfl Try.func9 (by kernel_rfl) rfl #[.slice Ao62 t484.length co62] rfl (by (try simp only [List.map_toArray, List.map_cons, List.map_nil]); first | done | rfl | (simp only [List.length_drop, List.length_take]; rfl)) ?_; (with_reducible refine (impl_DeltaPack.calls k _ _ t484 t487 false _ ?side1 ?side2 A5.out).mono ?_); (case side1 => repeat (first | exact (Kd.R_reads' HO486.out).2.2 | (with_reducible refine Kd.C_alloc ?_ _) | (with_reducible refine Kd.C_drewN ?_ _) | (with_reducible refine Kd.C_drew ?_))); (case side2 => exact (Kd.R_reads' HO486.out).2.1); rintro e w63 ⟨v489, rfl, ho0, hb⟩; refine ⟨_, rfl, ?_⟩; have n0_ := Aside0.mk (Kd.R_below (R_later HO486.out) hb); have n1_ := Aside0.mk (Kd.R_lower ho0 (below_size (below_later HB.out))); have n2_ := Aside0.mk (below_step (below_later HB.out) hb); clear HO486; clear HB; have HO486 := n0_; have HO490 := n1_; have HB := n2_; clear n0_ n1_ n2_; (try clear hb); (try clear hb2); (try clear hk); (try clear hi); (try clear ho0)) | ((with_reducible refine gate_callee (f := 10) rfl ?_); refine goesL_ (some 25) rfl rfl Try.func10 (by kernel_rfl) rfl #[.slice Ao62 t484.length co62] rfl (by (try simp only [List.map_toArray, List.map_cons, List.map_nil]); first | done | rfl | (simp only [List.length_drop, List.length_take]; rfl)) ?_; (with_reducible refine (spec_DeltaPack.calls k _ _ t484 t491 t492 _ ?side1 ?side2 A6.out).mono ?_); (case side1 => repeat (first | exact (Kd.R_reads' HO486.out).2.2 | (with_reducible refine Kd.C_alloc ?_ _) | (with_reducible refine Kd.C_drewN ?_ _) | (with_reducible refine Kd.C_drew ?_))); (case side2 => exact (Kd.R_reads' HO486.out).2.1); rintro e w64 ⟨v493, rfl, ho0, hb⟩; refine ⟨_, rfl, ?_⟩; have n0_ := Aside0.mk (Kd.R_below (R_later HO486.out) hb); have n1_ := Aside0.mk (Kd.R_elder' (R_later HO490.out) (Kd.R_base ho0) hb); have n2_ := Aside0.mk (Kd.R_lower (Kd.R_new' ho0 (Kd.R_lt (R_later HO490.out))) (below_size (below_later HB.out))); have n3_ := Aside0.mk (below_step (below_later HB.out) hb); clear HO486; clear HO490; clear HB; have HO486 := n0_; have HO490 := n1_; have HO494 := n2_; have HB := n3_; clear n0_ n1_ n2_ n3_; (try clear hb); (try clear hb2); (try clear hk); (try clear hi); (try clear ho0); obtain ⟨Ao65, co65, eo65⟩ := Kd.R_slice HO490.out; subst eo65))
        go_ret
        exact ⟨by first | rfl | (simp [errW_none, errW_some] <;> rfl) | (simp [*, errW_none, errW_some] <;> rfl), below_later HB.out⟩

/-- THE ONE PURE STATEMENT of laws_FnDelta: yours. -/
def laws_FnDelta.Pure : Prop := ∀ (l0 : List Int), l0.length ≤ maxLen → l0.length * 1 ≤ 140737488351232 → (∀ x ∈ l0, (Lit.int .u8 x).wf = true) → ∃ k, laws_FnDelta.f k l0 = some true
theorem laws_FnDelta.walk (P : laws_FnDelta.Pure) (a0 : Option Addr) (len0 cap0 : Nat) (z0 : List Int) (w : World) (w0 : (a0 = none ∧ len0 = 0 ∧ cap0 = 0 ∧ z0 = []) ∨ ∃ x, a0 = some x ∧ len0 ≤ cap0 ∧ cap0 ≤ maxLen ∧ z0.length = cap0 ∧ (∀ i, i < z0.length → w.cell? (x.add i) = some (.int .u8 (z0.getD i 0))) ∧ ∀ n ∈ z0, (Lit.int .u8 n).wf = true) (y0 : len0 * 1 ≤ 140737488351232) :
    Calls Try.prog 3 #[.slice a0 len0 cap0] w fun e w' => e = .returned (.bool true) ∧ Below w.heap.size w w' := by
  obtain ⟨l0, rfl, hr0, hm0, hw0, hc0⟩ := ReadsInt.ofRowC w0
  obtain ⟨k, h⟩ := P l0 hm0 y0 hw0
  refine (laws_FnDelta.calls k _ _ l0 true w (Kd.C_of_reads (d := (0 : Int)) (h1 := fun _ => rfl) hr0) hc0 h).mono ?_
  rintro e w' ⟨rfl, hd⟩
  exact ⟨rfl, hd⟩

end Go.Proofs.Ytgcanbeckamjeaa.PFnDelta
