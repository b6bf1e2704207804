/- The machine's side of FnExactPredMay, written by wip/tools/hyb.py of this repo: each Go function as a plain Lean function, and the proof that the call comes to just its answer. No condition. -/
import Derived.Test.YtlioghbcomdghaaPFnExactPredMayx0
import Derived.Test.YtlioghbcomdghaaPFnExactPredMayx3
import Derived.Test.YtlioghbcomdghaaPFnExactPredMayx4
import Derived.Test.YtlioghbcomdghaaPFnExactPredMayx5
namespace Go.Proofs.Ytlioghbcomdghaa.PFnExactPredMay
open Go.RowKit Go.Proofs.YtlioghbcomdghaaW.PrintWords Go.Proofs.YtlioghbcomdghaaW.PrintLast Go.Proofs.YtlioghbcomdghaaW.PrintMore Go.Proofs.YtlioghbcomdghaaW.PrintMore2
attribute [local go_sem] max2_int min2_int max_two min_two max_three min_three max_four min_four   -- for this text's walks alone
set_option linter.unusedVariables false
set_option linter.unusedSimpArgs false

/-! ### spec_l20From: function 36 -/
mutual
def spec_l20From.j0 : Nat → List (S61) → Int → Bool → Option (Int)
  | 0, _, _, _ => none
  | k + 1, x0, x1, x27 => if x27 = true then (if 0 ≤ x1 then (if x1 < (x0.length : Int) then (if ((rd_T61 x0 x1).f4) = (wrap64 (x1 - 1)) then ((spec_l20From.f k x0 (wrap64 (x1 - 1))).bind fun t201 => (if t201 < 1 then (some (-1)) else (if ((rd_T61 x0 x1).f3) = (wrap64 (t201 - 1)) then ((spec_l20From.f k x0 (wrap64 (t201 - 1))).bind fun t203 => (some t203)) else (some (-1))))) else (some (-1))) else (none)) else (none)) else (some x1)
def spec_l20From.f : Nat → List (S61) → Int → Option (Int)
  | 0, _, _ => none
  | k + 1, l0, a1 => if a1 < 0 then (some (-1)) else (if 0 ≤ a1 then (if a1 < (l0.length : Int) then (if ((rd_T61 l0 a1).f0) = 7 then (if ((rd_T61 l0 a1).f3) = (wrap64 (a1 - 1)) then ((spec_l20From.f k l0 (wrap64 (a1 - 1))).bind fun t199 => (some t199)) else (some (-1))) else (if ((rd_T61 l0 a1).f0) = 5 then (spec_l20From.j0 k l0 a1 (((rd_T61 l0 a1).f0) == 5)) else (spec_l20From.j0 k l0 a1 (((rd_T61 l0 a1).f0) == 6)))) else (none)) else (none))
end
set_option maxHeartbeats 8000000 in
set_option maxRecDepth 100000 in
theorem spec_l20From.calls (k : Nat) : ∀ (A0 : Option Addr) (c0 : Nat) (l0 : List (S61)) (a1 : Int) (r : Int) (w : World) (hr0 : Kd.C k61 w A0 l0.length l0) (hc0 : l0.length ≤ c0) (h : spec_l20From.f k l0 a1 = some r),
    Calls Try.prog 36 #[.slice A0 l0.length c0, .int .i64 a1] w fun e w' => e = .returned (.int .i64 r) ∧ Drawn0 w w' := by
  induction k using Nat.strongRecOn with
  | _ k ih =>
  intro A0 c0 l0 a1 r w hr0 hc0 h
  cases k with
  | zero => exact absurd h (by simp [spec_l20From.f])
  | succ k =>
  simp only [spec_l20From.f] at h
  have HR0 := Aside0.mk hr0
  have HC0 := Aside0.mk hc0
  clear hr0 hc0
  have H : (if a1 < 0 then (some (-1)) else (if 0 ≤ a1 then (if a1 < (l0.length : Int) then (if ((rd_T61 l0 a1).f0) = 7 then (if ((rd_T61 l0 a1).f3) = (wrap64 (a1 - 1)) then ((spec_l20From.f k l0 (wrap64 (a1 - 1))).bind fun t199 => (some t199)) else (some (-1))) else (if ((rd_T61 l0 a1).f0) = 5 then (spec_l20From.j0 k l0 a1 (((rd_T61 l0 a1).f0) == 5)) else (spec_l20From.j0 k l0 a1 (((rd_T61 l0 a1).f0) == 6)))) else (none)) else (none))) = some r := h
  clear h
  by_cases c3 : a1 < 0
  · rw [if_pos c3] at H
    have c3b0 := decide_eq_true c3
    clear c3
    obtain rfl := Option.some.inj H
    go_enter Try.func36, Try.ntmps36
    go_wp2
    go_ret
    exact ⟨by first | rfl | (simp; done) | (simp [*]; done), by repeat (first | exact Drawn0.refl _ | apply Drawn0.step)⟩
  · rw [if_neg c3] at H
    have c3b0 := decide_eq_false c3
    clear c3
    replace H := ifd H
    obtain ⟨c4b0, H⟩ := H
    replace H := ifd H
    obtain ⟨c5b0, H⟩ := H
    by_cases c6 : ((rd_T61 l0 a1).f0) = 7
    · rw [if_pos c6] at H
      have c6b0 : (((rd_T61 l0 a1).f0) == 7) = true := beq_iff_eq.mpr c6
      have c6b1 : (((rd_T61 l0 a1).f0) != 7) = false := bne_eq_false_iff_eq.mpr c6
      clear c6
      by_cases c7 : ((rd_T61 l0 a1).f3) = (wrap64 (a1 - 1))
      · rw [if_pos c7] at H
        have c7b0 : (((rd_T61 l0 a1).f3) == (wrap64 (a1 - 1))) = true := beq_iff_eq.mpr c7
        have c7b1 : (((rd_T61 l0 a1).f3) != (wrap64 (a1 - 1))) = false := bne_eq_false_iff_eq.mpr c7
        clear c7
        replace H := bnd H
        obtain ⟨t199, A8, H⟩ := H
        obtain rfl := Option.some.inj H
        have p197 : 0 ≤ (a1 : Int) := dcd
        have q197 : a1 < (l0.length : Int) := dcd
        obtain ⟨ad197, e197, hx197_0, hx197_1, hx197_2, hx197_3, hx197_4, hx197_5⟩ := at_T61 HR0.out a1 p197 q197
        cases e197
        replace p197 := eq_true p197
        replace q197 := eq_true q197
        have p198 : 0 ≤ (a1 : Int) := dcd
        have q198 : a1 < (l0.length : Int) := dcd
        obtain ⟨ad198, e198, hx198_0, hx198_1, hx198_2, hx198_3, hx198_4, hx198_5⟩ := at_T61 HR0.out a1 p198 q198
        obtain rfl : ad197 = ad198 := (by injection e198)
        replace p198 := eq_true p198
        replace q198 := eq_true q198
        go_enter Try.func36, Try.ntmps36
        go_wp2_with (first | ((with_reducible refine gate_callee (f := 36) rfl ?_); refine gl_ (some 26) Try.func36 #[.slice (some ad197) l0.length c0, .int .i64 (wrap64 (a1 - 1))] rfl ?_; (with_reducible refine (ih k (by omega) _ _ l0 (wrap64 (a1 - 1)) t199 _ ?side1 ?side2 A8.out).mono ?_); (case side1 => exact C_later HR0.out); (case side2 => exact HC0.out); rintro e w' ⟨rfl, ⟨nd, rfl⟩⟩; refine ⟨_, rfl, ?_⟩))
        go_ret
        exact ⟨by first | rfl | (simp; done) | (simp [*]; done), by repeat (first | exact Drawn0.refl _ | apply Drawn0.step)⟩
      · rw [if_neg c7] at H
        have c7b0 : (((rd_T61 l0 a1).f3) == (wrap64 (a1 - 1))) = false := beq_eq_false_iff_ne.mpr c7
        have c7b1 : (((rd_T61 l0 a1).f3) != (wrap64 (a1 - 1))) = true := bne_iff_ne.mpr c7
        obtain rfl := Option.some.inj H
        have p197 : 0 ≤ (a1 : Int) := dcd
        have q197 : a1 < (l0.length : Int) := dcd
        obtain ⟨ad197, e197, hx197_0, hx197_1, hx197_2, hx197_3, hx197_4, hx197_5⟩ := at_T61 HR0.out a1 p197 q197
        cases e197
        replace p197 := eq_true p197
        replace q197 := eq_true q197
        have p198 : 0 ≤ (a1 : Int) := dcd
        have q198 : a1 < (l0.length : Int) := dcd
        obtain ⟨ad198, e198, hx198_0, hx198_1, hx198_2, hx198_3, hx198_4, hx198_5⟩ := at_T61 HR0.out a1 p198 q198
        obtain rfl : ad197 = ad198 := (by injection e198)
        replace p198 := eq_true p198
        replace q198 := eq_true q198
        go_enter Try.func36, Try.ntmps36
        go_wp2
        go_ret
        exact ⟨by first | rfl | (simp; done) | (simp [*]; done), by repeat (first | exact Drawn0.refl _ | apply Drawn0.step)⟩
    · rw [if_neg c6] at H
      have c6b0 : (((rd_T61 l0 a1).f0) == 7) = false := beq_eq_false_iff_ne.mpr c6
      have c6b1 : (((rd_T61 l0 a1).f0) != 7) = true := bne_iff_ne.mpr c6
      have HC9 := Aside0.mk H
      clear H
      have p197 : 0 ≤ (a1 : Int) := dcd
      have q197 : a1 < (l0.length : Int) := dcd
      obtain ⟨ad197, e197, hx197_0, hx197_1, hx197_2, hx197_3, hx197_4, hx197_5⟩ := at_T61 HR0.out a1 p197 q197
      cases e197
      replace p197 := eq_true p197
      replace q197 := eq_true q197
      go_enter Try.func36, Try.ntmps36
      go_upto_if 27 with (fail)
      go_cut [27] (fun v27 wc => ∃ (kq : Nat) (x27_8 : Bool), v27 = .bool x27_8 ∧ Aside0 (spec_l20From.j0 kq l0 a1 x27_8 = some r) ∧ Aside0 (kq ≤ k) ∧ Drawn0 w wc)
      case first =>
        have H := HC9.out
        clear HC9
        by_cases c10 : ((rd_T61 l0 a1).f0) = 5
        · rw [if_pos c10] at H
          have c10b0 : (((rd_T61 l0 a1).f0) == 5) = true := beq_iff_eq.mpr c10
          have c10b1 : (((rd_T61 l0 a1).f0) != 5) = false := bne_eq_false_iff_eq.mpr c10
          clear c10
          (first | rw [c10b0] | rw [c10b1] | (simp only [i64_w, i32_w]; rw [c10b0]) | skip)
          have H' := Aside0.mk H
          clear H
          go_wp2
          go_meet
          case rel => exact ⟨_, ((((rd_T61 l0 a1).f0) == 5)), sr, H', ⟨by first | omega | exact Nat.le_refl _⟩, by repeat (first | exact Drawn0.refl _ | apply Drawn0.step)⟩
        · rw [if_neg c10] at H
          have c10b0 : (((rd_T61 l0 a1).f0) == 5) = false := beq_eq_false_iff_ne.mpr c10
          have c10b1 : (((rd_T61 l0 a1).f0) != 5) = true := bne_iff_ne.mpr c10
          (first | rw [c10b0] | rw [c10b1] | (simp only [i64_w, i32_w]; rw [c10b0]) | skip)
          have H' := Aside0.mk H
          clear H
          go_wp2
          go_meet
          case rel => exact ⟨_, ((((rd_T61 l0 a1).f0) == 6)), sr, H', ⟨by first | omega | exact Nat.le_refl _⟩, by repeat (first | exact Drawn0.refl _ | apply Drawn0.step)⟩
      case rest =>
        clear HC9
        try clear c3
        try clear c3b0
        try clear c4b0
        try clear c5b0
        try clear c6
        try clear c6b0
        try clear c6b1
        try clear hx197_0
        try clear hx197_1
        try clear hx197_2
        try clear hx197_3
        try clear hx197_4
        try clear hx197_5
        try clear p197
        try clear q197
        obtain ⟨kq, x27_8, rfl, HA, HJ8, ⟨mc8, rfl⟩⟩ := hcut
        cases kq with
        | zero => exact absurd HA.out (by simp [spec_l20From.j0])
        | succ kj8 =>
          have H := HA.out
          clear HA
          simp only [spec_l20From.j0] at H
          by_cases c11 : x27_8 = true
          · subst c11
            replace H := ifp rfl H
            replace H := ifd H
            obtain ⟨c12b0, H⟩ := H
            replace H := ifd H
            obtain ⟨c13b0, H⟩ := H
            by_cases c14 : ((rd_T61 l0 a1).f4) = (wrap64 (a1 - 1))
            · rw [if_pos c14] at H
              have c14b0 : (((rd_T61 l0 a1).f4) == (wrap64 (a1 - 1))) = true := beq_iff_eq.mpr c14
              have c14b1 : (((rd_T61 l0 a1).f4) != (wrap64 (a1 - 1))) = false := bne_eq_false_iff_eq.mpr c14
              clear c14
              replace H := bnd H
              obtain ⟨t201, A15, H⟩ := H
              by_cases c16 : t201 < 1
              · rw [if_pos c16] at H
                have c16b0 := decide_eq_true c16
                clear c16
                obtain rfl := Option.some.inj H
                have p200 : 0 ≤ (a1 : Int) := dcd
                have q200 : a1 < (l0.length : Int) := dcd
                obtain ⟨ad200, e200, hx200_0, hx200_1, hx200_2, hx200_3, hx200_4, hx200_5⟩ := at_T61 HR0.out a1 p200 q200
                obtain rfl : ad197 = ad200 := (by injection e200)
                replace p200 := eq_true p200
                replace q200 := eq_true q200
                go_wp2_with (first | ((with_reducible refine gate_callee (f := 36) rfl ?_); refine gl_ (some 41) Try.func36 #[.slice (some ad197) l0.length c0, .int .i64 (wrap64 (a1 - 1))] rfl ?_; (with_reducible refine (ih kj8 (by have := HJ8.out; omega) _ _ l0 (wrap64 (a1 - 1)) t201 _ ?side1 ?side2 A15.out).mono ?_); (case side1 => exact C_later HR0.out); (case side2 => exact HC0.out); rintro e w' ⟨rfl, ⟨nd, rfl⟩⟩; refine ⟨_, rfl, ?_⟩))
                go_ret
                exact ⟨by first | rfl | (simp; done) | (simp [*]; done), by repeat (first | exact Drawn0.refl _ | apply Drawn0.step)⟩
              · rw [if_neg c16] at H
                have c16b0 := decide_eq_false c16
                clear c16
                by_cases c17 : ((rd_T61 l0 a1).f3) = (wrap64 (t201 - 1))
                · rw [if_pos c17] at H
                  have c17b0 : (((rd_T61 l0 a1).f3) == (wrap64 (t201 - 1))) = true := beq_iff_eq.mpr c17
                  have c17b1 : (((rd_T61 l0 a1).f3) != (wrap64 (t201 - 1))) = false := bne_eq_false_iff_eq.mpr c17
                  clear c17
                  replace H := bnd H
                  obtain ⟨t203, A18, H⟩ := H
                  obtain rfl := Option.some.inj H
                  have p200 : 0 ≤ (a1 : Int) := dcd
                  have q200 : a1 < (l0.length : Int) := dcd
                  obtain ⟨ad200, e200, hx200_0, hx200_1, hx200_2, hx200_3, hx200_4, hx200_5⟩ := at_T61 HR0.out a1 p200 q200
                  obtain rfl : ad197 = ad200 := (by injection e200)
                  replace p200 := eq_true p200
                  replace q200 := eq_true q200
                  go_wp2_with (first | ((with_reducible refine gate_callee (f := 36) rfl ?_); refine gl_ (some 41) Try.func36 #[.slice (some ad197) l0.length c0, .int .i64 (wrap64 (a1 - 1))] rfl ?_; (with_reducible refine (ih kj8 (by have := HJ8.out; omega) _ _ l0 (wrap64 (a1 - 1)) t201 _ ?side1 ?side2 A15.out).mono ?_); (case side1 => exact C_later HR0.out); (case side2 => exact HC0.out); rintro e w' ⟨rfl, ⟨nd, rfl⟩⟩; refine ⟨_, rfl, ?_⟩; have p202 : 0 ≤ (a1 : Int) := dcd; have q202 : a1 < (l0.length : Int) := dcd; obtain ⟨ad202, e202, hx202_0, hx202_1, hx202_2, hx202_3, hx202_4, hx202_5⟩ := at_T61 HR0.out a1 p202 q202; obtain rfl : ad197 = ad202 := (by injection e202); replace p202 := eq_true p202; replace q202 := eq_true q202) | ((with_reducible refine gate_callee (f := 36) rfl ?_); refine gl_ (some 57) Try.func36 #[.slice (some ad197) l0.length c0, .int .i64 (wrap64 (t201 - 1))] rfl ?_; (with_reducible refine (ih kj8 (by have := HJ8.out; omega) _ _ l0 (wrap64 (t201 - 1)) t203 _ ?side1 ?side2 A18.out).mono ?_); (case side1 => exact C_later HR0.out); (case side2 => exact HC0.out); rintro e w' ⟨rfl, ⟨nd, rfl⟩⟩; refine ⟨_, rfl, ?_⟩))
                  go_ret
                  exact ⟨by first | rfl | (simp; done) | (simp [*]; done), by repeat (first | exact Drawn0.refl _ | apply Drawn0.step)⟩
                · rw [if_neg c17] at H
                  have c17b0 : (((rd_T61 l0 a1).f3) == (wrap64 (t201 - 1))) = false := beq_eq_false_iff_ne.mpr c17
                  have c17b1 : (((rd_T61 l0 a1).f3) != (wrap64 (t201 - 1))) = true := bne_iff_ne.mpr c17
                  obtain rfl := Option.some.inj H
                  have p200 : 0 ≤ (a1 : Int) := dcd
                  have q200 : a1 < (l0.length : Int) := dcd
                  obtain ⟨ad200, e200, hx200_0, hx200_1, hx200_2, hx200_3, hx200_4, hx200_5⟩ := at_T61 HR0.out a1 p200 q200
                  obtain rfl : ad197 = ad200 := (by injection e200)
                  replace p200 := eq_true p200
                  replace q200 := eq_true q200
                  go_wp2_with (first | ((with_reducible refine gate_callee (f := 36) rfl ?_); refine gl_ (some 41) Try.func36 #[.slice (some ad197) l0.length c0, .int .i64 (wrap64 (a1 - 1))] rfl ?_; (with_reducible refine (ih kj8 (by have := HJ8.out; omega) _ _ l0 (wrap64 (a1 - 1)) t201 _ ?side1 ?side2 A15.out).mono ?_); (case side1 => exact C_later HR0.out); (case side2 => exact HC0.out); rintro e w' ⟨rfl, ⟨nd, rfl⟩⟩; refine ⟨_, rfl, ?_⟩; have p202 : 0 ≤ (a1 : Int) := dcd; have q202 : a1 < (l0.length : Int) := dcd; obtain ⟨ad202, e202, hx202_0, hx202_1, hx202_2, hx202_3, hx202_4, hx202_5⟩ := at_T61 HR0.out a1 p202 q202; obtain rfl : ad197 = ad202 := (by injection e202); replace p202 := eq_true p202; replace q202 := eq_true q202))
                  go_ret
                  exact ⟨by first | rfl | (simp; done) | (simp [*]; done), by repeat (first | exact Drawn0.refl _ | apply Drawn0.step)⟩
            · rw [if_neg c14] at H
              have c14b0 : (((rd_T61 l0 a1).f4) == (wrap64 (a1 - 1))) = false := beq_eq_false_iff_ne.mpr c14
              have c14b1 : (((rd_T61 l0 a1).f4) != (wrap64 (a1 - 1))) = true := bne_iff_ne.mpr c14
              obtain rfl := Option.some.inj H
              have p200 : 0 ≤ (a1 : Int) := dcd
              have q200 : a1 < (l0.length : Int) := dcd
              obtain ⟨ad200, e200, hx200_0, hx200_1, hx200_2, hx200_3, hx200_4, hx200_5⟩ := at_T61 HR0.out a1 p200 q200
              obtain rfl : ad197 = ad200 := (by injection e200)
              replace p200 := eq_true p200
              replace q200 := eq_true q200
              go_wp2
              go_ret
              exact ⟨by first | rfl | (simp; done) | (simp [*]; done), by repeat (first | exact Drawn0.refl _ | apply Drawn0.step)⟩
          · replace c11 := Bool.eq_false_iff.mpr c11
            subst c11
            replace H := ifn Bool.false_ne_true H
            obtain rfl := Option.some.inj H
            go_wp2
            go_ret
            exact ⟨by first | rfl | (simp; done) | (simp [*]; done), by repeat (first | exact Drawn0.refl _ | apply Drawn0.step)⟩
/-! ### spec_PredOk: function 18 -/
mutual
def spec_PredOk.j0 : Nat → List (S57) → List (S61) → Bool → Option (Bool)
  | 0, _, _, _ => none
  | k + 1, x0, x1, x14 => if x14 = true then (some false) else (spec_PredOk.l0 k x0 x1 0)
def spec_PredOk.l0 : Nat → List (S57) → List (S61) → Int → Option (Bool)
  | 0, _, _, _ => none
  | k + 1, x0, x1, x5 => if x5 < (x1.length : Int) then (if 0 ≤ x5 then ((spec_l20Plain.f k x0 ((rd_T61 x1 x5).f0) ((rd_T61 x1 x5).f1) ((rd_T61 x1 x5).f2.f0) ((rd_T61 x1 x5).f2.f1) ((rd_T61 x1 x5).f3) ((rd_T61 x1 x5).f4)).bind fun t207 => (if t207 = true then (spec_PredOk.l0 k x0 x1 (wrap64 (x5 + 1))) else (some false))) else (none)) else ((spec_l20From.f k x1 (wrap64 ((x1.length : Int) - 1))).bind fun t208 => (some (t208 == 0)))
end
def spec_PredOk.f (k : Nat) (l0 : List (S57)) (l1 : List (S61)) : Option (Bool) := (spec_SchemaOk.f k l0).bind fun t204 => (if t204 = true then ((spec_l1In.f (l1.length : Int) 1 31).bind fun t205 => (spec_PredOk.j0 k l0 l1 (!t205))) else (spec_PredOk.j0 k l0 l1 true))
set_option maxHeartbeats 8000000 in
set_option maxRecDepth 100000 in
theorem spec_PredOk.calls (k : Nat) (A0 : Option Addr) (c0 : Nat) (l0 : List (S57)) (A1 : Option Addr) (c1 : Nat) (l1 : List (S61)) (r : Bool) (w : World) (hr0 : Kd.C k57 w A0 l0.length l0) (hc0 : l0.length ≤ c0) (hr1 : Kd.C k61 w A1 l1.length l1) (hc1 : l1.length ≤ c1) (h : spec_PredOk.f k l0 l1 = some r) :
    Calls Try.prog 18 #[.slice A0 l0.length c0, .slice A1 l1.length c1] w fun e w' => e = .returned (.bool r) ∧ Below w.heap.size w w' := by
  have hu61 := Try.underlying61
  have HR0 := Aside0.mk hr0
  have HC0 := Aside0.mk hc0
  clear hr0 hc0
  have HR1 := Aside0.mk hr1
  have HC1 := Aside0.mk hc1
  clear hr1 hc1
  have HB := Aside0.mk (Below.refl w.heap.size w)
  have H : ((spec_SchemaOk.f k l0).bind fun t204 => (if t204 = true then ((spec_l1In.f (l1.length : Int) 1 31).bind fun t205 => (spec_PredOk.j0 k l0 l1 (!t205))) else (spec_PredOk.j0 k l0 l1 true))) = some r := h
  clear h
  have HC3 := Aside0.mk H
  clear H
  go_enter Try.func18, Try.ntmps18
  go_upto_region 1 with (fail)
  go_cut [14] (fun v14 wc => ∃ (kq : Nat) (x14_2 : Bool), v14 = .bool x14_2 ∧ Aside0 (spec_PredOk.j0 kq l0 l1 x14_2 = some r) ∧ Aside0 (kq ≤ k) ∧ Aside0 (Below w.heap.size w wc))
  case first =>
    have H := HC3.out
    clear HC3
    replace H := bnd H
    obtain ⟨t204, A4, H⟩ := H
    by_cases c5 : t204 = true
    · subst c5
      replace H := ifp rfl H
      replace H := bnd H
      obtain ⟨t205, A6, H⟩ := H
      have H' := Aside0.mk H
      clear H
      go_wp2_with (first | ((with_reducible refine gate_callee (f := 33) rfl ?_); refine gl_ (some 7) Try.func33 #[.slice A0 l0.length c0] rfl ?_; (with_reducible refine (spec_SchemaOk.calls k _ _ l0 true _ ?side1 ?side2 A4.out).mono ?_); (case side1 => repeat (first | exact (Kd.C_below HR0.out HB.out) | (with_reducible refine Kd.C_alloc ?_ _) | (with_reducible refine Kd.C_drewN ?_ _) | (with_reducible refine Kd.C_drew ?_))); (case side2 => exact HC0.out); rintro e w7 ⟨rfl, hb⟩; refine ⟨_, rfl, ?_⟩; replace HB := bst HB hb; (try clear hb)) | (go_at_call 34; (with_reducible refine (spec_l1In.calls (l1.length : Int) 1 31 t205 _ A6.out).mono ?_); rintro e w' ⟨rfl, ⟨nd, rfl⟩⟩))
      go_meet
      case rel => exact ⟨_, (!t205), sr, H', ⟨by first | omega | exact Nat.le_refl _⟩, ⟨below_later HB.out⟩⟩
    · replace c5 := Bool.eq_false_iff.mpr c5
      subst c5
      replace H := ifn Bool.false_ne_true H
      have H' := Aside0.mk H
      clear H
      go_wp2_with (first | ((with_reducible refine gate_callee (f := 33) rfl ?_); refine gl_ (some 7) Try.func33 #[.slice A0 l0.length c0] rfl ?_; (with_reducible refine (spec_SchemaOk.calls k _ _ l0 false _ ?side1 ?side2 A4.out).mono ?_); (case side1 => repeat (first | exact (Kd.C_below HR0.out HB.out) | (with_reducible refine Kd.C_alloc ?_ _) | (with_reducible refine Kd.C_drewN ?_ _) | (with_reducible refine Kd.C_drew ?_))); (case side2 => exact HC0.out); rintro e w8 ⟨rfl, hb⟩; refine ⟨_, rfl, ?_⟩; replace HB := bst HB hb; (try clear hb)))
      go_meet
      case rel => exact ⟨_, (true), sr, H', ⟨by first | omega | exact Nat.le_refl _⟩, ⟨below_later HB.out⟩⟩
  case rest =>
    clear HC3
    try clear c1
    obtain ⟨kq, x14_2, rfl, HA, HJ2, HB⟩ := hcut
    cases kq with
    | zero => exact absurd HA.out (by simp [spec_PredOk.j0])
    | succ kj2 =>
      have H := HA.out
      clear HA
      simp only [spec_PredOk.j0] at H
      by_cases c9 : x14_2 = true
      · subst c9
        replace H := ifp rfl H
        obtain rfl := Option.some.inj H
        go_wp2
        go_ret
        exact fin_ (below_later HB.out)
      · replace c9 := Bool.eq_false_iff.mpr c9
        subst c9
        replace H := ifn Bool.false_ne_true H
        have H' := Aside0.mk H
        clear H
        go_wp2
        go_loopg [5] kj2 (fun kq v5 w' => ∃ (x5_2 : Int), v5 = .int .i64 x5_2 ∧ Aside0 (spec_PredOk.l0 kq l0 l1 x5_2 = some r) ∧ Aside0 (kq ≤ kj2) ∧ Aside0 (Below w.heap.size w w'))
        case atStart => exact ⟨(0), sr, H', ⟨Nat.le_refl _⟩, ⟨below_later HB.out⟩⟩
        case round =>
          clear H'
          try clear c1
          try clear c9
          obtain ⟨x5_2, rfl, HA, HK2, HB⟩ := hrel
          cases gk with
          | zero => exact absurd HA.out (by simp [spec_PredOk.l0])
          | succ k2 =>
            have H := HA.out
            clear HA
            simp only [spec_PredOk.l0] at H
            by_cases c10 : x5_2 < (l1.length : Int)
            · rw [if_pos c10] at H
              have c10b0 := decide_eq_true c10
              clear c10
              replace H := ifd H
              obtain ⟨c11b0, H⟩ := H
              replace H := bnd H
              obtain ⟨t207, A12, H⟩ := H
              by_cases c13 : t207 = true
              · subst c13
                replace H := ifp rfl H
                have H' := Aside0.mk H
                clear H
                have p206 : 0 ≤ (x5_2 : Int) := dcd
                have q206 : x5_2 < (l1.length : Int) := dcd
                obtain ⟨ad206, e206, hx206_0, hx206_1, hx206_2, hx206_3, hx206_4, hx206_5⟩ := at_T61 HR1.out x5_2 p206 q206
                cases e206
                replace hx206_0 := crd HB hx206_0
                replace hx206_1 := crd HB hx206_1
                replace hx206_2 := crd HB hx206_2
                replace hx206_3 := crd HB hx206_3
                replace hx206_4 := crd HB hx206_4
                replace hx206_5 := crd HB hx206_5
                replace p206 := eq_true p206
                replace q206 := eq_true q206
                go_wp2_with (first | ((with_reducible refine gate_callee (f := 35) rfl ?_); refine gl_ (some 26) Try.func35 #[.slice A0 l0.length c0, .agg #[.int .i64 ((rd_T61 l1 x5_2).f0), .int .i64 ((rd_T61 l1 x5_2).f1), .int .i64 ((rd_T61 l1 x5_2).f2.f0), .string ((rd_T61 l1 x5_2).f2.f1), .int .i64 ((rd_T61 l1 x5_2).f3), .int .i64 ((rd_T61 l1 x5_2).f4)]] rfl ?_; (with_reducible refine (spec_l20Plain.calls k2 _ _ l0 ((rd_T61 l1 x5_2).f0) ((rd_T61 l1 x5_2).f1) ((rd_T61 l1 x5_2).f2.f0) ((rd_T61 l1 x5_2).f2.f1) ((rd_T61 l1 x5_2).f3) ((rd_T61 l1 x5_2).f4) true _ ?side1 ?side2 A12.out).mono ?_); (case side1 => repeat (first | exact (Kd.C_below HR0.out HB.out) | (with_reducible refine Kd.C_alloc ?_ _) | (with_reducible refine Kd.C_drewN ?_ _) | (with_reducible refine Kd.C_drew ?_))); (case side2 => exact HC0.out); rintro e w14 ⟨rfl, hb⟩; refine ⟨_, rfl, ?_⟩; replace HB := bst HB hb; (try clear hb)))
                go_roundg k2
                case measure => have := HJ2.out; have := HK2.out; omega
                case rel => exact ⟨(wrap64 (x5_2 + 1)), sr, H', ⟨by have := HJ2.out; have := HK2.out; omega⟩, ⟨below_later HB.out⟩⟩
              · replace c13 := Bool.eq_false_iff.mpr c13
                subst c13
                replace H := ifn Bool.false_ne_true H
                obtain rfl := Option.some.inj H
                have p206 : 0 ≤ (x5_2 : Int) := dcd
                have q206 : x5_2 < (l1.length : Int) := dcd
                obtain ⟨ad206, e206, hx206_0, hx206_1, hx206_2, hx206_3, hx206_4, hx206_5⟩ := at_T61 HR1.out x5_2 p206 q206
                cases e206
                replace hx206_0 := crd HB hx206_0
                replace hx206_1 := crd HB hx206_1
                replace hx206_2 := crd HB hx206_2
                replace hx206_3 := crd HB hx206_3
                replace hx206_4 := crd HB hx206_4
                replace hx206_5 := crd HB hx206_5
                replace p206 := eq_true p206
                replace q206 := eq_true q206
                go_wp2_with (first | ((with_reducible refine gate_callee (f := 35) rfl ?_); refine gl_ (some 26) Try.func35 #[.slice A0 l0.length c0, .agg #[.int .i64 ((rd_T61 l1 x5_2).f0), .int .i64 ((rd_T61 l1 x5_2).f1), .int .i64 ((rd_T61 l1 x5_2).f2.f0), .string ((rd_T61 l1 x5_2).f2.f1), .int .i64 ((rd_T61 l1 x5_2).f3), .int .i64 ((rd_T61 l1 x5_2).f4)]] rfl ?_; (with_reducible refine (spec_l20Plain.calls k2 _ _ l0 ((rd_T61 l1 x5_2).f0) ((rd_T61 l1 x5_2).f1) ((rd_T61 l1 x5_2).f2.f0) ((rd_T61 l1 x5_2).f2.f1) ((rd_T61 l1 x5_2).f3) ((rd_T61 l1 x5_2).f4) false _ ?side1 ?side2 A12.out).mono ?_); (case side1 => repeat (first | exact (Kd.C_below HR0.out HB.out) | (with_reducible refine Kd.C_alloc ?_ _) | (with_reducible refine Kd.C_drewN ?_ _) | (with_reducible refine Kd.C_drew ?_))); (case side2 => exact HC0.out); rintro e w15 ⟨rfl, hb⟩; refine ⟨_, rfl, ?_⟩; replace HB := bst HB hb; (try clear hb)))
                go_ret
                exact fin_ (below_later HB.out)
            · rw [if_neg c10] at H
              have c10b0 := decide_eq_false c10
              clear c10
              replace H := bnd H
              obtain ⟨t208, A16, H⟩ := H
              obtain rfl := Option.some.inj H
              go_wp2_with (first | ((with_reducible refine gate_callee (f := 36) rfl ?_); refine gl_ (some 32) Try.func36 #[.slice A1 l1.length c1, .int .i64 (wrap64 ((l1.length : Int) - 1))] rfl ?_; (with_reducible refine (spec_l20From.calls k2 _ _ l1 (wrap64 ((l1.length : Int) - 1)) t208 _ ?side1 ?side2 A16.out).mono ?_); (case side1 => repeat (first | exact (Kd.C_below HR1.out HB.out) | (with_reducible refine Kd.C_alloc ?_ _) | (with_reducible refine Kd.C_drewN ?_ _) | (with_reducible refine Kd.C_drew ?_))); (case side2 => exact HC1.out); rintro e w' ⟨rfl, ⟨nd, rfl⟩⟩; refine ⟨_, rfl, ?_⟩))
              go_ret
              exact fin_ (below_later HB.out)

/-! ### spec_FloatKey: function 54 -/
def spec_FloatKey.f (a0 : Int) : Option (Int) := if a0 < 0 then (some (Go.bits .xor .i64 a0 9223372036854775807)) else (some a0)
set_option maxHeartbeats 8000000 in
set_option maxRecDepth 100000 in
theorem spec_FloatKey.calls (a0 : Int) (r : Int) (w : World) (h : spec_FloatKey.f a0 = some r) :
    Calls Try.prog 54 #[.int .i64 a0] w fun e w' => e = .returned (.int .i64 r) ∧ Drawn0 w w' := by
  have H : (if a0 < 0 then (some (Go.bits .xor .i64 a0 9223372036854775807)) else (some a0)) = some r := h
  clear h
  by_cases c2 : a0 < 0
  · rw [if_pos c2] at H
    have c2b0 := decide_eq_true c2
    clear c2
    obtain rfl := Option.some.inj H
    go_enter Try.func54, Try.ntmps54
    go_wp2
    go_ret
    exact ⟨by first | rfl | (simp; done) | (simp [*]; done), by repeat (first | exact Drawn0.refl _ | apply Drawn0.step)⟩
  · rw [if_neg c2] at H
    have c2b0 := decide_eq_false c2
    clear c2
    obtain rfl := Option.some.inj H
    go_enter Try.func54, Try.ntmps54
    go_wp2
    go_ret
    exact ⟨by first | rfl | (simp; done) | (simp [*]; done), by repeat (first | exact Drawn0.refl _ | apply Drawn0.step)⟩

/-! ### spec_ValLess: function 38 -/
mutual
def spec_ValLess.j0 : Nat → Int → Bool → Int → ByteArray → Int → ByteArray → Option (Bool)
  | 0, _, _, _, _, _, _ => none
  | k + 1, x0, x17, x210000, x210001, x211000, x211001 => if x17 = true then (some false) else (if x0 = 5 then ((spec_FloatKey.f x210000).bind fun t213 => ((spec_FloatKey.f x211000).bind fun t214 => (some (decide (t213 < t214))))) else (if x0 = 6 then (spec_ValLess.l0 k 0 x210000 x210001 x211000 x211001) else (some (decide (x210000 < x211000)))))
def spec_ValLess.l0 : Nat → Int → Int → ByteArray → Int → ByteArray → Option (Bool)
  | 0, _, _, _, _, _ => none
  | k + 1, x7, x210000, x210001, x211000, x211001 => if x7 < (x210001.size : Int) then (spec_ValLess.j2 k x7 (decide (x7 < (x211001.size : Int))) x210000 x210001 x211000 x211001) else (spec_ValLess.j2 k x7 false x210000 x210001 x211000 x211001)
def spec_ValLess.j2 : Nat → Int → Bool → Int → ByteArray → Int → ByteArray → Option (Bool)
  | 0, _, _, _, _, _, _ => none
  | k + 1, x7, x41, x210000, x210001, x211000, x211001 => if x41 = true then (if 0 ≤ x7 then (if x7 < (x210001.size : Int) then (if x7 < (x211001.size : Int) then (if (bt x210001 x7) = (bt x211001 x7) then (spec_ValLess.l0 k (wrap64 (x7 + 1)) x210000 x210001 x211000 x211001) else (some (decide ((bt x210001 x7) < (bt x211001 x7))))) else (none)) else (none)) else (none)) else (some (decide ((x210001.size : Int) < (x211001.size : Int))))
end
def spec_ValLess.f (k : Nat) (a0 : Int) (a1_0 : Int) (a1_1 : ByteArray) (a2_0 : Int) (a2_1 : ByteArray) : Option (Bool) := (spec_ValOk.f k a0 a1_0 a1_1).bind fun t211 => (if t211 = true then ((spec_ValOk.f k a0 a2_0 a2_1).bind fun t212 => (spec_ValLess.j0 k a0 (!t212) a1_0 a1_1 a2_0 a2_1)) else (spec_ValLess.j0 k a0 true a1_0 a1_1 a2_0 a2_1))
set_option maxHeartbeats 8000000 in
set_option maxRecDepth 100000 in
theorem spec_ValLess.calls (k : Nat) (a0 : Int) (a1_0 : Int) (a1_1 : ByteArray) (a2_0 : Int) (a2_1 : ByteArray) (r : Bool) (w : World) (h : spec_ValLess.f k a0 a1_0 a1_1 a2_0 a2_1 = some r) :
    Calls Try.prog 38 #[.int .i64 a0, .agg #[.int .i64 a1_0, .string a1_1], .agg #[.int .i64 a2_0, .string a2_1]] w fun e w' => e = .returned (.bool r) ∧ Below w.heap.size w w' := by
  have hu59 := Try.underlying59
  have HB := Aside0.mk (Below.refl w.heap.size w)
  have H : ((spec_ValOk.f k a0 a1_0 a1_1).bind fun t211 => (if t211 = true then ((spec_ValOk.f k a0 a2_0 a2_1).bind fun t212 => (spec_ValLess.j0 k a0 (!t212) a1_0 a1_1 a2_0 a2_1)) else (spec_ValLess.j0 k a0 true a1_0 a1_1 a2_0 a2_1))) = some r := h
  clear h
  have HC4 := Aside0.mk H
  clear H
  go_enter Try.func38, Try.ntmps38
  go_upto_region 1 with (first | ((with_reducible refine gate_dst (N := 4) rfl ?_); (try (refine gate_guard (by rfl) ?_; dsimp only)); refine bx_ 4 #[.int .i64 a1_0, .string a1_1] 59 ?_; intro gb209 hg w5 hbox hb; have BK209 := Aside0.mk (hbox); have GW209 := gwe HB hg; have GE209 := GW209; replace HB := bst HB hb; clear hb hbox hg) | ((with_reducible refine gate_dst (N := 5) rfl ?_); (try (refine gate_guard (by rfl) ?_; dsimp only)); refine bx_ 5 #[.int .i64 a2_0, .string a2_1] 59 ?_; intro gb210 hg w6 hbox hb; have BK210 := Aside0.mk (hbox); have GW210 := gwe HB hg; have GE210 := GW210; have NB209_210 := nbl BK209 hg; have NB210_209 := nbr (nbl BK209 hg); replace BK209 := bkb BK209 hb; replace HB := bst HB hb; clear hb hbox hg))
  repeat (go_quiet (fail); go_upto_region 1 with (first | ((with_reducible refine gate_dst (N := 4) rfl ?_); (try (refine gate_guard (by rfl) ?_; dsimp only)); refine bx_ 4 #[.int .i64 a1_0, .string a1_1] 59 ?_; intro gb209 hg w5 hbox hb; have BK209 := Aside0.mk (hbox); have GW209 := gwe HB hg; have GE209 := GW209; replace HB := bst HB hb; clear hb hbox hg) | ((with_reducible refine gate_dst (N := 5) rfl ?_); (try (refine gate_guard (by rfl) ?_; dsimp only)); refine bx_ 5 #[.int .i64 a2_0, .string a2_1] 59 ?_; intro gb210 hg w6 hbox hb; have BK210 := Aside0.mk (hbox); have GW210 := gwe HB hg; have GE210 := GW210; have NB209_210 := nbl BK209 hg; have NB210_209 := nbr (nbl BK209 hg); replace BK209 := bkb BK209 hb; replace HB := bst HB hb; clear hb hbox hg)))
  (try simp only [Act.put, List.setIfInBounds_toArray, List.set_cons_zero, List.set_cons_succ])
  go_cut [17] (fun v17 wc => ∃ (kq : Nat) (x17_3 : Bool), v17 = .bool x17_3 ∧ Aside0 (spec_ValLess.j0 kq a0 x17_3 a1_0 a1_1 a2_0 a2_1 = some r) ∧ Aside0 (kq ≤ k) ∧ Aside0 (wc.heap[gb209]? = some (.cells #[.int .i64 a1_0, .string a1_1] 59 (0, 0))) ∧ Aside0 (wc.heap[gb210]? = some (.cells #[.int .i64 a2_0, .string a2_1] 59 (0, 0))) ∧ Aside0 (Below w.heap.size w wc))
  case first =>
    have H := HC4.out
    clear HC4
    replace H := bnd H
    obtain ⟨t211, A7, H⟩ := H
    by_cases c8 : t211 = true
    · subst c8
      replace H := ifp rfl H
      replace H := bnd H
      obtain ⟨t212, A9, H⟩ := H
      have H' := Aside0.mk H
      clear H
      have hnb10 := NB209_210.out
      have hnc10 := NB210_209.out
      obtain ⟨hcz11_0, hcz11_1, hfz11_0, hfz11_1⟩ := cl2 BK209
      go_wp2_with (first | (go_at_call 51; (with_reducible refine (spec_ValOk.calls k a0 a1_0 a1_1 true _ A7.out).mono ?_); rintro e w12 ⟨rfl, hb⟩; replace BK209 := bkb BK209 hb; replace BK210 := bkb BK210 hb; replace HB := bst HB hb; (try clear hb); obtain ⟨hcz13_0, hcz13_1, hfz13_0, hfz13_1⟩ := cl2 BK210) | (go_at_call 51; (with_reducible refine (spec_ValOk.calls k a0 a2_0 a2_1 t212 _ A9.out).mono ?_); rintro e w14 ⟨rfl, hb⟩; replace BK209 := bkb BK209 hb; replace BK210 := bkb BK210 hb; replace HB := bst HB hb; (try clear hb)))
      repeat (go_quiet (fail); try go_wp2_with (first | (go_at_call 51; (with_reducible refine (spec_ValOk.calls k a0 a1_0 a1_1 true _ A7.out).mono ?_); rintro e w12 ⟨rfl, hb⟩; replace BK209 := bkb BK209 hb; replace BK210 := bkb BK210 hb; replace HB := bst HB hb; (try clear hb); obtain ⟨hcz13_0, hcz13_1, hfz13_0, hfz13_1⟩ := cl2 BK210) | (go_at_call 51; (with_reducible refine (spec_ValOk.calls k a0 a2_0 a2_1 t212 _ A9.out).mono ?_); rintro e w14 ⟨rfl, hb⟩; replace BK209 := bkb BK209 hb; replace BK210 := bkb BK210 hb; replace HB := bst HB hb; (try clear hb))))
      go_meet
      case rel => exact ⟨_, (!t212), sr, H', ⟨by first | omega | exact Nat.le_refl _⟩, ⟨blk_later BK209.out⟩, ⟨blk_later BK210.out⟩, ⟨below_later HB.out⟩⟩
    · replace c8 := Bool.eq_false_iff.mpr c8
      subst c8
      replace H := ifn Bool.false_ne_true H
      have H' := Aside0.mk H
      clear H
      have hnb15 := NB209_210.out
      have hnc15 := NB210_209.out
      obtain ⟨hcz16_0, hcz16_1, hfz16_0, hfz16_1⟩ := cl2 BK209
      go_wp2_with (first | (go_at_call 51; (with_reducible refine (spec_ValOk.calls k a0 a1_0 a1_1 false _ A7.out).mono ?_); rintro e w17 ⟨rfl, hb⟩; replace BK209 := bkb BK209 hb; replace BK210 := bkb BK210 hb; replace HB := bst HB hb; (try clear hb)))
      repeat (go_quiet (fail); try go_wp2_with (first | (go_at_call 51; (with_reducible refine (spec_ValOk.calls k a0 a1_0 a1_1 false _ A7.out).mono ?_); rintro e w17 ⟨rfl, hb⟩; replace BK209 := bkb BK209 hb; replace BK210 := bkb BK210 hb; replace HB := bst HB hb; (try clear hb))))
      go_meet
      case rel => exact ⟨_, (true), sr, H', ⟨by first | omega | exact Nat.le_refl _⟩, ⟨blk_later BK209.out⟩, ⟨blk_later BK210.out⟩, ⟨below_later HB.out⟩⟩
  case rest =>
    clear HC4
    obtain ⟨kq, x17_3, rfl, HA, HJ3, BK209, BK210, HB⟩ := hcut
    cases kq with
    | zero => exact absurd HA.out (by simp [spec_ValLess.j0])
    | succ kj3 =>
      have H := HA.out
      clear HA
      simp only [spec_ValLess.j0] at H
      by_cases c18 : x17_3 = true
      · subst c18
        replace H := ifp rfl H
        obtain rfl := Option.some.inj H
        go_wp2
        repeat (go_quiet (fail); try go_wp2)
        go_ret
        exact fin_ (below_later HB.out)
      · replace c18 := Bool.eq_false_iff.mpr c18
        subst c18
        replace H := ifn Bool.false_ne_true H
        by_cases c19 : a0 = 5
        · rw [if_pos c19] at H
          have c19b0 : (a0 == 5) = true := beq_iff_eq.mpr c19
          have c19b1 : (a0 != 5) = false := bne_eq_false_iff_eq.mpr c19
          clear c19
          replace H := bnd H
          obtain ⟨t213, A20, H⟩ := H
          replace H := bnd H
          obtain ⟨t214, A21, H⟩ := H
          obtain rfl := Option.some.inj H
          have hnb22 := NB209_210.out
          have hnc22 := NB210_209.out
          obtain ⟨hcz23_0, hcz23_1, hfz23_0, hfz23_1⟩ := cl2 BK209
          go_wp2_with (first | (go_at_call 54; (with_reducible refine (spec_FloatKey.calls a1_0 t213 _ A20.out).mono ?_); rintro e w' ⟨rfl, ⟨nd, rfl⟩⟩; (try first | exact ⟨rfl, _, World.drewN_drewN _ _ _⟩ | exact ⟨rfl, _, Eq.trans (World.drewN_drewN _ _ _) (congrArg (World.drewN _) (Nat.add_assoc _ _ _))⟩); obtain ⟨hcz24_0, hcz24_1, hfz24_0, hfz24_1⟩ := cl2 BK210) | (go_at_call 54; (with_reducible refine (spec_FloatKey.calls a2_0 t214 _ A21.out).mono ?_); rintro e w' ⟨rfl, ⟨nd, rfl⟩⟩; (try first | exact ⟨rfl, _, World.drewN_drewN _ _ _⟩ | exact ⟨rfl, _, Eq.trans (World.drewN_drewN _ _ _) (congrArg (World.drewN _) (Nat.add_assoc _ _ _))⟩)))
          repeat (go_quiet (first | (go_at_call 54; (with_reducible refine (spec_FloatKey.calls a1_0 t213 _ A20.out).mono ?_); rintro e w' ⟨rfl, ⟨nd, rfl⟩⟩; (try first | exact ⟨rfl, _, World.drewN_drewN _ _ _⟩ | exact ⟨rfl, _, Eq.trans (World.drewN_drewN _ _ _) (congrArg (World.drewN _) (Nat.add_assoc _ _ _))⟩); obtain ⟨hcz24_0, hcz24_1, hfz24_0, hfz24_1⟩ := cl2 BK210) | (go_at_call 54; (with_reducible refine (spec_FloatKey.calls a2_0 t214 _ A21.out).mono ?_); rintro e w' ⟨rfl, ⟨nd, rfl⟩⟩; (try first | exact ⟨rfl, _, World.drewN_drewN _ _ _⟩ | exact ⟨rfl, _, Eq.trans (World.drewN_drewN _ _ _) (congrArg (World.drewN _) (Nat.add_assoc _ _ _))⟩))); try go_wp2_with (first | (go_at_call 54; (with_reducible refine (spec_FloatKey.calls a1_0 t213 _ A20.out).mono ?_); rintro e w' ⟨rfl, ⟨nd, rfl⟩⟩; (try first | exact ⟨rfl, _, World.drewN_drewN _ _ _⟩ | exact ⟨rfl, _, Eq.trans (World.drewN_drewN _ _ _) (congrArg (World.drewN _) (Nat.add_assoc _ _ _))⟩); obtain ⟨hcz24_0, hcz24_1, hfz24_0, hfz24_1⟩ := cl2 BK210) | (go_at_call 54; (with_reducible refine (spec_FloatKey.calls a2_0 t214 _ A21.out).mono ?_); rintro e w' ⟨rfl, ⟨nd, rfl⟩⟩; (try first | exact ⟨rfl, _, World.drewN_drewN _ _ _⟩ | exact ⟨rfl, _, Eq.trans (World.drewN_drewN _ _ _) (congrArg (World.drewN _) (Nat.add_assoc _ _ _))⟩))))
          go_ret
          exact fin_ (below_later HB.out)
        · rw [if_neg c19] at H
          have c19b0 : (a0 == 5) = false := beq_eq_false_iff_ne.mpr c19
          have c19b1 : (a0 != 5) = true := bne_iff_ne.mpr c19
          by_cases c25 : a0 = 6
          · rw [if_pos c25] at H
            have c25b0 : (a0 == 6) = true := beq_iff_eq.mpr c25
            have c25b1 : (a0 != 6) = false := bne_eq_false_iff_eq.mpr c25
            clear c25
            have H' := Aside0.mk H
            clear H
            go_wp2
            repeat (go_quiet (fail); try go_wp2)
            go_loopg [7] kj3 (fun kq v7 w' => ∃ (x7_2 : Int), v7 = .int .i64 x7_2 ∧ Aside0 (spec_ValLess.l0 kq x7_2 a1_0 a1_1 a2_0 a2_1 = some r) ∧ Aside0 (kq ≤ kj3) ∧ Aside0 (w'.heap[gb209]? = some (.cells #[.int .i64 a1_0, .string a1_1] 59 (0, 0))) ∧ Aside0 (w'.heap[gb210]? = some (.cells #[.int .i64 a2_0, .string a2_1] 59 (0, 0))) ∧ Aside0 (Below w.heap.size w w'))
            case atStart => exact ⟨(0), sr, H', ⟨Nat.le_refl _⟩, ⟨blk_later BK209.out⟩, ⟨blk_later BK210.out⟩, ⟨below_later HB.out⟩⟩
            case round =>
              clear H'
              try clear c18
              try clear c19
              try clear c19b0
              try clear c19b1
              try clear c25
              try clear c25b0
              try clear c25b1
              obtain ⟨x7_2, rfl, HA, HK2, BK209, BK210, HB⟩ := hrel
              cases gk with
              | zero => exact absurd HA.out (by simp [spec_ValLess.l0])
              | succ k2 =>
                have H := HA.out
                clear HA
                simp only [spec_ValLess.l0] at H
                have HC26 := Aside0.mk H
                clear H
                go_upto_region 8 with (fail)
                repeat (go_quiet (fail); go_upto_region 8 with (fail))
                go_cut [41] (fun v41 wc => ∃ (kq : Nat) (x41_25 : Bool), v41 = .bool x41_25 ∧ Aside0 (spec_ValLess.j2 kq x7_2 x41_25 a1_0 a1_1 a2_0 a2_1 = some r) ∧ Aside0 (kq ≤ k2) ∧ Aside0 (wc.heap[gb209]? = some (.cells #[.int .i64 a1_0, .string a1_1] 59 (0, 0))) ∧ Aside0 (wc.heap[gb210]? = some (.cells #[.int .i64 a2_0, .string a2_1] 59 (0, 0))) ∧ Aside0 (Below w.heap.size w wc))
                case first =>
                  have H := HC26.out
                  clear HC26
                  by_cases c27 : x7_2 < (a1_1.size : Int)
                  · rw [if_pos c27] at H
                    have c27b0 := decide_eq_true c27
                    clear c27
                    (first | rw [c27b0] | (simp only [i64_w, i32_w]; rw [c27b0]) | skip)
                    have H' := Aside0.mk H
                    clear H
                    have hnb28 := NB209_210.out
                    have hnc28 := NB210_209.out
                    obtain ⟨hcz29_0, hcz29_1, hfz29_0, hfz29_1⟩ := cl2 BK209
                    obtain ⟨hcz30_0, hcz30_1, hfz30_0, hfz30_1⟩ := cl2 BK210
                    go_wp2
                    repeat (go_quiet (fail); try go_wp2)
                    go_meet
                    case rel => exact ⟨_, (decide (x7_2 < (a2_1.size : Int))), sr, H', ⟨by have := HJ3.out; have := HK2.out; first | omega | exact Nat.le_refl _⟩, ⟨blk_later BK209.out⟩, ⟨blk_later BK210.out⟩, ⟨below_later HB.out⟩⟩
                  · rw [if_neg c27] at H
                    have c27b0 := decide_eq_false c27
                    clear c27
                    (first | rw [c27b0] | (simp only [i64_w, i32_w]; rw [c27b0]) | skip)
                    have H' := Aside0.mk H
                    clear H
                    have hnb31 := NB209_210.out
                    have hnc31 := NB210_209.out
                    obtain ⟨hcz32_0, hcz32_1, hfz32_0, hfz32_1⟩ := cl2 BK209
                    go_wp2
                    repeat (go_quiet (fail); try go_wp2)
                    go_meet
                    case rel => exact ⟨_, (false), sr, H', ⟨by have := HJ3.out; have := HK2.out; first | omega | exact Nat.le_refl _⟩, ⟨blk_later BK209.out⟩, ⟨blk_later BK210.out⟩, ⟨below_later HB.out⟩⟩
                case rest =>
                  clear HC26
                  try clear c18
                  try clear c19
                  try clear c19b0
                  try clear c19b1
                  try clear c25
                  try clear c25b0
                  try clear c25b1
                  obtain ⟨kq, x41_25, rfl, HA, HJ25, BK209, BK210, HB⟩ := hcut
                  cases kq with
                  | zero => exact absurd HA.out (by simp [spec_ValLess.j2])
                  | succ kj25 =>
                    have H := HA.out
                    clear HA
                    simp only [spec_ValLess.j2] at H
                    by_cases c33 : x41_25 = true
                    · subst c33
                      replace H := ifp rfl H
                      replace H := ifd H
                      obtain ⟨c34b0, H⟩ := H
                      replace H := ifd H
                      obtain ⟨c35b0, H⟩ := H
                      replace H := ifd H
                      obtain ⟨c37b0, H⟩ := H
                      by_cases c39 : (bt a1_1 x7_2) = (bt a2_1 x7_2)
                      · rw [if_pos c39] at H
                        have c39b0 : ((bt a1_1 x7_2) == (bt a2_1 x7_2)) = true := beq_iff_eq.mpr c39
                        have c39b1 : ((bt a1_1 x7_2) != (bt a2_1 x7_2)) = false := bne_eq_false_iff_eq.mpr c39
                        clear c39
                        have H' := Aside0.mk H
                        clear H
                        have hnb40 := NB209_210.out
                        have hnc40 := NB210_209.out
                        obtain ⟨hcz41_0, hcz41_1, hfz41_0, hfz41_1⟩ := cl2 BK209
                        have p36 : 0 ≤ (x7_2 : Int) := dcd
                        have q36 : x7_2 < (a1_1.size : Int) := dcd
                        have hx36 := bt_at a1_1 x7_2
                        replace p36 := eq_true p36
                        replace q36 := eq_true q36
                        obtain ⟨hcz42_0, hcz42_1, hfz42_0, hfz42_1⟩ := cl2 BK210
                        have p38 : 0 ≤ (x7_2 : Int) := dcd
                        have q38 : x7_2 < (a2_1.size : Int) := dcd
                        have hx38 := bt_at a2_1 x7_2
                        replace p38 := eq_true p38
                        replace q38 := eq_true q38
                        go_wp2
                        repeat (go_quiet (fail); try go_wp2)
                        go_roundg kj25
                        case measure => have := HJ3.out; have := HK2.out; have := HJ25.out; omega
                        case rel => exact ⟨(wrap64 (x7_2 + 1)), sr, H', ⟨by have := HJ3.out; have := HK2.out; have := HJ25.out; omega⟩, ⟨blk_later BK209.out⟩, ⟨blk_later BK210.out⟩, ⟨below_later HB.out⟩⟩
                      · rw [if_neg c39] at H
                        have c39b0 : ((bt a1_1 x7_2) == (bt a2_1 x7_2)) = false := beq_eq_false_iff_ne.mpr c39
                        have c39b1 : ((bt a1_1 x7_2) != (bt a2_1 x7_2)) = true := bne_iff_ne.mpr c39
                        obtain rfl := Option.some.inj H
                        have hnb45 := NB209_210.out
                        have hnc45 := NB210_209.out
                        obtain ⟨hcz46_0, hcz46_1, hfz46_0, hfz46_1⟩ := cl2 BK209
                        have p36 : 0 ≤ (x7_2 : Int) := dcd
                        have q36 : x7_2 < (a1_1.size : Int) := dcd
                        have hx36 := bt_at a1_1 x7_2
                        replace p36 := eq_true p36
                        replace q36 := eq_true q36
                        obtain ⟨hcz47_0, hcz47_1, hfz47_0, hfz47_1⟩ := cl2 BK210
                        have p38 : 0 ≤ (x7_2 : Int) := dcd
                        have q38 : x7_2 < (a2_1.size : Int) := dcd
                        have hx38 := bt_at a2_1 x7_2
                        replace p38 := eq_true p38
                        replace q38 := eq_true q38
                        have p43 : 0 ≤ (x7_2 : Int) := dcd
                        have q43 : x7_2 < (a1_1.size : Int) := dcd
                        have hx43 := bt_at a1_1 x7_2
                        replace p43 := eq_true p43
                        replace q43 := eq_true q43
                        have p44 : 0 ≤ (x7_2 : Int) := dcd
                        have q44 : x7_2 < (a2_1.size : Int) := dcd
                        have hx44 := bt_at a2_1 x7_2
                        replace p44 := eq_true p44
                        replace q44 := eq_true q44
                        go_wp2
                        repeat (go_quiet (fail); try go_wp2)
                        go_ret
                        exact fin_ (below_later HB.out)
                    · replace c33 := Bool.eq_false_iff.mpr c33
                      subst c33
                      replace H := ifn Bool.false_ne_true H
                      obtain rfl := Option.some.inj H
                      have hnb48 := NB209_210.out
                      have hnc48 := NB210_209.out
                      obtain ⟨hcz49_0, hcz49_1, hfz49_0, hfz49_1⟩ := cl2 BK209
                      obtain ⟨hcz50_0, hcz50_1, hfz50_0, hfz50_1⟩ := cl2 BK210
                      go_wp2
                      repeat (go_quiet (fail); try go_wp2)
                      go_ret
                      exact fin_ (below_later HB.out)
          · rw [if_neg c25] at H
            have c25b0 : (a0 == 6) = false := beq_eq_false_iff_ne.mpr c25
            have c25b1 : (a0 != 6) = true := bne_iff_ne.mpr c25
            obtain rfl := Option.some.inj H
            have hnb51 := NB209_210.out
            have hnc51 := NB210_209.out
            obtain ⟨hcz52_0, hcz52_1, hfz52_0, hfz52_1⟩ := cl2 BK209
            obtain ⟨hcz53_0, hcz53_1, hfz53_0, hfz53_1⟩ := cl2 BK210
            go_wp2
            repeat (go_quiet (fail); try go_wp2)
            go_ret
            exact fin_ (below_later HB.out)

end Go.Proofs.Ytlioghbcomdghaa.PFnExactPredMay
