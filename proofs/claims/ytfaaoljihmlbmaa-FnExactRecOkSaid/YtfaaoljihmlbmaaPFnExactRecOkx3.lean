/- The machine's side of FnExactRecOk, written by wip/tools/hyb.py of this repo: each Go function as a plain Lean function, and the proof that the call comes to just its answer. No condition. -/
import Derived.Test.YtfaaoljihmlbmaaPFnExactRecOkx0
namespace Go.Proofs.Ytfaaoljihmlbmaa.PFnExactRecOk
open Go.RowKit Go.Proofs.YtfaaoljihmlbmaaW.PrintWords Go.Proofs.YtfaaoljihmlbmaaW.PrintLast Go.Proofs.YtfaaoljihmlbmaaW.PrintMore Go.Proofs.YtfaaoljihmlbmaaW.PrintMore2
attribute [local go_sem] max2_int min2_int max_two min_two max_three min_three max_four min_four   -- for this text's walks alone
set_option linter.unusedVariables false
set_option linter.unusedSimpArgs false

/-! ### spec_l5After: function 29 -/
mutual
def spec_l5After.l0 : Nat → List (S44) → Int → Int → Int → Option (Int)
  | 0, _, _, _, _ => none
  | k + 1, x0, x1, x5, x6 => if 0 ≤ x1 then (if x1 < (x0.length : Int) then (if x6 < ((rd_T44 x0 x1).f3) then ((spec_l5After.f k x0 x5).bind fun t143 => (spec_l5After.l0 k x0 x1 t143 (wrap64 (x6 + 1)))) else (some x5)) else (none)) else (none)
def spec_l5After.f : Nat → List (S44) → Int → Option (Int)
  | 0, _, _ => none
  | k + 1, l0, a1 => spec_l5After.l0 k l0 a1 (wrap64 (a1 + 1)) 0
end
set_option maxHeartbeats 8000000 in
set_option maxRecDepth 100000 in
theorem spec_l5After.calls (k : Nat) : ∀ (A0 : Option Addr) (c0 : Nat) (l0 : List (S44)) (a1 : Int) (r : Int) (w : World) (hr0 : Kd.C k44 w A0 l0.length l0) (hc0 : l0.length ≤ c0) (h : spec_l5After.f k l0 a1 = some r),
    Calls Try.prog 29 #[.slice A0 l0.length c0, .int .i64 a1] w fun e w' => e = .returned (.int .i64 r) ∧ Drawn0 w w' := by
  induction k using Nat.strongRecOn with
  | _ k ih =>
  intro A0 c0 l0 a1 r w hr0 hc0 h
  cases k with
  | zero => exact absurd h (by simp [spec_l5After.f])
  | succ k =>
  simp only [spec_l5After.f] at h
  have HR0 := Aside0.mk hr0
  have HC0 := Aside0.mk hc0
  clear hr0 hc0
  have H : (spec_l5After.l0 k l0 a1 (wrap64 (a1 + 1)) 0) = some r := h
  clear h
  have H' := Aside0.mk H
  clear H
  go_enter Try.func29, Try.ntmps29
  go_wp2
  go_loopg [5, 6] k (fun kq v5 v6 w' => ∃ (x5_1 : Int) (x6_1 : Int), v5 = .int .i64 x5_1 ∧ v6 = .int .i64 x6_1 ∧ Aside0 (spec_l5After.l0 kq l0 a1 x5_1 x6_1 = some r) ∧ Aside0 (kq ≤ k) ∧ Drawn0 w w')
  case atStart => exact ⟨(wrap64 (a1 + 1)), (0), sr, sr, H', ⟨Nat.le_refl _⟩, by repeat (first | exact Drawn0.refl _ | apply Drawn0.step)⟩
  case round =>
    clear H'
    obtain ⟨x5_1, x6_1, rfl, rfl, HA, HK1, ⟨m1, rfl⟩⟩ := hrel
    cases gk with
    | zero => exact absurd HA.out (by simp [spec_l5After.l0])
    | succ k1 =>
      have H := HA.out
      clear HA
      simp only [spec_l5After.l0] at H
      replace H := ifd H
      obtain ⟨c3b0, H⟩ := H
      replace H := ifd H
      obtain ⟨c4b0, H⟩ := H
      by_cases c5 : x6_1 < ((rd_T44 l0 a1).f3)
      · rw [if_pos c5] at H
        have c5b0 := decide_eq_true c5
        clear c5
        replace H := bnd H
        obtain ⟨t143, A6, H⟩ := H
        have H' := Aside0.mk H
        clear H
        have p142 : 0 ≤ (a1 : Int) := dcd
        have q142 : a1 < (l0.length : Int) := dcd
        obtain ⟨ad142, e142, hx142_0, hx142_1, hx142_2, hx142_3⟩ := at_T44 HR0.out a1 p142 q142
        cases e142
        replace p142 := eq_true p142
        replace q142 := eq_true q142
        go_wp2_with (first | ((with_reducible refine gate_callee (f := 29) rfl ?_); refine gl_ (some 20) Try.func29 #[.slice (some ad142) l0.length c0, .int .i64 x5_1] rfl ?_; (with_reducible refine (ih k1 (by have := HK1.out; omega) _ _ l0 x5_1 t143 _ ?side1 ?side2 A6.out).mono ?_); (case side1 => exact C_later HR0.out); (case side2 => exact HC0.out); rintro e w' ⟨rfl, ⟨nd, rfl⟩⟩; refine ⟨_, rfl, ?_⟩))
        go_roundg k1
        case measure => have := HK1.out; omega
        case rel => exact ⟨(t143), (wrap64 (x6_1 + 1)), sr, sr, H', ⟨by have := HK1.out; omega⟩, by repeat (first | exact Drawn0.refl _ | apply Drawn0.step)⟩
      · rw [if_neg c5] at H
        have c5b0 := decide_eq_false c5
        clear c5
        obtain rfl := Option.some.inj H
        have p142 : 0 ≤ (a1 : Int) := dcd
        have q142 : a1 < (l0.length : Int) := dcd
        obtain ⟨ad142, e142, hx142_0, hx142_1, hx142_2, hx142_3⟩ := at_T44 HR0.out a1 p142 q142
        cases e142
        replace p142 := eq_true p142
        replace q142 := eq_true q142
        go_wp2
        go_ret
        exact ⟨by first | rfl | (simp; done) | (simp [*]; done), by repeat (first | exact Drawn0.refl _ | apply Drawn0.step)⟩
end Go.Proofs.Ytfaaoljihmlbmaa.PFnExactRecOk
