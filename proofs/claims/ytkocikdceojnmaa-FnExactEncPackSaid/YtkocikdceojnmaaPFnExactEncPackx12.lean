/- The machine's side of FnExactEncPack, written by wip/tools/hyb.py of this repo: each Go function as a plain Lean function, and the proof that the call comes to just its answer. No condition. -/
import Derived.Test.YtkocikdceojnmaaPFnExactEncPackx0
import Derived.Test.YtkocikdceojnmaaPFnExactEncPackx10
import Derived.Test.YtkocikdceojnmaaPFnExactEncPackx11
namespace Go.Proofs.Ytkocikdceojnmaa.PFnExactEncPack
open Go.RowKit Go.Proofs.YtkocikdceojnmaaW.PrintWords Go.Proofs.YtkocikdceojnmaaW.PrintLast Go.Proofs.YtkocikdceojnmaaW.PrintMore Go.Proofs.YtkocikdceojnmaaW.PrintMore2
attribute [local go_sem] max2_int min2_int max_two min_two max_three min_three max_four min_four   -- for this text's walks alone
set_option linter.unusedVariables false
set_option linter.unusedSimpArgs false

/-! ### bits_Len64: function 84 -/
def bits_Len64.j0 : Nat → Int → Int → Option (Int)
  | 0, _, _ => none
  | k + 1, x0, x2 => if x0 ≥ 65536 then (if (x0 / 65536) ≥ 256 then (if 0 ≤ (((x0 / 65536) / 256) % 256) then (if (((x0 / 65536) / 256) % 256) < 256 then (some (wrap64 ((wrap64 ((wrap64 (x2 + 16)) + 8)) + (wrap64 (bt (⟨#[0, 1, 2, 2, 3, 3, 3, 3, 4, 4, 4, 4, 4, 4, 4, 4, 5, 5, 5, 5, 5, 5, 5, 5, 5, 5, 5, 5, 5, 5, 5, 5, 6, 6, 6, 6, 6, 6, 6, 6, 6, 6, 6, 6, 6, 6, 6, 6, 6, 6, 6, 6, 6, 6, 6, 6, 6, 6, 6, 6, 6, 6, 6, 6, 7, 7, 7, 7, 7, 7, 7, 7, 7, 7, 7, 7, 7, 7, 7, 7, 7, 7, 7, 7, 7, 7, 7, 7, 7, 7, 7, 7, 7, 7, 7, 7, 7, 7, 7, 7, 7, 7, 7, 7, 7, 7, 7, 7, 7, 7, 7, 7, 7, 7, 7, 7, 7, 7, 7, 7, 7, 7, 7, 7, 7, 7, 7, 7, 8, 8, 8, 8, 8, 8, 8, 8, 8, 8, 8, 8, 8, 8, 8, 8, 8, 8, 8, 8, 8, 8, 8, 8, 8, 8, 8, 8, 8, 8, 8, 8, 8, 8, 8, 8, 8, 8, 8, 8, 8, 8, 8, 8, 8, 8, 8, 8, 8, 8, 8, 8, 8, 8, 8, 8, 8, 8, 8, 8, 8, 8, 8, 8, 8, 8, 8, 8, 8, 8, 8, 8, 8, 8, 8, 8, 8, 8, 8, 8, 8, 8, 8, 8, 8, 8, 8, 8, 8, 8, 8, 8, 8, 8, 8, 8, 8, 8, 8, 8, 8, 8, 8, 8, 8, 8, 8, 8, 8, 8, 8, 8, 8, 8, 8, 8, 8, 8, 8, 8, 8, 8, 8, 8, 8, 8, 8, 8]⟩ : ByteArray) (((x0 / 65536) / 256) % 256)))))) else (none)) else (none)) else (if 0 ≤ ((x0 / 65536) % 256) then (if ((x0 / 65536) % 256) < 256 then (some (wrap64 ((wrap64 (x2 + 16)) + (wrap64 (bt (⟨#[0, 1, 2, 2, 3, 3, 3, 3, 4, 4, 4, 4, 4, 4, 4, 4, 5, 5, 5, 5, 5, 5, 5, 5, 5, 5, 5, 5, 5, 5, 5, 5, 6, 6, 6, 6, 6, 6, 6, 6, 6, 6, 6, 6, 6, 6, 6, 6, 6, 6, 6, 6, 6, 6, 6, 6, 6, 6, 6, 6, 6, 6, 6, 6, 7, 7, 7, 7, 7, 7, 7, 7, 7, 7, 7, 7, 7, 7, 7, 7, 7, 7, 7, 7, 7, 7, 7, 7, 7, 7, 7, 7, 7, 7, 7, 7, 7, 7, 7, 7, 7, 7, 7, 7, 7, 7, 7, 7, 7, 7, 7, 7, 7, 7, 7, 7, 7, 7, 7, 7, 7, 7, 7, 7, 7, 7, 7, 7, 8, 8, 8, 8, 8, 8, 8, 8, 8, 8, 8, 8, 8, 8, 8, 8, 8, 8, 8, 8, 8, 8, 8, 8, 8, 8, 8, 8, 8, 8, 8, 8, 8, 8, 8, 8, 8, 8, 8, 8, 8, 8, 8, 8, 8, 8, 8, 8, 8, 8, 8, 8, 8, 8, 8, 8, 8, 8, 8, 8, 8, 8, 8, 8, 8, 8, 8, 8, 8, 8, 8, 8, 8, 8, 8, 8, 8, 8, 8, 8, 8, 8, 8, 8, 8, 8, 8, 8, 8, 8, 8, 8, 8, 8, 8, 8, 8, 8, 8, 8, 8, 8, 8, 8, 8, 8, 8, 8, 8, 8, 8, 8, 8, 8, 8, 8, 8, 8, 8, 8, 8, 8, 8, 8, 8, 8, 8, 8]⟩ : ByteArray) ((x0 / 65536) % 256)))))) else (none)) else (none))) else (if x0 ≥ 256 then (if 0 ≤ ((x0 / 256) % 256) then (if ((x0 / 256) % 256) < 256 then (some (wrap64 ((wrap64 (x2 + 8)) + (wrap64 (bt (⟨#[0, 1, 2, 2, 3, 3, 3, 3, 4, 4, 4, 4, 4, 4, 4, 4, 5, 5, 5, 5, 5, 5, 5, 5, 5, 5, 5, 5, 5, 5, 5, 5, 6, 6, 6, 6, 6, 6, 6, 6, 6, 6, 6, 6, 6, 6, 6, 6, 6, 6, 6, 6, 6, 6, 6, 6, 6, 6, 6, 6, 6, 6, 6, 6, 7, 7, 7, 7, 7, 7, 7, 7, 7, 7, 7, 7, 7, 7, 7, 7, 7, 7, 7, 7, 7, 7, 7, 7, 7, 7, 7, 7, 7, 7, 7, 7, 7, 7, 7, 7, 7, 7, 7, 7, 7, 7, 7, 7, 7, 7, 7, 7, 7, 7, 7, 7, 7, 7, 7, 7, 7, 7, 7, 7, 7, 7, 7, 7, 8, 8, 8, 8, 8, 8, 8, 8, 8, 8, 8, 8, 8, 8, 8, 8, 8, 8, 8, 8, 8, 8, 8, 8, 8, 8, 8, 8, 8, 8, 8, 8, 8, 8, 8, 8, 8, 8, 8, 8, 8, 8, 8, 8, 8, 8, 8, 8, 8, 8, 8, 8, 8, 8, 8, 8, 8, 8, 8, 8, 8, 8, 8, 8, 8, 8, 8, 8, 8, 8, 8, 8, 8, 8, 8, 8, 8, 8, 8, 8, 8, 8, 8, 8, 8, 8, 8, 8, 8, 8, 8, 8, 8, 8, 8, 8, 8, 8, 8, 8, 8, 8, 8, 8, 8, 8, 8, 8, 8, 8, 8, 8, 8, 8, 8, 8, 8, 8, 8, 8, 8, 8, 8, 8, 8, 8, 8, 8]⟩ : ByteArray) ((x0 / 256) % 256)))))) else (none)) else (none)) else (if 0 ≤ ((x0) % 256) then (if ((x0) % 256) < 256 then (some (wrap64 (x2 + (wrap64 (bt (⟨#[0, 1, 2, 2, 3, 3, 3, 3, 4, 4, 4, 4, 4, 4, 4, 4, 5, 5, 5, 5, 5, 5, 5, 5, 5, 5, 5, 5, 5, 5, 5, 5, 6, 6, 6, 6, 6, 6, 6, 6, 6, 6, 6, 6, 6, 6, 6, 6, 6, 6, 6, 6, 6, 6, 6, 6, 6, 6, 6, 6, 6, 6, 6, 6, 7, 7, 7, 7, 7, 7, 7, 7, 7, 7, 7, 7, 7, 7, 7, 7, 7, 7, 7, 7, 7, 7, 7, 7, 7, 7, 7, 7, 7, 7, 7, 7, 7, 7, 7, 7, 7, 7, 7, 7, 7, 7, 7, 7, 7, 7, 7, 7, 7, 7, 7, 7, 7, 7, 7, 7, 7, 7, 7, 7, 7, 7, 7, 7, 8, 8, 8, 8, 8, 8, 8, 8, 8, 8, 8, 8, 8, 8, 8, 8, 8, 8, 8, 8, 8, 8, 8, 8, 8, 8, 8, 8, 8, 8, 8, 8, 8, 8, 8, 8, 8, 8, 8, 8, 8, 8, 8, 8, 8, 8, 8, 8, 8, 8, 8, 8, 8, 8, 8, 8, 8, 8, 8, 8, 8, 8, 8, 8, 8, 8, 8, 8, 8, 8, 8, 8, 8, 8, 8, 8, 8, 8, 8, 8, 8, 8, 8, 8, 8, 8, 8, 8, 8, 8, 8, 8, 8, 8, 8, 8, 8, 8, 8, 8, 8, 8, 8, 8, 8, 8, 8, 8, 8, 8, 8, 8, 8, 8, 8, 8, 8, 8, 8, 8, 8, 8, 8, 8, 8, 8, 8, 8]⟩ : ByteArray) ((x0) % 256)))))) else (none)) else (none)))
def bits_Len64.f (k : Nat) (a0 : Int) : Option (Int) := if a0 ≥ 4294967296 then (bits_Len64.j0 k (a0 / 4294967296) 32) else (bits_Len64.j0 k a0 0)
set_option maxHeartbeats 8000000 in
set_option maxRecDepth 100000 in
theorem bits_Len64.calls (k : Nat) (a0 : Int) (r : Int) (w : World) (h : bits_Len64.f k a0 = some r) :
    Calls Try.prog 84 #[.int .u64 a0] w fun e w' => e = .returned (.int .i64 r) ∧ Drawn0 w w' := by
  have H : (if a0 ≥ 4294967296 then (bits_Len64.j0 k (a0 / 4294967296) 32) else (bits_Len64.j0 k a0 0)) = some r := h
  clear h
  have HC2 := Aside0.mk H
  clear H
  go_enter Try.func84, Try.ntmps84
  go_upto_if 4 with (fail)
  go_cut [0, 2] (fun v0 v2 wc => ∃ (kq : Nat) (x0_1 : Int) (x2_1 : Int), v0 = .int .u64 x0_1 ∧ v2 = .int .i64 x2_1 ∧ Aside0 (bits_Len64.j0 kq x0_1 x2_1 = some r) ∧ Aside0 (kq ≤ k) ∧ Drawn0 w wc)
  case first =>
    have H := HC2.out
    clear HC2
    by_cases c3 : a0 ≥ 4294967296
    · rw [if_pos c3] at H
      have c3b0 : decide (4294967296 ≤ a0) = true := decide_eq_true c3
      clear c3
      (first | rw [c3b0] | (simp only [i64_w, i32_w]; rw [c3b0]) | skip)
      have H' := Aside0.mk H
      clear H
      go_wp2
      go_meet
      case rel => exact ⟨_, (a0 / 4294967296), (32), sr, sr, H', ⟨by first | omega | exact Nat.le_refl _⟩, by repeat (first | exact Drawn0.refl _ | apply Drawn0.step)⟩
    · rw [if_neg c3] at H
      have c3b0 : decide (4294967296 ≤ a0) = false := decide_eq_false c3
      clear c3
      (first | rw [c3b0] | (simp only [i64_w, i32_w]; rw [c3b0]) | skip)
      have H' := Aside0.mk H
      clear H
      go_wp2
      go_meet
      case rel => exact ⟨_, (a0), (0), sr, sr, H', ⟨by first | omega | exact Nat.le_refl _⟩, by repeat (first | exact Drawn0.refl _ | apply Drawn0.step)⟩
  case rest =>
    clear HC2
    obtain ⟨kq, x0_1, x2_1, rfl, rfl, HA, HJ1, ⟨mc1, rfl⟩⟩ := hcut
    cases kq with
    | zero => exact absurd HA.out (by simp [bits_Len64.j0])
    | succ kj1 =>
      have H := HA.out
      clear HA
      simp only [bits_Len64.j0] at H
      by_cases c4 : x0_1 ≥ 65536
      · rw [if_pos c4] at H
        have c4b0 : decide (65536 ≤ x0_1) = true := decide_eq_true c4
        clear c4
        by_cases c5 : (x0_1 / 65536) ≥ 256
        · rw [if_pos c5] at H
          have c5b0 : decide (256 ≤ (x0_1 / 65536)) = true := decide_eq_true c5
          clear c5
          obtain ⟨ji6, hji6⟩ : ∃ j_ : Int, (((x0_1 / 65536) / 256) % 256) = j_ := ⟨_, rfl⟩
          replace H : (if 0 ≤ (ji6) then (if (ji6) < 256 then (some (wrap64 ((wrap64 ((wrap64 (x2_1 + 16)) + 8)) + (wrap64 (bt (⟨#[0, 1, 2, 2, 3, 3, 3, 3, 4, 4, 4, 4, 4, 4, 4, 4, 5, 5, 5, 5, 5, 5, 5, 5, 5, 5, 5, 5, 5, 5, 5, 5, 6, 6, 6, 6, 6, 6, 6, 6, 6, 6, 6, 6, 6, 6, 6, 6, 6, 6, 6, 6, 6, 6, 6, 6, 6, 6, 6, 6, 6, 6, 6, 6, 7, 7, 7, 7, 7, 7, 7, 7, 7, 7, 7, 7, 7, 7, 7, 7, 7, 7, 7, 7, 7, 7, 7, 7, 7, 7, 7, 7, 7, 7, 7, 7, 7, 7, 7, 7, 7, 7, 7, 7, 7, 7, 7, 7, 7, 7, 7, 7, 7, 7, 7, 7, 7, 7, 7, 7, 7, 7, 7, 7, 7, 7, 7, 7, 8, 8, 8, 8, 8, 8, 8, 8, 8, 8, 8, 8, 8, 8, 8, 8, 8, 8, 8, 8, 8, 8, 8, 8, 8, 8, 8, 8, 8, 8, 8, 8, 8, 8, 8, 8, 8, 8, 8, 8, 8, 8, 8, 8, 8, 8, 8, 8, 8, 8, 8, 8, 8, 8, 8, 8, 8, 8, 8, 8, 8, 8, 8, 8, 8, 8, 8, 8, 8, 8, 8, 8, 8, 8, 8, 8, 8, 8, 8, 8, 8, 8, 8, 8, 8, 8, 8, 8, 8, 8, 8, 8, 8, 8, 8, 8, 8, 8, 8, 8, 8, 8, 8, 8, 8, 8, 8, 8, 8, 8, 8, 8, 8, 8, 8, 8, 8, 8, 8, 8, 8, 8, 8, 8, 8, 8, 8, 8]⟩ : ByteArray) (ji6)))))) else (none)) else (none)) = some r := by first | (rw [hji6] at H; exact H) | (simp only [hji6] at H ⊢; exact H)
          replace H := ifd H
          obtain ⟨c7b0, H⟩ := H
          replace H := ifd H
          obtain ⟨c8b0, H⟩ := H
          obtain rfl := Option.some.inj H
          have p9 : 0 ≤ ((ji6) : Int) := dcd
          have q9 : (ji6) < (256 : Int) := dcd
          have hx9 := bt_at (⟨#[0, 1, 2, 2, 3, 3, 3, 3, 4, 4, 4, 4, 4, 4, 4, 4, 5, 5, 5, 5, 5, 5, 5, 5, 5, 5, 5, 5, 5, 5, 5, 5, 6, 6, 6, 6, 6, 6, 6, 6, 6, 6, 6, 6, 6, 6, 6, 6, 6, 6, 6, 6, 6, 6, 6, 6, 6, 6, 6, 6, 6, 6, 6, 6, 7, 7, 7, 7, 7, 7, 7, 7, 7, 7, 7, 7, 7, 7, 7, 7, 7, 7, 7, 7, 7, 7, 7, 7, 7, 7, 7, 7, 7, 7, 7, 7, 7, 7, 7, 7, 7, 7, 7, 7, 7, 7, 7, 7, 7, 7, 7, 7, 7, 7, 7, 7, 7, 7, 7, 7, 7, 7, 7, 7, 7, 7, 7, 7, 8, 8, 8, 8, 8, 8, 8, 8, 8, 8, 8, 8, 8, 8, 8, 8, 8, 8, 8, 8, 8, 8, 8, 8, 8, 8, 8, 8, 8, 8, 8, 8, 8, 8, 8, 8, 8, 8, 8, 8, 8, 8, 8, 8, 8, 8, 8, 8, 8, 8, 8, 8, 8, 8, 8, 8, 8, 8, 8, 8, 8, 8, 8, 8, 8, 8, 8, 8, 8, 8, 8, 8, 8, 8, 8, 8, 8, 8, 8, 8, 8, 8, 8, 8, 8, 8, 8, 8, 8, 8, 8, 8, 8, 8, 8, 8, 8, 8, 8, 8, 8, 8, 8, 8, 8, 8, 8, 8, 8, 8, 8, 8, 8, 8, 8, 8, 8, 8, 8, 8, 8, 8, 8, 8, 8, 8, 8, 8]⟩ : ByteArray) (ji6)
          replace p9 := eq_true p9
          replace q9 := eq_true q9
          go_wp2
          go_ret
          exact ⟨by first | rfl | (simp; done) | (simp only [← hji6] <;> (first | rfl | simp)) | (simp [*]; done), by repeat (first | exact Drawn0.refl _ | apply Drawn0.step)⟩
        · rw [if_neg c5] at H
          have c5b0 : decide (256 ≤ (x0_1 / 65536)) = false := decide_eq_false c5
          clear c5
          obtain ⟨ji10, hji10⟩ : ∃ j_ : Int, ((x0_1 / 65536) % 256) = j_ := ⟨_, rfl⟩
          replace H : (if 0 ≤ (ji10) then (if (ji10) < 256 then (some (wrap64 ((wrap64 (x2_1 + 16)) + (wrap64 (bt (⟨#[0, 1, 2, 2, 3, 3, 3, 3, 4, 4, 4, 4, 4, 4, 4, 4, 5, 5, 5, 5, 5, 5, 5, 5, 5, 5, 5, 5, 5, 5, 5, 5, 6, 6, 6, 6, 6, 6, 6, 6, 6, 6, 6, 6, 6, 6, 6, 6, 6, 6, 6, 6, 6, 6, 6, 6, 6, 6, 6, 6, 6, 6, 6, 6, 7, 7, 7, 7, 7, 7, 7, 7, 7, 7, 7, 7, 7, 7, 7, 7, 7, 7, 7, 7, 7, 7, 7, 7, 7, 7, 7, 7, 7, 7, 7, 7, 7, 7, 7, 7, 7, 7, 7, 7, 7, 7, 7, 7, 7, 7, 7, 7, 7, 7, 7, 7, 7, 7, 7, 7, 7, 7, 7, 7, 7, 7, 7, 7, 8, 8, 8, 8, 8, 8, 8, 8, 8, 8, 8, 8, 8, 8, 8, 8, 8, 8, 8, 8, 8, 8, 8, 8, 8, 8, 8, 8, 8, 8, 8, 8, 8, 8, 8, 8, 8, 8, 8, 8, 8, 8, 8, 8, 8, 8, 8, 8, 8, 8, 8, 8, 8, 8, 8, 8, 8, 8, 8, 8, 8, 8, 8, 8, 8, 8, 8, 8, 8, 8, 8, 8, 8, 8, 8, 8, 8, 8, 8, 8, 8, 8, 8, 8, 8, 8, 8, 8, 8, 8, 8, 8, 8, 8, 8, 8, 8, 8, 8, 8, 8, 8, 8, 8, 8, 8, 8, 8, 8, 8, 8, 8, 8, 8, 8, 8, 8, 8, 8, 8, 8, 8, 8, 8, 8, 8, 8, 8]⟩ : ByteArray) (ji10)))))) else (none)) else (none)) = some r := by first | (rw [hji10] at H; exact H) | (simp only [hji10] at H ⊢; exact H)
          replace H := ifd H
          obtain ⟨c11b0, H⟩ := H
          replace H := ifd H
          obtain ⟨c12b0, H⟩ := H
          obtain rfl := Option.some.inj H
          have p13 : 0 ≤ ((ji10) : Int) := dcd
          have q13 : (ji10) < (256 : Int) := dcd
          have hx13 := bt_at (⟨#[0, 1, 2, 2, 3, 3, 3, 3, 4, 4, 4, 4, 4, 4, 4, 4, 5, 5, 5, 5, 5, 5, 5, 5, 5, 5, 5, 5, 5, 5, 5, 5, 6, 6, 6, 6, 6, 6, 6, 6, 6, 6, 6, 6, 6, 6, 6, 6, 6, 6, 6, 6, 6, 6, 6, 6, 6, 6, 6, 6, 6, 6, 6, 6, 7, 7, 7, 7, 7, 7, 7, 7, 7, 7, 7, 7, 7, 7, 7, 7, 7, 7, 7, 7, 7, 7, 7, 7, 7, 7, 7, 7, 7, 7, 7, 7, 7, 7, 7, 7, 7, 7, 7, 7, 7, 7, 7, 7, 7, 7, 7, 7, 7, 7, 7, 7, 7, 7, 7, 7, 7, 7, 7, 7, 7, 7, 7, 7, 8, 8, 8, 8, 8, 8, 8, 8, 8, 8, 8, 8, 8, 8, 8, 8, 8, 8, 8, 8, 8, 8, 8, 8, 8, 8, 8, 8, 8, 8, 8, 8, 8, 8, 8, 8, 8, 8, 8, 8, 8, 8, 8, 8, 8, 8, 8, 8, 8, 8, 8, 8, 8, 8, 8, 8, 8, 8, 8, 8, 8, 8, 8, 8, 8, 8, 8, 8, 8, 8, 8, 8, 8, 8, 8, 8, 8, 8, 8, 8, 8, 8, 8, 8, 8, 8, 8, 8, 8, 8, 8, 8, 8, 8, 8, 8, 8, 8, 8, 8, 8, 8, 8, 8, 8, 8, 8, 8, 8, 8, 8, 8, 8, 8, 8, 8, 8, 8, 8, 8, 8, 8, 8, 8, 8, 8, 8, 8]⟩ : ByteArray) (ji10)
          replace p13 := eq_true p13
          replace q13 := eq_true q13
          go_wp2
          go_ret
          exact ⟨by first | rfl | (simp; done) | (simp only [← hji10] <;> (first | rfl | simp)) | (simp [*]; done), by repeat (first | exact Drawn0.refl _ | apply Drawn0.step)⟩
      · rw [if_neg c4] at H
        have c4b0 : decide (65536 ≤ x0_1) = false := decide_eq_false c4
        clear c4
        by_cases c14 : x0_1 ≥ 256
        · rw [if_pos c14] at H
          have c14b0 : decide (256 ≤ x0_1) = true := decide_eq_true c14
          clear c14
          obtain ⟨ji15, hji15⟩ : ∃ j_ : Int, ((x0_1 / 256) % 256) = j_ := ⟨_, rfl⟩
          replace H : (if 0 ≤ (ji15) then (if (ji15) < 256 then (some (wrap64 ((wrap64 (x2_1 + 8)) + (wrap64 (bt (⟨#[0, 1, 2, 2, 3, 3, 3, 3, 4, 4, 4, 4, 4, 4, 4, 4, 5, 5, 5, 5, 5, 5, 5, 5, 5, 5, 5, 5, 5, 5, 5, 5, 6, 6, 6, 6, 6, 6, 6, 6, 6, 6, 6, 6, 6, 6, 6, 6, 6, 6, 6, 6, 6, 6, 6, 6, 6, 6, 6, 6, 6, 6, 6, 6, 7, 7, 7, 7, 7, 7, 7, 7, 7, 7, 7, 7, 7, 7, 7, 7, 7, 7, 7, 7, 7, 7, 7, 7, 7, 7, 7, 7, 7, 7, 7, 7, 7, 7, 7, 7, 7, 7, 7, 7, 7, 7, 7, 7, 7, 7, 7, 7, 7, 7, 7, 7, 7, 7, 7, 7, 7, 7, 7, 7, 7, 7, 7, 7, 8, 8, 8, 8, 8, 8, 8, 8, 8, 8, 8, 8, 8, 8, 8, 8, 8, 8, 8, 8, 8, 8, 8, 8, 8, 8, 8, 8, 8, 8, 8, 8, 8, 8, 8, 8, 8, 8, 8, 8, 8, 8, 8, 8, 8, 8, 8, 8, 8, 8, 8, 8, 8, 8, 8, 8, 8, 8, 8, 8, 8, 8, 8, 8, 8, 8, 8, 8, 8, 8, 8, 8, 8, 8, 8, 8, 8, 8, 8, 8, 8, 8, 8, 8, 8, 8, 8, 8, 8, 8, 8, 8, 8, 8, 8, 8, 8, 8, 8, 8, 8, 8, 8, 8, 8, 8, 8, 8, 8, 8, 8, 8, 8, 8, 8, 8, 8, 8, 8, 8, 8, 8, 8, 8, 8, 8, 8, 8]⟩ : ByteArray) (ji15)))))) else (none)) else (none)) = some r := by first | (rw [hji15] at H; exact H) | (simp only [hji15] at H ⊢; exact H)
          replace H := ifd H
          obtain ⟨c16b0, H⟩ := H
          replace H := ifd H
          obtain ⟨c17b0, H⟩ := H
          obtain rfl := Option.some.inj H
          have p18 : 0 ≤ ((ji15) : Int) := dcd
          have q18 : (ji15) < (256 : Int) := dcd
          have hx18 := bt_at (⟨#[0, 1, 2, 2, 3, 3, 3, 3, 4, 4, 4, 4, 4, 4, 4, 4, 5, 5, 5, 5, 5, 5, 5, 5, 5, 5, 5, 5, 5, 5, 5, 5, 6, 6, 6, 6, 6, 6, 6, 6, 6, 6, 6, 6, 6, 6, 6, 6, 6, 6, 6, 6, 6, 6, 6, 6, 6, 6, 6, 6, 6, 6, 6, 6, 7, 7, 7, 7, 7, 7, 7, 7, 7, 7, 7, 7, 7, 7, 7, 7, 7, 7, 7, 7, 7, 7, 7, 7, 7, 7, 7, 7, 7, 7, 7, 7, 7, 7, 7, 7, 7, 7, 7, 7, 7, 7, 7, 7, 7, 7, 7, 7, 7, 7, 7, 7, 7, 7, 7, 7, 7, 7, 7, 7, 7, 7, 7, 7, 8, 8, 8, 8, 8, 8, 8, 8, 8, 8, 8, 8, 8, 8, 8, 8, 8, 8, 8, 8, 8, 8, 8, 8, 8, 8, 8, 8, 8, 8, 8, 8, 8, 8, 8, 8, 8, 8, 8, 8, 8, 8, 8, 8, 8, 8, 8, 8, 8, 8, 8, 8, 8, 8, 8, 8, 8, 8, 8, 8, 8, 8, 8, 8, 8, 8, 8, 8, 8, 8, 8, 8, 8, 8, 8, 8, 8, 8, 8, 8, 8, 8, 8, 8, 8, 8, 8, 8, 8, 8, 8, 8, 8, 8, 8, 8, 8, 8, 8, 8, 8, 8, 8, 8, 8, 8, 8, 8, 8, 8, 8, 8, 8, 8, 8, 8, 8, 8, 8, 8, 8, 8, 8, 8, 8, 8, 8, 8]⟩ : ByteArray) (ji15)
          replace p18 := eq_true p18
          replace q18 := eq_true q18
          go_wp2
          go_ret
          exact ⟨by first | rfl | (simp; done) | (simp only [← hji15] <;> (first | rfl | simp)) | (simp [*]; done), by repeat (first | exact Drawn0.refl _ | apply Drawn0.step)⟩
        · rw [if_neg c14] at H
          have c14b0 : decide (256 ≤ x0_1) = false := decide_eq_false c14
          clear c14
          obtain ⟨ji19, hji19⟩ : ∃ j_ : Int, ((x0_1) % 256) = j_ := ⟨_, rfl⟩
          replace H : (if 0 ≤ (ji19) then (if (ji19) < 256 then (some (wrap64 (x2_1 + (wrap64 (bt (⟨#[0, 1, 2, 2, 3, 3, 3, 3, 4, 4, 4, 4, 4, 4, 4, 4, 5, 5, 5, 5, 5, 5, 5, 5, 5, 5, 5, 5, 5, 5, 5, 5, 6, 6, 6, 6, 6, 6, 6, 6, 6, 6, 6, 6, 6, 6, 6, 6, 6, 6, 6, 6, 6, 6, 6, 6, 6, 6, 6, 6, 6, 6, 6, 6, 7, 7, 7, 7, 7, 7, 7, 7, 7, 7, 7, 7, 7, 7, 7, 7, 7, 7, 7, 7, 7, 7, 7, 7, 7, 7, 7, 7, 7, 7, 7, 7, 7, 7, 7, 7, 7, 7, 7, 7, 7, 7, 7, 7, 7, 7, 7, 7, 7, 7, 7, 7, 7, 7, 7, 7, 7, 7, 7, 7, 7, 7, 7, 7, 8, 8, 8, 8, 8, 8, 8, 8, 8, 8, 8, 8, 8, 8, 8, 8, 8, 8, 8, 8, 8, 8, 8, 8, 8, 8, 8, 8, 8, 8, 8, 8, 8, 8, 8, 8, 8, 8, 8, 8, 8, 8, 8, 8, 8, 8, 8, 8, 8, 8, 8, 8, 8, 8, 8, 8, 8, 8, 8, 8, 8, 8, 8, 8, 8, 8, 8, 8, 8, 8, 8, 8, 8, 8, 8, 8, 8, 8, 8, 8, 8, 8, 8, 8, 8, 8, 8, 8, 8, 8, 8, 8, 8, 8, 8, 8, 8, 8, 8, 8, 8, 8, 8, 8, 8, 8, 8, 8, 8, 8, 8, 8, 8, 8, 8, 8, 8, 8, 8, 8, 8, 8, 8, 8, 8, 8, 8, 8]⟩ : ByteArray) (ji19)))))) else (none)) else (none)) = some r := by first | (rw [hji19] at H; exact H) | (simp only [hji19] at H ⊢; exact H)
          replace H := ifd H
          obtain ⟨c20b0, H⟩ := H
          replace H := ifd H
          obtain ⟨c21b0, H⟩ := H
          obtain rfl := Option.some.inj H
          have p22 : 0 ≤ ((ji19) : Int) := dcd
          have q22 : (ji19) < (256 : Int) := dcd
          have hx22 := bt_at (⟨#[0, 1, 2, 2, 3, 3, 3, 3, 4, 4, 4, 4, 4, 4, 4, 4, 5, 5, 5, 5, 5, 5, 5, 5, 5, 5, 5, 5, 5, 5, 5, 5, 6, 6, 6, 6, 6, 6, 6, 6, 6, 6, 6, 6, 6, 6, 6, 6, 6, 6, 6, 6, 6, 6, 6, 6, 6, 6, 6, 6, 6, 6, 6, 6, 7, 7, 7, 7, 7, 7, 7, 7, 7, 7, 7, 7, 7, 7, 7, 7, 7, 7, 7, 7, 7, 7, 7, 7, 7, 7, 7, 7, 7, 7, 7, 7, 7, 7, 7, 7, 7, 7, 7, 7, 7, 7, 7, 7, 7, 7, 7, 7, 7, 7, 7, 7, 7, 7, 7, 7, 7, 7, 7, 7, 7, 7, 7, 7, 8, 8, 8, 8, 8, 8, 8, 8, 8, 8, 8, 8, 8, 8, 8, 8, 8, 8, 8, 8, 8, 8, 8, 8, 8, 8, 8, 8, 8, 8, 8, 8, 8, 8, 8, 8, 8, 8, 8, 8, 8, 8, 8, 8, 8, 8, 8, 8, 8, 8, 8, 8, 8, 8, 8, 8, 8, 8, 8, 8, 8, 8, 8, 8, 8, 8, 8, 8, 8, 8, 8, 8, 8, 8, 8, 8, 8, 8, 8, 8, 8, 8, 8, 8, 8, 8, 8, 8, 8, 8, 8, 8, 8, 8, 8, 8, 8, 8, 8, 8, 8, 8, 8, 8, 8, 8, 8, 8, 8, 8, 8, 8, 8, 8, 8, 8, 8, 8, 8, 8, 8, 8, 8, 8, 8, 8, 8, 8]⟩ : ByteArray) (ji19)
          replace p22 := eq_true p22
          replace q22 := eq_true q22
          go_wp2
          go_ret
          exact ⟨by first | rfl | (simp; done) | (simp only [← hji19] <;> (first | rfl | simp)) | (simp [*]; done), by repeat (first | exact Drawn0.refl _ | apply Drawn0.step)⟩
/-! ### impl_widthOf: function 82 -/
def impl_widthOf.f (k : Nat) (a0 : Int) : Option (Int) := (bits_Len64.f k (IntKind.u64.wrap (a0))).bind fun t614 => (some t614)
set_option maxHeartbeats 8000000 in
set_option maxRecDepth 100000 in
theorem impl_widthOf.calls (k : Nat) (a0 : Int) (r : Int) (w : World) (h : impl_widthOf.f k a0 = some r) :
    Calls Try.prog 82 #[.int .i64 a0] w fun e w' => e = .returned (.int .i64 r) ∧ Drawn0 w w' := by
  have H : ((bits_Len64.f k (IntKind.u64.wrap (a0))).bind fun t614 => (some t614)) = some r := h
  clear h
  replace H := bnd H
  obtain ⟨t614, A2, H⟩ := H
  obtain rfl := Option.some.inj H
  go_enter Try.func82, Try.ntmps82
  go_wp2_with (first | ((with_reducible refine gate_callee (f := 84) rfl ?_); refine gl_ (some 5) Try.func84 #[.int .u64 (IntKind.u64.wrap (a0))] rfl ?_; (with_reducible refine (bits_Len64.calls k (IntKind.u64.wrap (a0)) t614 _ A2.out).mono ?_); rintro e w' ⟨rfl, ⟨nd, rfl⟩⟩; refine ⟨_, rfl, ?_⟩))
  go_ret
  exact ⟨by first | rfl | (simp; done) | (simp [*]; done), by repeat (first | exact Drawn0.refl _ | apply Drawn0.step)⟩

/-! ### impl_blockOf: function 65 -/
mutual
def impl_blockOf.l0 : Nat → List Int → Int → List Int → List Int → Int → Option (List Int)
  | 0, _, _, _, _, _ => none
  | k + 1, x0, x3, x4, x5, x16 => if x16 < 4 then (if 32 ≤ 35184372088832 then (impl_blockOf.l1 k x0 x3 x4 x5 x16 (List.replicate 32 0) 0 0 (wrap64 (x16 * 32)) x16) else (none)) else (if x4.length + x5.length < 140737488355328 then (some (x4 ++ x5)) else (none))
def impl_blockOf.l1 : Nat → List Int → Int → List Int → List Int → Int → List Int → Int → Int → Int → Int → Option (List Int)
  | 0, _, _, _, _, _, _, _, _, _, _ => none
  | k + 1, x0, x3, x4, x5, x6, x7, x8, x9, x10, x16 => if x10 < (wrap64 ((wrap64 (x6 + 1)) * 32)) then (if x10 < (x0.length : Int) then (if 0 ≤ x10 then (if 0 ≤ x8 then (if x8 < (x7.length : Int) then ((some (x7.set (x8 : Int).toNat (wrap64 ((rd x0 x10) - x3)) : List Int)).bind fun y629 => ((impl_widthOf.f k (rd y629 x8)).bind fun t631 => (impl_blockOf.l1 k x0 x3 x4 x5 x6 y629 (wrap64 (x8 + 1)) (mx x9 t631) (wrap64 (x10 + 1)) x16))) else (none)) else (none)) else (none)) else (if x4.length < 140737488355328 then ((some (x4 ++ [(x9) % 256] : List Int)).bind fun y632 => (if x8 > 0 then ((impl_packed.f k x7 x9).bind fun t635 => (if x5.length + t635.length < 140737488355328 then (impl_blockOf.l0 k x0 x3 y632 (x5 ++ t635) (wrap64 (x16 + 1))) else (none))) else (impl_blockOf.l0 k x0 x3 y632 x5 (wrap64 (x16 + 1))))) else (none))) else (if x4.length < 140737488355328 then ((some (x4 ++ [(x9) % 256] : List Int)).bind fun y641 => (if x8 > 0 then ((impl_packed.f k x7 x9).bind fun t644 => (if x5.length + t644.length < 140737488355328 then (impl_blockOf.l0 k x0 x3 y641 (x5 ++ t644) (wrap64 (x16 + 1))) else (none))) else (impl_blockOf.l0 k x0 x3 y641 x5 (wrap64 (x16 + 1))))) else (none))
end
def impl_blockOf.f (k : Nat) (l0 : List Int) : Option (List Int) := (slices_Min_int_int.f k l0).bind fun t615 => ((impl_ZigPut.f k t615).bind fun t616 => (impl_blockOf.l0 k l0 t615 t616 (([] : List Int)) 0))
set_option maxHeartbeats 8000000 in
set_option maxRecDepth 100000 in
theorem impl_blockOf.calls (k : Nat) (A0 : Option Addr) (c0 : Nat) (l0 : List Int) (r : List Int) (w : World) (hr0 : Kd.C (Kd.int .i64) w A0 l0.length l0) (hc0 : l0.length ≤ c0) (h : impl_blockOf.f k l0 = some r) :
    Calls Try.prog 65 #[.slice A0 l0.length c0] w fun e w' => ∃ v0_ : Value, e = .returned (v0_) ∧ Kd.R (Kd.int .u8) 5 w' w.heap.size (fun _ => True) v0_ r ∧ Below w.heap.size w w' := by
  have HR0 := Aside0.mk hr0
  have HC0 := Aside0.mk hc0
  clear hr0 hc0
  have HB := Aside0.mk (Below.refl w.heap.size w)
  have H : ((slices_Min_int_int.f k l0).bind fun t615 => ((impl_ZigPut.f k t615).bind fun t616 => (impl_blockOf.l0 k l0 t615 t616 (([] : List Int)) 0))) = some r := h
  clear h
  replace H := bnd H
  obtain ⟨t615, A2, H⟩ := H
  replace H := bnd H
  obtain ⟨t616, A3, H⟩ := H
  obtain ⟨y619, hy619⟩ : ∃ y_ : List Int, y_ = (([] : List Int)) := ⟨_, rfl⟩
  replace H : (impl_blockOf.l0 k l0 t615 t616 y619 0) = some r := by first | (rw [hy619]; with_reducible exact H) | (rw [hy619]; exact H) | exact H
  have Ny619 := Aside0.mk hy619
  clear hy619
  have H' := Aside0.mk H
  clear H
  go_enter Try.func65, Try.ntmps65
  go_wp2_with (first | ((with_reducible refine gate_callee (f := 81) rfl ?_); refine gl_ (some 12) Try.func81 #[.slice A0 l0.length c0] rfl ?_; (with_reducible refine (slices_Min_int_int.calls k _ _ l0 t615 _ ?side1 ?side2 A2.out).mono ?_); (case side1 => exact C_later HR0.out); (case side2 => exact HC0.out); rintro e w4 ⟨rfl, hb⟩; refine ⟨_, rfl, ?_⟩; replace HB := bst HB hb; (try clear hb); (try clear hk)) | ((with_reducible refine gate_callee (f := 63) rfl ?_); refine gl_ (some 14) Try.func63 #[.int .i64 t615] rfl ?_; (with_reducible refine (impl_ZigPut.calls k t615 t616 _ A3.out).mono ?_); rintro e w5 ⟨v617, rfl, ho0, hb⟩; refine ⟨_, rfl, ?_⟩; have HO618 := Aside0.mk (Kd.R_lower ho0 (below_size (below_later HB.out))); replace HB := bst HB hb; (try clear hb); (try clear hk); (try clear ho0)) | ((with_reducible refine gate_dst (N := 15) rfl ?_); (try (refine gate_guard (by rfl) ?_; dsimp only)); refine Kd.R_lit (Kd.int .u8) _ 5 ?hg (N := 15) ?hd (xs := ([] : List Int)) (inner := []) (ok := fun _ => True) (okp := fun _ => True) ?hr ?hp (fun _ hk => hk) trivial (Below.refl _ _) (Nat.le_refl _) (by simp) ?_; (case hd => rfl); (case hg => rfl); (case hr => first | (go_simp; done) | (go_simp; rfl)); (case hp => exact (Reps.none _ _)); intro v620 w6 ho7 hb hg_ hnew_; clear hg_ hnew_; (first | rw [← Ny619.out] at ho7 | (simp only [Int.reduceToNat] at ho7; rw [← Ny619.out] at ho7)); have HO621 := Aside0.mk (Kd.R_lower (Kd.R_new' ho7 (Kd.R_lt (R_later HO618.out))) (below_size (below_later HB.out))); replace HO618 := Aside0.mk (Kd.R_elder' (R_later HO618.out) (Kd.R_base ho7) hb); replace HB := bst HB hb; clear hb ho7))
  go_loopg [4, 5, 16] k (fun kq v4 v5 v16 w' => ∃ (x4_1 : List Int) (x5_1 : List Int) (x16_1 : Int), v16 = .int .i64 x16_1 ∧ Aside0 (impl_blockOf.l0 kq l0 t615 x4_1 x5_1 x16_1 = some r) ∧ Aside0 (kq ≤ k) ∧ Aside0 (Kd.R (Kd.int .u8) 5 w' w.heap.size (fun k_ => some k_ ≠ (v5 : Value).ownBlock) v4 x4_1) ∧ Aside0 (Kd.R (Kd.int .u8) 5 w' w.heap.size (fun k_ => some k_ ≠ (v4 : Value).ownBlock) v5 x5_1) ∧ Aside0 (Below w.heap.size w w'))
  case atStart => exact ⟨(t616), (y619), (0), sr, H', ⟨Nat.le_refl _⟩, ⟨R_later (Kd.R_mono HO618.out (fun _ hk => hk.2))⟩, ⟨R_later (Kd.R_mono HO621.out (fun _ hk => hk.2))⟩, ⟨below_later HB.out⟩⟩
  case round =>
    clear H'
    obtain ⟨x4_1, x5_1, x16_1, rfl, HA, HK1, HO_4, HO_5, HB⟩ := hrel
    cases gk with
    | zero => exact absurd HA.out (by simp [impl_blockOf.l0])
    | succ k1 =>
      have H := HA.out
      clear HA
      simp only [impl_blockOf.l0] at H
      by_cases c8 : x16_1 < 4
      · rw [if_pos c8] at H
        have c8b0 := decide_eq_true c8
        clear c8
        replace H := ifs H
        obtain ⟨c9, H⟩ := H
        have c9b0 := eq_true c9
        have c9b1 := decide_eq_true c9
        clear c9
        obtain ⟨y625, hy625⟩ : ∃ y_ : List Int, y_ = (List.replicate 32 0) := ⟨_, rfl⟩
        replace H : (impl_blockOf.l1 k1 l0 t615 x4_1 x5_1 x16_1 y625 0 0 (wrap64 (x16_1 * 32)) x16_1) = some r := by first | (rw [hy625]; with_reducible exact H) | (rw [hy625]; exact H) | exact H
        have Ny625 := Aside0.mk hy625
        clear hy625
        have H' := Aside0.mk H
        clear H
        go_wp2_with (first | ((with_reducible refine gate_dst (N := 19) rfl ?_); (try (refine gate_guard (by rfl) ?_; dsimp only)); refine Kd.R_make (Kd.int .i64) _ 3 rfl (N := 19) rfl 41 _ _ rfl 32 rfl rfl Try.underlying41 (.int .i64 0) 8 info3 rfl (by decide) (by omega) 0 (ok := fun _ => True) (okp := fun _ => True) rfl (fun _ hk => hk) trivial (by omega) (by omega) (Below.refl _ _) (Nat.le_refl _) ?_; intro v626 w10 ho11 hb hg_ hnew_; clear hg_ hnew_; (first | rw [← Ny625.out] at ho11 | (simp only [Int.reduceToNat] at ho11; rw [← Ny625.out] at ho11)); have HO627 := Aside0.mk (Kd.R_lower ho11 (below_size (below_later HB.out))); replace HO_4 := Aside0.mk (Kd.R_below (R_later HO_4.out) hb); replace HO_5 := Aside0.mk (Kd.R_below (R_later HO_5.out) hb); replace HB := bst HB hb; clear hb ho11))
        go_loopg [8, 9, 10] k1 (fun kq v8 v9 v10 w' => ∃ (x7_2 : List Int) (x8_2 : Int) (x9_2 : Int) (x10_2 : Int), v8 = .int .i64 x8_2 ∧ v9 = .int .i64 x9_2 ∧ v10 = .int .i64 x10_2 ∧ Aside0 (impl_blockOf.l1 kq l0 t615 x4_1 x5_1 x16_1 x7_2 x8_2 x9_2 x10_2 x16_1 = some r) ∧ Aside0 (kq ≤ k1) ∧ Aside0 (Kd.R (Kd.int .u8) 5 w' w.heap.size (fun k_ => some k_ ≠ (u5 : Value).ownBlock) u4 x4_1) ∧ Aside0 (Kd.R (Kd.int .u8) 5 w' w.heap.size (fun k_ => some k_ ≠ (u4 : Value).ownBlock) u5 x5_1) ∧ Aside0 (Kd.R (Kd.int .i64) 3 w' w.heap.size (fun _ => True) v626 x7_2) ∧ Aside0 (Below w.heap.size w w'))
        case atStart => exact ⟨(y625), (0), (0), (wrap64 (x16_1 * 32)), sr, sr, sr, H', ⟨Nat.le_refl _⟩, ⟨R_later HO_4.out⟩, ⟨R_later HO_5.out⟩, ⟨R_later HO627.out⟩, ⟨below_later HB.out⟩⟩
        case round =>
          clear H'
          try clear c8
          try clear c8b0
          try clear c9
          try clear c9b0
          try clear c9b1
          obtain ⟨x7_2, x8_2, x9_2, x10_2, rfl, rfl, rfl, HA, HK2, HO_4, HO_5, HO_7, HB⟩ := hrel
          cases gk with
          | zero => exact absurd HA.out (by simp [impl_blockOf.l1])
          | succ k2 =>
            have H := HA.out
            clear HA
            simp only [impl_blockOf.l1] at H
            by_cases c12 : x10_2 < (wrap64 ((wrap64 (x16_1 + 1)) * 32))
            · rw [if_pos c12] at H
              have c12b0 := decide_eq_true c12
              clear c12
              by_cases c13 : x10_2 < (l0.length : Int)
              · rw [if_pos c13] at H
                have c13b0 := decide_eq_true c13
                clear c13
                replace H := ifd H
                obtain ⟨c14b0, H⟩ := H
                replace H := ifd H
                obtain ⟨c15b0, H⟩ := H
                replace H := ifd H
                obtain ⟨c16b0, H⟩ := H
                replace H := bsm H
                obtain ⟨y629, Ny629, H⟩ := H
                replace H := bnd H
                obtain ⟨t631, A18, H⟩ := H
                obtain ⟨ji19, hji19⟩ : ∃ j_ : Int, (mx x9_2 t631) = j_ := ⟨_, rfl⟩
                replace H : (impl_blockOf.l1 k2 l0 t615 x4_1 x5_1 x16_1 y629 (wrap64 (x8_2 + 1)) ji19 (wrap64 (x10_2 + 1)) x16_1) = some r := by first | (rw [hji19] at H; exact H) | (simp only [hji19] at H ⊢; exact H)
                (try rw [hji19] at A18)
                have hji19_ : (if x9_2 < t631 then t631 else x9_2) = ji19 := hji19
                have H' := Aside0.mk H
                clear H
                have p628 : 0 ≤ (x10_2 : Int) := dcd
                have q628 : x10_2 < (l0.length : Int) := dcd
                obtain ⟨ad628, e628, hx628_0⟩ := Kd.at_int HR0.out x10_2 p628 q628
                cases e628
                replace hx628_0 := crd HB hx628_0
                replace p628 := eq_true p628
                replace q628 := eq_true q628
                have p17 : 0 ≤ (x8_2 : Int) := dcd
                have q17 : (x8_2 : Int) < ((x7_2.length : Int) : Int) := dcd
                obtain ⟨go17, co17, eo17, gb17, gl17, cl17, HG17⟩ := Kd.R_form HO_7.out (by omega)
                (first | cases eo17 | (injection eo17 with ea_ en_ ec_; (first | subst ea_ | (injection ea_ with ea_; subst ea_)); subst ec_; clear en_))
                have GB17 := Aside0.mk gb17
                have GG17 := Aside0.mk HG17
                clear gb17 gl17 HG17
                obtain ⟨hx17_0, hf17_0⟩ := Kd.R_celln 0 HO_7.out (x8_2 : Int) p17 q17
                replace p17 := eq_true p17
                replace q17 := eq_true q17
                have HP20 := Kd.R_putg HO_7.out (x8_2 : Int) (wrap64 ((rd l0 x10_2) - t615))
                go_wp2_with (first | ((with_reducible refine gate_store (t := 3) (p := 43) rfl ?_); refine st_ 3 43 (wr.setCell ⟨go17, (x8_2 : Int).toNat, none⟩ (.int .i64 (wrap64 ((rd l0 x10_2) - t615)))) ?_; intro w21 hw; have hg : wr.grownBy w21 (some go17) := (by rw [hw]; exact HP20.2); have hp_ : Kd.R (Kd.int .i64) 3 w21 w.heap.size (fun _ => True) (.slice (some ⟨go17, 0, none⟩) x7_2.length co17) y629 := (by rw [hw, Ny629.out]; exact HP20.1); clear HP20; replace HO_4 := Aside0.mk (Kd.R_over' (v := (.slice (some ⟨go17, 0, none⟩) x7_2.length co17)) (R_later HO_4.out) (Kd.R_typed HO_7.out) (by decide) hg); replace HO_5 := Aside0.mk (Kd.R_over' (v := (.slice (some ⟨go17, 0, none⟩) x7_2.length co17)) (R_later HO_5.out) (Kd.R_typed HO_7.out) (by decide) hg); replace HO_7 := Aside0.mk (hp_); replace HB := Aside0.mk ((by rw [hw]; exact below_set (HB.out) GB17.out : Below w.heap.size w w21)); clear hg hw hp_; have p630 : 0 ≤ (x8_2 : Int) := dcd; have q630 : x8_2 < (y629.length : Int) := (by have h_ : (x8_2 : Int) < ((x7_2.length : Int) : Int) := dcd; first | (have e_ := (Kd.R_reads' HO_7.out).1; omega) | simpa only [Ny629.out, List.length_set] using h_); have ql630 : ((x8_2 : Int) < ((x7_2.length : Int) : Int)) = True := eq_true (dcd); obtain ⟨ad630, e630, hx630_0⟩ := Kd.at_int (Kd.R_reads' HO_7.out).2.2 x8_2 p630 q630; obtain rfl : (⟨go17, 0, none⟩ : Addr) = ad630 := (by injection e630); (first | simp only [add_plain] at hx630_0 | simp only [add_at] at hx630_0 | simp only [Addr.add, Nat.zero_add] at hx630_0 | skip); replace p630 := eq_true p630; replace q630 := eq_true q630) | ((with_reducible refine gate_callee (f := 82) rfl ?_); refine gl_ (some 49) Try.func82 #[.int .i64 (rd y629 x8_2)] rfl ?_; (with_reducible refine (impl_widthOf.calls k2 (rd y629 x8_2) t631 _ A18.out).mono ?_); rintro e w' ⟨rfl, ⟨nd, rfl⟩⟩; refine ⟨_, rfl, ?_⟩))
                go_roundg k2
                case measure => have := HK1.out; have := HK2.out; omega
                case rel => exact ⟨(y629), (wrap64 (x8_2 + 1)), (ji19), (wrap64 (x10_2 + 1)), sr, (by first | rfl | (simp; done) | (simp only [← hji19] <;> (first | rfl | simp)) | (simp [*]; done)), sr, H', ⟨by have := HK1.out; have := HK2.out; omega⟩, ⟨R_later HO_4.out⟩, ⟨R_later HO_5.out⟩, ⟨R_later HO_7.out⟩, ⟨below_later HB.out⟩⟩
              · rw [if_neg c13] at H
                have c13b0 := decide_eq_false c13
                clear c13
                replace H := ifs H
                obtain ⟨c22, H⟩ := H
                have LMc22 := Aside0.mk c22
                clear c22
                replace H := bsm H
                obtain ⟨y632, Ny632, H⟩ := H
                by_cases c23 : x8_2 > 0
                · rw [if_pos c23] at H
                  have c23b0 : decide (0 < x8_2) = true := decide_eq_true c23
                  clear c23
                  replace H := bnd H
                  obtain ⟨t635, A24, H⟩ := H
                  replace H := ifs H
                  obtain ⟨c25, H⟩ := H
                  have LMc25 := Aside0.mk c25
                  clear c25
                  obtain ⟨y638, hy638⟩ : ∃ y_ : List Int, y_ = (x5_1 ++ t635) := ⟨_, rfl⟩
                  replace H : (impl_blockOf.l0 k2 l0 t615 y632 y638 (wrap64 (x16_1 + 1))) = some r := by first | (rw [hy638]; with_reducible exact H) | (rw [hy638]; exact H) | exact H
                  have Ny638 := Aside0.mk hy638
                  clear hy638
                  have H' := Aside0.mk H
                  clear H
                  go_wp2_with (first | ((with_reducible refine gate_builtin (b := .append) (xs := #[.tmp 53, .tmp 56]) rfl ?_); (try (refine gate_guard (by rfl) ?_; dsimp only)); at_builtin; refine Kd.R_append (Kd.int .u8) (w0 := w) w.heap.size rfl (.tmp 53) (.tmp 56) 24 5 (.int .u8 0) 1 rfl Try.underlying24 info5 rfl (by decide) (by omega) u4 x4_1 ((x9_2) % 256) [.int .u8 ((x9_2) % 256)] (fun k_ => some k_ ≠ (u5 : Value).ownBlock) (fun _ => False) rfl rfl ?aP (fun _ hk => hk.elim) ?aF ?aO ?aB ?aS ?aL ?_; (case aP => exact rfl); (case aB => exact (below_later HB.out)); (case aF => exact (fun k_ hk => Kd.fresh' (Kd.R_lt (R_later HO_5.out)) k_ hk)); (case aO => exact (R_later HO_4.out)); (case aS => exact (below_size (below_later HB.out))); (case aL => have := LMc22.out; omega); intro v633 w26 ho hb hg hat; rw [← Ny632.out] at ho; have n0_ := Aside0.mk (Kd.R_after (ok := (fun _ => True)) (by (with_reducible repeat (first | apply Kd.R_alloc | apply Kd.R_drewN | apply Kd.R_drew)); exact Kd.R_mono HO_5.out (fun _ hk => ⟨trivial, hk⟩)) hg hat); have n1_ := Aside0.mk (Kd.R_over' (R_later HO_7.out) (Kd.R_typed (R_later HO_4.out)) (by decide) hg); have n2_ := Aside0.mk (hb); have n3_ := Aside0.mk (ho); clear HO_5; clear HO_7; clear HB; clear HO_4; have HO_5 := n0_; have HO_7 := n1_; have HB := n2_; have HO634 := n3_; clear n0_ n1_ n2_ n3_; clear ho hb hg hat; obtain ⟨Ao27, co27, eo27⟩ := Kd.R_slice HO_7.out; subst eo27) | ((with_reducible refine gate_callee (f := 61) rfl ?_); refine gl_ (some 63) Try.func61 #[.slice Ao27 x7_2.length co27, .int .i64 x9_2] rfl ?_; (with_reducible refine (impl_packed.calls k2 _ _ x7_2 x9_2 t635 _ ?side1 ?side2 A24.out).mono ?_); (case side1 => repeat (first | exact (Kd.R_reads' HO_7.out).2.2 | (with_reducible refine Kd.C_alloc ?_ _) | (with_reducible refine Kd.C_drewN ?_ _) | (with_reducible refine Kd.C_drew ?_))); (case side2 => exact (Kd.R_reads' HO_7.out).2.1); rintro e w28 ⟨v636, rfl, ho0, hb⟩; refine ⟨_, rfl, ?_⟩; have HO637 := Aside0.mk (Kd.R_lower (Kd.R_new' (Kd.R_new' ho0 (Kd.R_lt (R_later HO_5.out))) (Kd.R_lt (R_later HO634.out))) (below_size (below_later HB.out))); replace HO_5 := Aside0.mk (Kd.R_elder' (R_later HO_5.out) (Kd.R_base ho0) hb); replace HO_7 := Aside0.mk (Kd.R_below (R_later HO_7.out) hb); replace HO634 := Aside0.mk (Kd.R_elder' (R_later HO634.out) (Kd.R_base ho0) hb); replace HB := bst HB hb; (try clear hb); (try clear hk); (try clear ho0); obtain ⟨Ao30, co30, eo30⟩ := Kd.R_slice HO637.out; subst eo30) | ((with_reducible refine gate_builtin (b := .append) (xs := #[.tmp 60, .tmp 63]) rfl ?_); (try (refine gate_guard (by rfl) ?_; dsimp only)); at_builtin; refine Kd.R_append_rows (Kd.int .u8) (w0 := w) w.heap.size rfl (.tmp 60) (.tmp 63) 24 5 (.int .u8 0) 1 rfl Try.underlying24 info5 rfl (by decide) (by omega) u5 x5_1 t635 _ _ _ (fun k_ => some k_ ≠ (v633 : Value).ownBlock ∧ some k_ ≠ (.slice Ao30 t635.length co30 : Value).ownBlock) (fun _ => False) rfl rfl ?aO ?aR (fun _ _ h => h) (fun _ h => h.elim) ?aF ?aB ?aS ?aL ?_; (case aR => repeat (first | exact (Kd.R_reads' HO637.out).2.2 | (with_reducible refine Kd.C_alloc ?_ _) | (with_reducible refine Kd.C_drewN ?_ _) | (with_reducible refine Kd.C_drew ?_))); (case aB => exact (below_later HB.out)); (case aF => exact (fun k_ hk => ⟨Kd.fresh' (Kd.R_lt (R_later HO634.out)) k_ hk, Kd.fresh' (Kd.R_lt (R_later HO637.out)) k_ hk⟩)); (case aO => exact (by (with_reducible repeat (first | apply Kd.R_alloc | apply Kd.R_drewN | apply Kd.R_drew)); exact Kd.R_mono HO_5.out (fun _ hk => ⟨hk.1.2, hk.2⟩))); (case aS => exact (below_size (below_later HB.out))); (case aL => have := LMc25.out; omega); intro v639 w29 ho hb hg hat; rw [← Ny638.out] at ho; have n0_ := Aside0.mk (Kd.R_over' (R_later HO_7.out) (Kd.R_typed (R_later HO_5.out)) (by decide) hg); have n1_ := Aside0.mk (Kd.R_after (ok := (fun k_ => some k_ ≠ (.slice Ao30 t635.length co30 : Value).ownBlock)) (by (with_reducible repeat (first | apply Kd.R_alloc | apply Kd.R_drewN | apply Kd.R_drew)); exact Kd.R_mono HO634.out (fun _ hk => ⟨hk.2, hk.1⟩)) hg hat); have n2_ := Aside0.mk (Kd.R_after (ok := (fun k_ => some k_ ≠ (v633 : Value).ownBlock)) (by (with_reducible repeat (first | apply Kd.R_alloc | apply Kd.R_drewN | apply Kd.R_drew)); exact Kd.R_mono HO637.out (fun _ hk => ⟨hk.2, hk.1.2⟩)) hg hat); have n3_ := Aside0.mk (hb); have n4_ := Aside0.mk (ho); clear HO_7; clear HO634; clear HO637; clear HB; clear HO_5; have HO_7 := n0_; have HO634 := n1_; have HO637 := n2_; have HB := n3_; have HO640 := n4_; clear n0_ n1_ n2_ n3_ n4_; clear ho hb hg hat))
                  go_roundg k2
                  case measure => have := HK1.out; have := HK2.out; omega
                  case rel => exact ⟨(y632), (y638), (wrap64 (x16_1 + 1)), sr, H', ⟨by have := HK1.out; have := HK2.out; omega⟩, ⟨R_later (Kd.R_mono HO634.out (fun _ hk => hk.2))⟩, ⟨R_later (Kd.R_mono HO640.out (fun _ hk => hk.1))⟩, ⟨below_later HB.out⟩⟩
                · rw [if_neg c23] at H
                  have c23b0 : decide (0 < x8_2) = false := decide_eq_false c23
                  clear c23
                  have H' := Aside0.mk H
                  clear H
                  go_wp2_with (first | ((with_reducible refine gate_builtin (b := .append) (xs := #[.tmp 53, .tmp 56]) rfl ?_); (try (refine gate_guard (by rfl) ?_; dsimp only)); at_builtin; refine Kd.R_append (Kd.int .u8) (w0 := w) w.heap.size rfl (.tmp 53) (.tmp 56) 24 5 (.int .u8 0) 1 rfl Try.underlying24 info5 rfl (by decide) (by omega) u4 x4_1 ((x9_2) % 256) [.int .u8 ((x9_2) % 256)] (fun k_ => some k_ ≠ (u5 : Value).ownBlock) (fun _ => False) rfl rfl ?aP (fun _ hk => hk.elim) ?aF ?aO ?aB ?aS ?aL ?_; (case aP => exact rfl); (case aB => exact (below_later HB.out)); (case aF => exact (fun k_ hk => Kd.fresh' (Kd.R_lt (R_later HO_5.out)) k_ hk)); (case aO => exact (R_later HO_4.out)); (case aS => exact (below_size (below_later HB.out))); (case aL => have := LMc22.out; omega); intro v633 w31 ho hb hg hat; rw [← Ny632.out] at ho; have n0_ := Aside0.mk (Kd.R_after (ok := (fun _ => True)) (by (with_reducible repeat (first | apply Kd.R_alloc | apply Kd.R_drewN | apply Kd.R_drew)); exact Kd.R_mono HO_5.out (fun _ hk => ⟨trivial, hk⟩)) hg hat); have n1_ := Aside0.mk (Kd.R_over' (R_later HO_7.out) (Kd.R_typed (R_later HO_4.out)) (by decide) hg); have n2_ := Aside0.mk (hb); have n3_ := Aside0.mk (ho); clear HO_5; clear HO_7; clear HB; clear HO_4; have HO_5 := n0_; have HO_7 := n1_; have HB := n2_; have HO634 := n3_; clear n0_ n1_ n2_ n3_; clear ho hb hg hat))
                  go_roundg k2
                  case measure => have := HK1.out; have := HK2.out; omega
                  case rel => exact ⟨(y632), (x5_1), (wrap64 (x16_1 + 1)), sr, H', ⟨by have := HK1.out; have := HK2.out; omega⟩, ⟨R_later HO634.out⟩, ⟨R_later (Kd.R_mono HO_5.out (fun _ hk => hk.2))⟩, ⟨below_later HB.out⟩⟩
            · rw [if_neg c12] at H
              have c12b0 := decide_eq_false c12
              clear c12
              replace H := ifs H
              obtain ⟨c32, H⟩ := H
              have LMc32 := Aside0.mk c32
              clear c32
              replace H := bsm H
              obtain ⟨y641, Ny641, H⟩ := H
              by_cases c33 : x8_2 > 0
              · rw [if_pos c33] at H
                have c33b0 : decide (0 < x8_2) = true := decide_eq_true c33
                clear c33
                replace H := bnd H
                obtain ⟨t644, A34, H⟩ := H
                replace H := ifs H
                obtain ⟨c35, H⟩ := H
                have LMc35 := Aside0.mk c35
                clear c35
                obtain ⟨y647, hy647⟩ : ∃ y_ : List Int, y_ = (x5_1 ++ t644) := ⟨_, rfl⟩
                replace H : (impl_blockOf.l0 k2 l0 t615 y641 y647 (wrap64 (x16_1 + 1))) = some r := by first | (rw [hy647]; with_reducible exact H) | (rw [hy647]; exact H) | exact H
                have Ny647 := Aside0.mk hy647
                clear hy647
                have H' := Aside0.mk H
                clear H
                go_wp2_with (first | ((with_reducible refine gate_builtin (b := .append) (xs := #[.tmp 53, .tmp 56]) rfl ?_); (try (refine gate_guard (by rfl) ?_; dsimp only)); at_builtin; refine Kd.R_append (Kd.int .u8) (w0 := w) w.heap.size rfl (.tmp 53) (.tmp 56) 24 5 (.int .u8 0) 1 rfl Try.underlying24 info5 rfl (by decide) (by omega) u4 x4_1 ((x9_2) % 256) [.int .u8 ((x9_2) % 256)] (fun k_ => some k_ ≠ (u5 : Value).ownBlock) (fun _ => False) rfl rfl ?aP (fun _ hk => hk.elim) ?aF ?aO ?aB ?aS ?aL ?_; (case aP => exact rfl); (case aB => exact (below_later HB.out)); (case aF => exact (fun k_ hk => Kd.fresh' (Kd.R_lt (R_later HO_5.out)) k_ hk)); (case aO => exact (R_later HO_4.out)); (case aS => exact (below_size (below_later HB.out))); (case aL => have := LMc32.out; omega); intro v642 w36 ho hb hg hat; rw [← Ny641.out] at ho; have n0_ := Aside0.mk (Kd.R_after (ok := (fun _ => True)) (by (with_reducible repeat (first | apply Kd.R_alloc | apply Kd.R_drewN | apply Kd.R_drew)); exact Kd.R_mono HO_5.out (fun _ hk => ⟨trivial, hk⟩)) hg hat); have n1_ := Aside0.mk (Kd.R_over' (R_later HO_7.out) (Kd.R_typed (R_later HO_4.out)) (by decide) hg); have n2_ := Aside0.mk (hb); have n3_ := Aside0.mk (ho); clear HO_5; clear HO_7; clear HB; clear HO_4; have HO_5 := n0_; have HO_7 := n1_; have HB := n2_; have HO643 := n3_; clear n0_ n1_ n2_ n3_; clear ho hb hg hat; obtain ⟨Ao37, co37, eo37⟩ := Kd.R_slice HO_7.out; subst eo37) | ((with_reducible refine gate_callee (f := 61) rfl ?_); refine gl_ (some 63) Try.func61 #[.slice Ao37 x7_2.length co37, .int .i64 x9_2] rfl ?_; (with_reducible refine (impl_packed.calls k2 _ _ x7_2 x9_2 t644 _ ?side1 ?side2 A34.out).mono ?_); (case side1 => repeat (first | exact (Kd.R_reads' HO_7.out).2.2 | (with_reducible refine Kd.C_alloc ?_ _) | (with_reducible refine Kd.C_drewN ?_ _) | (with_reducible refine Kd.C_drew ?_))); (case side2 => exact (Kd.R_reads' HO_7.out).2.1); rintro e w38 ⟨v645, rfl, ho0, hb⟩; refine ⟨_, rfl, ?_⟩; have HO646 := Aside0.mk (Kd.R_lower (Kd.R_new' (Kd.R_new' ho0 (Kd.R_lt (R_later HO_5.out))) (Kd.R_lt (R_later HO643.out))) (below_size (below_later HB.out))); replace HO_5 := Aside0.mk (Kd.R_elder' (R_later HO_5.out) (Kd.R_base ho0) hb); replace HO_7 := Aside0.mk (Kd.R_below (R_later HO_7.out) hb); replace HO643 := Aside0.mk (Kd.R_elder' (R_later HO643.out) (Kd.R_base ho0) hb); replace HB := bst HB hb; (try clear hb); (try clear hk); (try clear ho0); obtain ⟨Ao40, co40, eo40⟩ := Kd.R_slice HO646.out; subst eo40) | ((with_reducible refine gate_builtin (b := .append) (xs := #[.tmp 60, .tmp 63]) rfl ?_); (try (refine gate_guard (by rfl) ?_; dsimp only)); at_builtin; refine Kd.R_append_rows (Kd.int .u8) (w0 := w) w.heap.size rfl (.tmp 60) (.tmp 63) 24 5 (.int .u8 0) 1 rfl Try.underlying24 info5 rfl (by decide) (by omega) u5 x5_1 t644 _ _ _ (fun k_ => some k_ ≠ (v642 : Value).ownBlock ∧ some k_ ≠ (.slice Ao40 t644.length co40 : Value).ownBlock) (fun _ => False) rfl rfl ?aO ?aR (fun _ _ h => h) (fun _ h => h.elim) ?aF ?aB ?aS ?aL ?_; (case aR => repeat (first | exact (Kd.R_reads' HO646.out).2.2 | (with_reducible refine Kd.C_alloc ?_ _) | (with_reducible refine Kd.C_drewN ?_ _) | (with_reducible refine Kd.C_drew ?_))); (case aB => exact (below_later HB.out)); (case aF => exact (fun k_ hk => ⟨Kd.fresh' (Kd.R_lt (R_later HO643.out)) k_ hk, Kd.fresh' (Kd.R_lt (R_later HO646.out)) k_ hk⟩)); (case aO => exact (by (with_reducible repeat (first | apply Kd.R_alloc | apply Kd.R_drewN | apply Kd.R_drew)); exact Kd.R_mono HO_5.out (fun _ hk => ⟨hk.1.2, hk.2⟩))); (case aS => exact (below_size (below_later HB.out))); (case aL => have := LMc35.out; omega); intro v648 w39 ho hb hg hat; rw [← Ny647.out] at ho; have n0_ := Aside0.mk (Kd.R_over' (R_later HO_7.out) (Kd.R_typed (R_later HO_5.out)) (by decide) hg); have n1_ := Aside0.mk (Kd.R_after (ok := (fun k_ => some k_ ≠ (.slice Ao40 t644.length co40 : Value).ownBlock)) (by (with_reducible repeat (first | apply Kd.R_alloc | apply Kd.R_drewN | apply Kd.R_drew)); exact Kd.R_mono HO643.out (fun _ hk => ⟨hk.2, hk.1⟩)) hg hat); have n2_ := Aside0.mk (Kd.R_after (ok := (fun k_ => some k_ ≠ (v642 : Value).ownBlock)) (by (with_reducible repeat (first | apply Kd.R_alloc | apply Kd.R_drewN | apply Kd.R_drew)); exact Kd.R_mono HO646.out (fun _ hk => ⟨hk.2, hk.1.2⟩)) hg hat); have n3_ := Aside0.mk (hb); have n4_ := Aside0.mk (ho); clear HO_7; clear HO643; clear HO646; clear HB; clear HO_5; have HO_7 := n0_; have HO643 := n1_; have HO646 := n2_; have HB := n3_; have HO649 := n4_; clear n0_ n1_ n2_ n3_ n4_; clear ho hb hg hat))
                go_roundg k2
                case measure => have := HK1.out; have := HK2.out; omega
                case rel => exact ⟨(y641), (y647), (wrap64 (x16_1 + 1)), sr, H', ⟨by have := HK1.out; have := HK2.out; omega⟩, ⟨R_later (Kd.R_mono HO643.out (fun _ hk => hk.2))⟩, ⟨R_later (Kd.R_mono HO649.out (fun _ hk => hk.1))⟩, ⟨below_later HB.out⟩⟩
              · rw [if_neg c33] at H
                have c33b0 : decide (0 < x8_2) = false := decide_eq_false c33
                clear c33
                have H' := Aside0.mk H
                clear H
                go_wp2_with (first | ((with_reducible refine gate_builtin (b := .append) (xs := #[.tmp 53, .tmp 56]) rfl ?_); (try (refine gate_guard (by rfl) ?_; dsimp only)); at_builtin; refine Kd.R_append (Kd.int .u8) (w0 := w) w.heap.size rfl (.tmp 53) (.tmp 56) 24 5 (.int .u8 0) 1 rfl Try.underlying24 info5 rfl (by decide) (by omega) u4 x4_1 ((x9_2) % 256) [.int .u8 ((x9_2) % 256)] (fun k_ => some k_ ≠ (u5 : Value).ownBlock) (fun _ => False) rfl rfl ?aP (fun _ hk => hk.elim) ?aF ?aO ?aB ?aS ?aL ?_; (case aP => exact rfl); (case aB => exact (below_later HB.out)); (case aF => exact (fun k_ hk => Kd.fresh' (Kd.R_lt (R_later HO_5.out)) k_ hk)); (case aO => exact (R_later HO_4.out)); (case aS => exact (below_size (below_later HB.out))); (case aL => have := LMc32.out; omega); intro v642 w41 ho hb hg hat; rw [← Ny641.out] at ho; have n0_ := Aside0.mk (Kd.R_after (ok := (fun _ => True)) (by (with_reducible repeat (first | apply Kd.R_alloc | apply Kd.R_drewN | apply Kd.R_drew)); exact Kd.R_mono HO_5.out (fun _ hk => ⟨trivial, hk⟩)) hg hat); have n1_ := Aside0.mk (Kd.R_over' (R_later HO_7.out) (Kd.R_typed (R_later HO_4.out)) (by decide) hg); have n2_ := Aside0.mk (hb); have n3_ := Aside0.mk (ho); clear HO_5; clear HO_7; clear HB; clear HO_4; have HO_5 := n0_; have HO_7 := n1_; have HB := n2_; have HO643 := n3_; clear n0_ n1_ n2_ n3_; clear ho hb hg hat))
                go_roundg k2
                case measure => have := HK1.out; have := HK2.out; omega
                case rel => exact ⟨(y641), (x5_1), (wrap64 (x16_1 + 1)), sr, H', ⟨by have := HK1.out; have := HK2.out; omega⟩, ⟨R_later HO643.out⟩, ⟨R_later (Kd.R_mono HO_5.out (fun _ hk => hk.2))⟩, ⟨below_later HB.out⟩⟩
      · rw [if_neg c8] at H
        have c8b0 := decide_eq_false c8
        clear c8
        replace H := ifs H
        obtain ⟨c42, H⟩ := H
        have LMc42 := Aside0.mk c42
        clear c42
        obtain ⟨y622, hy622⟩ : ∃ y_ : List Int, y_ = (x4_1 ++ x5_1) := ⟨_, rfl⟩
        replace H : (some y622) = some r := by first | (rw [hy622]; with_reducible exact H) | (rw [hy622]; exact H) | exact H
        have Ny622 := Aside0.mk hy622
        clear hy622
        obtain rfl := Option.some.inj H
        obtain ⟨Ao44, co44, eo44⟩ := Kd.R_slice HO_5.out
        subst eo44
        go_wp2_with (first | ((with_reducible refine gate_builtin (b := .append) (xs := #[.tmp 66, .tmp 67]) rfl ?_); (try (refine gate_guard (by rfl) ?_; dsimp only)); at_builtin; refine Kd.R_append_rows (Kd.int .u8) (w0 := w) w.heap.size rfl (.tmp 66) (.tmp 67) 24 5 (.int .u8 0) 1 rfl Try.underlying24 info5 rfl (by decide) (by omega) u4 x4_1 x5_1 _ _ _ (fun k_ => some k_ ≠ (.slice Ao44 x5_1.length co44 : Value).ownBlock) (fun _ => False) rfl rfl ?aO ?aR (fun _ _ h => h) (fun _ h => h.elim) ?aF ?aB ?aS ?aL ?_; (case aR => repeat (first | exact (Kd.R_reads' HO_5.out).2.2 | (with_reducible refine Kd.C_alloc ?_ _) | (with_reducible refine Kd.C_drewN ?_ _) | (with_reducible refine Kd.C_drew ?_))); (case aB => exact (below_later HB.out)); (case aF => exact (fun k_ hk => Kd.fresh' (Kd.R_lt (R_later HO_5.out)) k_ hk)); (case aO => exact (R_later HO_4.out)); (case aS => exact (below_size (below_later HB.out))); (case aL => have := LMc42.out; omega); intro v623 w43 ho hb hg hat; rw [← Ny622.out] at ho; have n0_ := Aside0.mk (Kd.R_after (ok := (fun _ => True)) (by (with_reducible repeat (first | apply Kd.R_alloc | apply Kd.R_drewN | apply Kd.R_drew)); exact Kd.R_mono HO_5.out (fun _ hk => ⟨trivial, hk⟩)) hg hat); have n1_ := Aside0.mk (hb); have n2_ := Aside0.mk (ho); clear HO_5; clear HB; clear HO_4; have HO_5 := n0_; have HB := n1_; have HO624 := n2_; clear n0_ n1_ n2_; clear ho hb hg hat))
        go_ret
        exact ⟨_, by first | rfl | (simp [errW_none, errW_some] <;> rfl) | (simp [*, errW_none, errW_some] <;> rfl), by (with_reducible repeat (first | apply Kd.R_alloc | apply Kd.R_drewN | apply Kd.R_drew)); exact Kd.R_mono HO624.out (fun _ hk => trivial), below_later HB.out⟩
/-! ### impl_DeltaPack: function 29 -/
mutual
def impl_DeltaPack.j0 : Nat → List Int → Int → Option (List Int × Bool)
  | 0, _, _ => none
  | k + 1, x0, x4 => (impl_UvarPut.f k 128).bind fun t651 => ((impl_UvarPut.f k 4).bind fun t654 => (if t651.length + t654.length < 140737488355328 then ((some (t651 ++ t654 : List Int)).bind fun y657 => ((impl_UvarPut.f k (x0.length : Int)).bind fun t660 => (if y657.length + t660.length < 140737488355328 then ((some (y657 ++ t660 : List Int)).bind fun y663 => ((impl_ZigPut.f k x4).bind fun t666 => (if y663.length + t666.length < 140737488355328 then ((impl_Differences.f k x0).bind fun t672 => (impl_DeltaPack.l0 k (y663 ++ t666) t672)) else (none)))) else (none)))) else (none)))
def impl_DeltaPack.l0 : Nat → List Int → List Int → Option (List Int × Bool)
  | 0, _, _ => none
  | k + 1, x5, x6 => if (x6.length : Int) > 0 then (if 0 ≤ (mn 128 (x6.length : Int)) then (if (mn 128 (x6.length : Int)) ≤ (x6.length : Int) then ((impl_blockOf.f k (x6.take ((mn 128 (x6.length : Int)) : Int).toNat)).bind fun t679 => (if x5.length + t679.length < 140737488355328 then (impl_DeltaPack.l0 k (x5 ++ t679) (x6.drop ((mn 128 (x6.length : Int)) : Int).toNat)) else (none))) else (none)) else (none)) else (some (x5, true))
end
def impl_DeltaPack.f (k : Nat) (l0 : List Int) : Option (List Int × Bool) := if (l0.length : Int) > 2000 then (some (([] : List Int), false)) else (if (l0.length : Int) > 0 then (if 0 < (l0.length : Int) then (impl_DeltaPack.j0 k l0 (rd l0 0)) else (none)) else (impl_DeltaPack.j0 k l0 0))
set_option maxHeartbeats 8000000 in
set_option maxRecDepth 100000 in
theorem impl_DeltaPack.calls (k : Nat) (A0 : Option Addr) (c0 : Nat) (l0 : List Int) (r1 : List Int) (r2 : Bool) (w : World) (hr0 : Kd.C (Kd.int .i64) w A0 l0.length l0) (hc0 : l0.length ≤ c0) (h : impl_DeltaPack.f k l0 = some (r1, r2)) :
    Calls Try.prog 29 #[.slice A0 l0.length c0] w fun e w' => ∃ v0_ : Value, e = .returned (.tuple #[v0_, .bool r2]) ∧ Kd.R (Kd.int .u8) 5 w' w.heap.size (fun _ => True) v0_ r1 ∧ Below w.heap.size w w' := by
  have HR0 := Aside0.mk hr0
  have HC0 := Aside0.mk hc0
  clear hr0 hc0
  have HB := Aside0.mk (Below.refl w.heap.size w)
  have H : (if (l0.length : Int) > 2000 then (some (([] : List Int), false)) else (if (l0.length : Int) > 0 then (if 0 < (l0.length : Int) then (impl_DeltaPack.j0 k l0 (rd l0 0)) else (none)) else (impl_DeltaPack.j0 k l0 0))) = some (r1, r2) := h
  clear h
  by_cases c2 : (l0.length : Int) > 2000
  · rw [if_pos c2] at H
    have c2b0 : decide (2000 < (l0.length : Int)) = true := decide_eq_true c2
    have c2b1 : decide (2000 < l0.length) = true := decide_eq_true (by omega)
    clear c2
    simp only [Option.some.injEq, Prod.mk.injEq] at H
    obtain ⟨rfl, rfl⟩ := H
    go_enter Try.func29, Try.ntmps29
    go_wp2
    go_ret2
    exact ⟨_, by first | rfl | (simp [errW_none, errW_some] <;> rfl) | (simp [*, errW_none, errW_some] <;> rfl), by first | exact Kd.R_nil _ _ _ _ _ | exact Kd.N_nil _ _ _ _ _ | exact Kd.V_nil _ _ _ _ _ | exact Kd.Q_nil _ _ _ _ _ | exact Kd.S_nil _ _ _ _ _, below_later HB.out⟩
  · rw [if_neg c2] at H
    have c2b0 : decide (2000 < (l0.length : Int)) = false := decide_eq_false c2
    have c2b1 : decide (2000 < l0.length) = false := decide_eq_false (by omega)
    clear c2
    have HC3 := Aside0.mk H
    clear H
    go_enter Try.func29, Try.ntmps29
    go_upto_if 13 with (fail)
    go_cut [4] (fun v4 wc => ∃ (kq : Nat) (x4_2 : Int), v4 = .int .i64 x4_2 ∧ Aside0 (impl_DeltaPack.j0 kq l0 x4_2 = some (r1, r2)) ∧ Aside0 (kq ≤ k) ∧ Aside0 (Below w.heap.size w wc))
    case first =>
      have H := HC3.out
      clear HC3
      by_cases c4 : (l0.length : Int) > 0
      · rw [if_pos c4] at H
        have c4b0 : decide (0 < (l0.length : Int)) = true := decide_eq_true c4
        have c4b1 : decide (0 < l0.length) = true := decide_eq_true (by omega)
        clear c4
        (first | rw [c4b0] | rw [c4b1] | (simp only [i64_w, i32_w]; rw [c4b0]) | skip)
        replace H := ifs H
        obtain ⟨c5, H⟩ := H
        have c5b0 := decide_eq_true c5
        have c5b1 : decide (0 < l0.length) = true := decide_eq_true (by omega)
        clear c5
        have H' := Aside0.mk H
        clear H
        have p650 : 0 ≤ (0 : Int) := (by omega)
        have q650 : 0 < (l0.length : Int) := dcd
        obtain ⟨ad650, e650, hx650_0⟩ := Kd.at_int HR0.out 0 p650 q650
        cases e650
        have qi650 : (0 < l0.length) = True := eq_true (by omega)
        (try rw [show ((0 : Int)).toNat = 0 from rfl] at hx650_0)
        (try rw [Addr.add_zero'] at hx650_0)
        replace hx650_0 := crd HB hx650_0
        replace p650 := eq_true p650
        replace q650 := eq_true q650
        go_wp2
        go_meet
        case rel => exact ⟨_, (rd l0 0), sr, H', ⟨by first | omega | exact Nat.le_refl _⟩, ⟨below_later HB.out⟩⟩
      · rw [if_neg c4] at H
        have c4b0 : decide (0 < (l0.length : Int)) = false := decide_eq_false c4
        have c4b1 : decide (0 < l0.length) = false := decide_eq_false (by omega)
        clear c4
        (first | rw [c4b0] | rw [c4b1] | (simp only [i64_w, i32_w]; rw [c4b0]) | skip)
        have H' := Aside0.mk H
        clear H
        go_wp2
        go_meet
        case rel => exact ⟨_, (0), sr, H', ⟨by first | omega | exact Nat.le_refl _⟩, ⟨below_later HB.out⟩⟩
    case rest =>
      clear HC3
      try clear c2
      try clear c2b0
      try clear c2b1
      obtain ⟨kq, x4_2, rfl, HA, HJ2, HB⟩ := hcut
      cases kq with
      | zero => exact absurd HA.out (by simp [impl_DeltaPack.j0])
      | succ kj2 =>
        have H := HA.out
        clear HA
        simp only [impl_DeltaPack.j0] at H
        replace H := bnd H
        obtain ⟨t651, A6, H⟩ := H
        replace H := bnd H
        obtain ⟨t654, A7, H⟩ := H
        replace H := ifs H
        obtain ⟨c8, H⟩ := H
        have LMc8 := Aside0.mk c8
        clear c8
        replace H := bsm H
        obtain ⟨y657, Ny657, H⟩ := H
        replace H := bnd H
        obtain ⟨t660, A9, H⟩ := H
        replace H := ifs H
        obtain ⟨c10, H⟩ := H
        have LMc10 := Aside0.mk c10
        clear c10
        replace H := bsm H
        obtain ⟨y663, Ny663, H⟩ := H
        replace H := bnd H
        obtain ⟨t666, A11, H⟩ := H
        replace H := ifs H
        obtain ⟨c12, H⟩ := H
        have LMc12 := Aside0.mk c12
        clear c12
        obtain ⟨y669, hy669⟩ : ∃ y_ : List Int, y_ = (y663 ++ t666) := ⟨_, rfl⟩
        replace H : ((impl_Differences.f kj2 l0).bind fun t672 => (impl_DeltaPack.l0 kj2 y669 t672)) = some (r1, r2) := by first | (rw [hy669]; with_reducible exact H) | (rw [hy669]; exact H) | exact H
        have Ny669 := Aside0.mk hy669
        clear hy669
        replace H := bnd H
        obtain ⟨t672, A13, H⟩ := H
        have H' := Aside0.mk H
        clear H
        go_wp2_with (first | ((with_reducible refine gate_callee (f := 62) rfl ?_); refine gl_ (some 17) Try.func62 #[.int .i64 128] rfl ?_; (with_reducible refine (impl_UvarPut.calls kj2 128 t651 _ A6.out).mono ?_); rintro e w14 ⟨v652, rfl, ho0, hb⟩; refine ⟨_, rfl, ?_⟩; have HO653 := Aside0.mk (Kd.R_lower ho0 (below_size (below_later HB.out))); replace HB := bst HB hb; (try clear hb); (try clear hk); (try clear ho0)) | ((with_reducible refine gate_callee (f := 62) rfl ?_); refine gl_ (some 18) Try.func62 #[.int .i64 4] rfl ?_; (with_reducible refine (impl_UvarPut.calls kj2 4 t654 _ A7.out).mono ?_); rintro e w15 ⟨v655, rfl, ho0, hb⟩; refine ⟨_, rfl, ?_⟩; have HO656 := Aside0.mk (Kd.R_lower (Kd.R_new' ho0 (Kd.R_lt (R_later HO653.out))) (below_size (below_later HB.out))); replace HO653 := Aside0.mk (Kd.R_elder' (R_later HO653.out) (Kd.R_base ho0) hb); replace HB := bst HB hb; (try clear hb); (try clear hk); (try clear ho0); obtain ⟨Ao17, co17, eo17⟩ := Kd.R_slice HO656.out; subst eo17) | ((with_reducible refine gate_builtin (b := .append) (xs := #[.tmp 17, .tmp 18]) rfl ?_); at_builtin; refine Kd.R_append_rows (Kd.int .u8) (w0 := w) w.heap.size rfl (.tmp 17) (.tmp 18) 24 5 (.int .u8 0) 1 rfl Try.underlying24 info5 rfl (by decide) (by omega) v652 t651 t654 _ _ _ (fun k_ => some k_ ≠ (.slice Ao17 t654.length co17 : Value).ownBlock) (fun _ => False) rfl rfl ?aO ?aR (fun _ _ h => h) (fun _ h => h.elim) ?aF ?aB ?aS ?aL ?_; (case aR => repeat (first | exact (Kd.R_reads' HO656.out).2.2 | (with_reducible refine Kd.C_alloc ?_ _) | (with_reducible refine Kd.C_drewN ?_ _) | (with_reducible refine Kd.C_drew ?_))); (case aB => exact (below_later HB.out)); (case aF => exact (fun k_ hk => Kd.fresh' (Kd.R_lt (R_later HO656.out)) k_ hk)); (case aO => exact (by (with_reducible repeat (first | apply Kd.R_alloc | apply Kd.R_drewN | apply Kd.R_drew)); exact Kd.R_mono HO653.out (fun _ hk => hk.2))); (case aS => exact (below_size (below_later HB.out))); (case aL => have := LMc8.out; omega); intro v658 w16 ho hb hg hat; rw [← Ny657.out] at ho; have n0_ := Aside0.mk (Kd.R_after (ok := (fun _ => True)) (R_later HO656.out) hg hat); have n1_ := Aside0.mk (hb); have n2_ := Aside0.mk (ho); clear HO656; clear HB; clear HO653; have HO656 := n0_; have HB := n1_; have HO659 := n2_; clear n0_ n1_ n2_; clear ho hb hg hat) | ((with_reducible refine gate_callee (f := 62) rfl ?_); refine gl_ (some 23) Try.func62 #[.int .i64 (l0.length : Int)] rfl ?_; (with_reducible refine (impl_UvarPut.calls kj2 (l0.length : Int) t660 _ A9.out).mono ?_); rintro e w18 ⟨v661, rfl, ho0, hb⟩; refine ⟨_, rfl, ?_⟩; have HO662 := Aside0.mk (Kd.R_lower (Kd.R_new' (Kd.R_new' ho0 (Kd.R_lt (R_later HO656.out))) (Kd.R_lt (R_later HO659.out))) (below_size (below_later HB.out))); replace HO656 := Aside0.mk (Kd.R_elder' (R_later HO656.out) (Kd.R_base ho0) hb); replace HO659 := Aside0.mk (Kd.R_elder' (R_later HO659.out) (Kd.R_base ho0) hb); replace HB := bst HB hb; (try clear hb); (try clear hk); (try clear ho0); obtain ⟨Ao20, co20, eo20⟩ := Kd.R_slice HO662.out; subst eo20) | ((with_reducible refine gate_builtin (b := .append) (xs := #[.tmp 20, .tmp 23]) rfl ?_); at_builtin; refine Kd.R_append_rows (Kd.int .u8) (w0 := w) w.heap.size rfl (.tmp 20) (.tmp 23) 24 5 (.int .u8 0) 1 rfl Try.underlying24 info5 rfl (by decide) (by omega) v658 y657 t660 _ _ _ (fun k_ => some k_ ≠ (.slice Ao17 t654.length co17 : Value).ownBlock ∧ some k_ ≠ (.slice Ao20 t660.length co20 : Value).ownBlock) (fun _ => False) rfl rfl ?aO ?aR (fun _ _ h => h) (fun _ h => h.elim) ?aF ?aB ?aS ?aL ?_; (case aR => repeat (first | exact (Kd.R_reads' HO662.out).2.2 | (with_reducible refine Kd.C_alloc ?_ _) | (with_reducible refine Kd.C_drewN ?_ _) | (with_reducible refine Kd.C_drew ?_))); (case aB => exact (below_later HB.out)); (case aF => exact (fun k_ hk => ⟨Kd.fresh' (Kd.R_lt (R_later HO656.out)) k_ hk, Kd.fresh' (Kd.R_lt (R_later HO662.out)) k_ hk⟩)); (case aO => exact (R_later HO659.out)); (case aS => exact (below_size (below_later HB.out))); (case aL => have := LMc10.out; omega); intro v664 w19 ho hb hg hat; rw [← Ny663.out] at ho; have n0_ := Aside0.mk (Kd.R_after (ok := (fun k_ => some k_ ≠ (.slice Ao20 t660.length co20 : Value).ownBlock)) (by (with_reducible repeat (first | apply Kd.R_alloc | apply Kd.R_drewN | apply Kd.R_drew)); exact Kd.R_mono HO656.out (fun _ hk => ⟨hk.2, hk.1.2⟩)) hg hat); have n1_ := Aside0.mk (Kd.R_after (ok := (fun k_ => some k_ ≠ (.slice Ao17 t654.length co17 : Value).ownBlock)) (by (with_reducible repeat (first | apply Kd.R_alloc | apply Kd.R_drewN | apply Kd.R_drew)); exact Kd.R_mono HO662.out (fun _ hk => ⟨hk.1.2, hk.2⟩)) hg hat); have n2_ := Aside0.mk (hb); have n3_ := Aside0.mk (ho); clear HO656; clear HO662; clear HB; clear HO659; have HO656 := n0_; have HO662 := n1_; have HB := n2_; have HO665 := n3_; clear n0_ n1_ n2_ n3_; clear ho hb hg hat) | ((with_reducible refine gate_callee (f := 63) rfl ?_); refine gl_ (some 27) Try.func63 #[.int .i64 x4_2] rfl ?_; (with_reducible refine (impl_ZigPut.calls kj2 x4_2 t666 _ A11.out).mono ?_); rintro e w21 ⟨v667, rfl, ho0, hb⟩; refine ⟨_, rfl, ?_⟩; have HO668 := Aside0.mk (Kd.R_lower (Kd.R_new' (Kd.R_new' (Kd.R_new' ho0 (Kd.R_lt (R_later HO656.out))) (Kd.R_lt (R_later HO662.out))) (Kd.R_lt (R_later HO665.out))) (below_size (below_later HB.out))); replace HO656 := Aside0.mk (Kd.R_elder' (R_later HO656.out) (Kd.R_base ho0) hb); replace HO662 := Aside0.mk (Kd.R_elder' (R_later HO662.out) (Kd.R_base ho0) hb); replace HO665 := Aside0.mk (Kd.R_elder' (R_later HO665.out) (Kd.R_base ho0) hb); replace HB := bst HB hb; (try clear hb); (try clear hk); (try clear ho0); obtain ⟨Ao23, co23, eo23⟩ := Kd.R_slice HO668.out; subst eo23) | ((with_reducible refine gate_builtin (b := .append) (xs := #[.tmp 25, .tmp 27]) rfl ?_); at_builtin; refine Kd.R_append_rows (Kd.int .u8) (w0 := w) w.heap.size rfl (.tmp 25) (.tmp 27) 24 5 (.int .u8 0) 1 rfl Try.underlying24 info5 rfl (by decide) (by omega) v664 y663 t666 _ _ _ (fun k_ => some k_ ≠ (.slice Ao17 t654.length co17 : Value).ownBlock ∧ some k_ ≠ (.slice Ao20 t660.length co20 : Value).ownBlock ∧ some k_ ≠ (.slice Ao23 t666.length co23 : Value).ownBlock) (fun _ => False) rfl rfl ?aO ?aR (fun _ _ h => h) (fun _ h => h.elim) ?aF ?aB ?aS ?aL ?_; (case aR => repeat (first | exact (Kd.R_reads' HO668.out).2.2 | (with_reducible refine Kd.C_alloc ?_ _) | (with_reducible refine Kd.C_drewN ?_ _) | (with_reducible refine Kd.C_drew ?_))); (case aB => exact (below_later HB.out)); (case aF => exact (fun k_ hk => ⟨Kd.fresh' (Kd.R_lt (R_later HO656.out)) k_ hk, Kd.fresh' (Kd.R_lt (R_later HO662.out)) k_ hk, Kd.fresh' (Kd.R_lt (R_later HO668.out)) k_ hk⟩)); (case aO => exact (by (with_reducible repeat (first | apply Kd.R_alloc | apply Kd.R_drewN | apply Kd.R_drew)); exact Kd.R_mono HO665.out (fun _ hk => ⟨hk.1.1, ⟨hk.1.2, hk.2⟩⟩))); (case aS => exact (below_size (below_later HB.out))); (case aL => have := LMc12.out; omega); intro v670 w22 ho hb hg hat; rw [← Ny669.out] at ho; have n0_ := Aside0.mk (Kd.R_after (ok := (fun k_ => some k_ ≠ (.slice Ao20 t660.length co20 : Value).ownBlock ∧ some k_ ≠ (.slice Ao23 t666.length co23 : Value).ownBlock)) (by (with_reducible repeat (first | apply Kd.R_alloc | apply Kd.R_drewN | apply Kd.R_drew)); exact Kd.R_mono HO656.out (fun _ hk => ⟨⟨hk.1.1, hk.2⟩, hk.1.2⟩)) hg hat); have n1_ := Aside0.mk (Kd.R_after (ok := (fun k_ => some k_ ≠ (.slice Ao17 t654.length co17 : Value).ownBlock ∧ some k_ ≠ (.slice Ao23 t666.length co23 : Value).ownBlock)) (by (with_reducible repeat (first | apply Kd.R_alloc | apply Kd.R_drewN | apply Kd.R_drew)); exact Kd.R_mono HO662.out (fun _ hk => ⟨⟨hk.1.1, hk.2⟩, hk.1.2⟩)) hg hat); have n2_ := Aside0.mk (Kd.R_after (ok := (fun k_ => some k_ ≠ (.slice Ao17 t654.length co17 : Value).ownBlock ∧ some k_ ≠ (.slice Ao20 t660.length co20 : Value).ownBlock)) (by (with_reducible repeat (first | apply Kd.R_alloc | apply Kd.R_drewN | apply Kd.R_drew)); exact Kd.R_mono HO668.out (fun _ hk => ⟨⟨hk.1.1.2, hk.1.2⟩, hk.2⟩)) hg hat); have n3_ := Aside0.mk (hb); have n4_ := Aside0.mk (ho); clear HO656; clear HO662; clear HO668; clear HB; clear HO665; have HO656 := n0_; have HO662 := n1_; have HO668 := n2_; have HB := n3_; have HO671 := n4_; clear n0_ n1_ n2_ n3_ n4_; clear ho hb hg hat) | ((with_reducible refine gate_callee (f := 64) rfl ?_); refine gl_ (some 30) Try.func64 #[.slice A0 l0.length c0] rfl ?_; (with_reducible refine (impl_Differences.calls kj2 _ _ l0 t672 _ ?side1 ?side2 A13.out).mono ?_); (case side1 => repeat (first | exact (Kd.C_below HR0.out HB.out) | (with_reducible refine Kd.C_alloc ?_ _) | (with_reducible refine Kd.C_drewN ?_ _) | (with_reducible refine Kd.C_drew ?_))); (case side2 => exact HC0.out); rintro e w24 ⟨v673, rfl, ho0, hb⟩; refine ⟨_, rfl, ?_⟩; have HO674 := Aside0.mk (Kd.R_lower ho0 (below_size (below_later HB.out))); replace HO656 := Aside0.mk (Kd.R_below (R_later HO656.out) hb); replace HO662 := Aside0.mk (Kd.R_below (R_later HO662.out) hb); replace HO668 := Aside0.mk (Kd.R_below (R_later HO668.out) hb); replace HO671 := Aside0.mk (Kd.R_below (R_later HO671.out) hb); replace HB := bst HB hb; (try clear hb); (try clear hk); (try clear ho0)))
        go_loopg [5, 6] kj2 (fun kq v5 v6 w' => ∃ (x5_2 : List Int) (x6_2 : List Int), Aside0 (impl_DeltaPack.l0 kq x5_2 x6_2 = some (r1, r2)) ∧ Aside0 (kq ≤ kj2) ∧ Aside0 (Kd.R (Kd.int .u8) 5 w' w.heap.size (fun _ => True) v5 x5_2) ∧ Aside0 (Kd.Q (Kd.int .i64) 3 w' w.heap.size (fun _ => True) v6 x6_2) ∧ Aside0 (Below w.heap.size w w'))
        case atStart => exact ⟨(y669), (t672), H', ⟨Nat.le_refl _⟩, ⟨R_later (Kd.R_mono HO671.out (fun _ hk => trivial))⟩, ⟨Kd.Q_of_R (R_later HO674.out)⟩, ⟨below_later HB.out⟩⟩
        case round =>
          clear H'
          try clear c2
          try clear c2b0
          try clear c2b1
          try clear c8
          try clear c10
          try clear c12
          obtain ⟨x5_2, x6_2, HA, HK2, HO_5, HO_6, HB⟩ := hrel
          cases gk with
          | zero => exact absurd HA.out (by simp [impl_DeltaPack.l0])
          | succ k2 =>
            have H := HA.out
            clear HA
            simp only [impl_DeltaPack.l0] at H
            by_cases c25 : (x6_2.length : Int) > 0
            · rw [if_pos c25] at H
              have c25b0 : decide (0 < (x6_2.length : Int)) = true := decide_eq_true c25
              have c25b1 : decide (0 < x6_2.length) = true := decide_eq_true (by omega)
              clear c25
              obtain ⟨ji26, hji26⟩ : ∃ j_ : Int, (mn 128 (x6_2.length : Int)) = j_ := ⟨_, rfl⟩
              replace H : (if 0 ≤ (ji26) then (if (ji26) ≤ (x6_2.length : Int) then ((impl_blockOf.f k2 (x6_2.take ((ji26) : Int).toNat)).bind fun t679 => (if x5_2.length + t679.length < 140737488355328 then (impl_DeltaPack.l0 k2 (x5_2 ++ t679) (x6_2.drop ((ji26) : Int).toNat)) else (none))) else (none)) else (none)) = some (r1, r2) := by first | (rw [hji26] at H; exact H) | (simp only [hji26] at H ⊢; exact H)
              have hji26_ : (if (x6_2.length : Int) < 128 then (x6_2.length : Int) else 128) = ji26 := hji26
              replace H := ifs H
              obtain ⟨c27, H⟩ := H
              have c27b0 := eq_true c27
              have c27b1 := decide_eq_true c27
              clear c27
              replace H := ifs H
              obtain ⟨c28, H⟩ := H
              have c28b0 := eq_true c28
              have c28b1 := decide_eq_true c28
              clear c28
              obtain ⟨y675, hy675⟩ : ∃ y_ : List Int, y_ = (x6_2.take ((ji26) : Int).toNat) := ⟨_, rfl⟩
              replace H : ((impl_blockOf.f k2 y675).bind fun t679 => (if x5_2.length + t679.length < 140737488355328 then (impl_DeltaPack.l0 k2 (x5_2 ++ t679) (x6_2.drop ((ji26) : Int).toNat)) else (none))) = some (r1, r2) := by first | (rw [hy675]; with_reducible exact H) | (rw [hy675]; exact H) | exact H
              have Ny675 := Aside0.mk hy675
              clear hy675
              replace H := bnd H
              obtain ⟨t679, A29, H⟩ := H
              replace H := ifs H
              obtain ⟨c30, H⟩ := H
              have LMc30 := Aside0.mk c30
              clear c30
              obtain ⟨y682, hy682⟩ : ∃ y_ : List Int, y_ = (x5_2 ++ t679) := ⟨_, rfl⟩
              replace H : (impl_DeltaPack.l0 k2 y682 (x6_2.drop ((ji26) : Int).toNat)) = some (r1, r2) := by first | (rw [hy682]; with_reducible exact H) | (rw [hy682]; exact H) | exact H
              have Ny682 := Aside0.mk hy682
              clear hy682
              have c31b0 := eq_true (dcd : (ji26) ≤ (x6_2.length : Int))
              obtain ⟨y685, hy685⟩ : ∃ y_ : List Int, y_ = (x6_2.drop ((ji26) : Int).toNat) := ⟨_, rfl⟩
              replace H : (impl_DeltaPack.l0 k2 y682 y685) = some (r1, r2) := by first | (rw [hy685]; with_reducible exact H) | (rw [hy685]; exact H) | exact H
              have Ny685 := Aside0.mk hy685
              clear hy685
              have H' := Aside0.mk H
              clear H
              obtain ⟨Ao32, co32, eo32, _⟩ := Kd.Q_slice HO_6.out
              subst eo32
              have q33 : ((ji26) : Int) ≤ ((x6_2.length : Int) : Int) := dcd
              obtain ⟨i033, hi033, _, hsz33, _⟩ := info_parts info3
              have hroom33 : x6_2.length ≤ co32 := (Kd.Q_reads' HO_6.out).2.1
              have hC33 : Kd.C (Kd.int .i64) _ Ao32 x6_2.length x6_2 := (Kd.Q_reads' HO_6.out).2.2
              have hcut33 := cut_to (P := Try.prog) 41 3 .i64 Try.underlying41 hi033 Ao32 x6_2.length co32 (ji26) (dcd) q33 hroom33
              have hr33 := Kd.C_take (m := ((ji26) : Int).toNat) hC33 (by omega)
              have hy33 : y675.length = ((ji26) : Int).toNat := (by rw [Ny675.out, List.length_take]; omega)
              rw [← Ny675.out] at hr33
              rw [← hy33] at hcut33
              have HR678 := Aside0.mk hr33
              have HC678 := Aside0.mk (show y675.length ≤ co32 from by omega)
              clear hr33 hC33 hroom33 hi033 hsz33
              have KY33 := Aside0.mk hy33
              clear hy33
              have KL33 := Aside0.mk (show ((ji26) : Int).toNat ≤ x6_2.length from by omega)
              replace q33 := eq_true q33
              go_wp2_with (first | ((with_reducible refine gate_callee (f := 65) rfl ?_); refine gl_ (some 41) Try.func65 #[.slice Ao32 y675.length co32] rfl ?_; (with_reducible refine (impl_blockOf.calls k2 _ _ y675 t679 _ ?side1 ?side2 A29.out).mono ?_); (case side1 => repeat (first | exact (by repeat (first | (with_reducible exact HR678.out) | (with_reducible refine Kd.C_alloc ?_ _) | (with_reducible refine Kd.C_drewN ?_ _) | (with_reducible refine Kd.C_drew ?_) | exact HR678.out)) | (with_reducible refine Kd.C_alloc ?_ _) | (with_reducible refine Kd.C_drewN ?_ _) | (with_reducible refine Kd.C_drew ?_))); (case side2 => exact HC678.out); rintro e w34 ⟨v680, rfl, ho0, hb⟩; refine ⟨_, rfl, ?_⟩; have HO681 := Aside0.mk (Kd.R_lower (Kd.R_new' ho0 (Kd.R_lt (R_later HO_5.out))) (below_size (below_later HB.out))); replace HO_5 := Aside0.mk (Kd.R_elder' (R_later HO_5.out) (Kd.R_base ho0) hb); replace HO_6 := Aside0.mk (Kd.Q_below (by (with_reducible repeat (first | apply Kd.Q_alloc | apply Kd.Q_drewN | apply Kd.Q_drew)); exact HO_6.out) hb); replace HR678 := Aside0.mk (Kd.C_below (by repeat (first | (with_reducible exact HR678.out) | (with_reducible refine Kd.C_alloc ?_ _) | (with_reducible refine Kd.C_drewN ?_ _) | (with_reducible refine Kd.C_drew ?_) | exact HR678.out)) hb); replace HB := bst HB hb; (try clear hb); (try clear hk); (try clear ho0); obtain ⟨Ao36, co36, eo36⟩ := Kd.R_slice HO681.out; subst eo36) | ((with_reducible refine gate_builtin (b := .append) (xs := #[.tmp 37, .tmp 41]) rfl ?_); at_builtin; refine Kd.R_append_rows (Kd.int .u8) (w0 := w) w.heap.size rfl (.tmp 37) (.tmp 41) 24 5 (.int .u8 0) 1 rfl Try.underlying24 info5 rfl (by decide) (by omega) u5 x5_2 t679 _ _ _ (fun k_ => some k_ ≠ (.slice Ao36 t679.length co36 : Value).ownBlock) (fun _ => False) rfl rfl ?aO ?aR (fun _ _ h => h) (fun _ h => h.elim) ?aF ?aB ?aS ?aL ?_; (case aR => repeat (first | exact (Kd.R_reads' HO681.out).2.2 | (with_reducible refine Kd.C_alloc ?_ _) | (with_reducible refine Kd.C_drewN ?_ _) | (with_reducible refine Kd.C_drew ?_))); (case aB => exact (below_later HB.out)); (case aF => exact (fun k_ hk => Kd.fresh' (Kd.R_lt (R_later HO681.out)) k_ hk)); (case aO => exact (by (with_reducible repeat (first | apply Kd.R_alloc | apply Kd.R_drewN | apply Kd.R_drew)); exact Kd.R_mono HO_5.out (fun _ hk => hk.2))); (case aS => exact (below_size (below_later HB.out))); (case aL => have := LMc30.out; omega); intro v683 w35 ho hb hg hat; rw [← Ny682.out] at ho; have n0_ := Aside0.mk (Kd.Q_over' (by (with_reducible repeat (first | apply Kd.Q_alloc | apply Kd.Q_drewN | apply Kd.Q_drew)); exact HO_6.out) (Kd.R_typed (R_later HO_5.out)) (by decide) hg); have n1_ := Aside0.mk (Kd.R_after (ok := (fun _ => True)) (R_later HO681.out) hg hat); have n2_ := Aside0.mk (hb); have n3_ := Aside0.mk ((show Kd.C (Kd.int .i64) w35 Ao32 y675.length y675 from by rw [Ny675.out]; exact Kd.C_take (m := ((ji26) : Int).toNat) ((Kd.Q_reads' (Kd.Q_over' (by (with_reducible repeat (first | apply Kd.Q_alloc | apply Kd.Q_drewN | apply Kd.Q_drew)); exact HO_6.out) (Kd.R_typed (R_later HO_5.out)) (by decide) hg)).2.2) KL33.out)); have n4_ := Aside0.mk (ho); clear HO_6; clear HO681; clear HB; clear HR678; clear HO_5; have HO_6 := n0_; have HO681 := n1_; have HB := n2_; have HR678 := n3_; have HO684 := n4_; clear n0_ n1_ n2_ n3_ n4_; clear ho hb hg hat; have q37 : ((ji26) : Int) ≤ ((x6_2.length : Int) : Int) := dcd; obtain ⟨i037, hi037, _, hsz37, _⟩ := info_parts info3; have hcut37 := cut_from (P := Try.prog) 41 3 .i64 Try.underlying41 hi037 1 hsz37 Ao32 x6_2.length co32 (ji26) (dcd) q37; have hr37 := Kd.Q_drop (k := ((ji26) : Int).toNat) HO_6.out (by omega); obtain ⟨A37, hA37⟩ : ∃ A1, A1 = (if co32 = ((ji26) : Int).toNat then Ao32 else (Ao32 : Option Addr).map (·.add (((ji26) : Int).toNat * 1))) := ⟨_, rfl⟩; obtain ⟨c37, hc37⟩ : ∃ c1, c1 = co32 - ((ji26) : Int).toNat := ⟨_, rfl⟩; have hy37 : y685.length = x6_2.length - ((ji26) : Int).toNat := (by rw [Ny685.out, List.length_drop]); rw [← Ny685.out] at hr37; rw [← hy37, ← hA37, ← hc37] at hcut37; replace hr37 : Kd.Q (Kd.int .i64) 3 w35 w.heap.size (fun _ => True) (.slice A37 y685.length c37) y685 := (by rw [hA37, hc37, hy37]; exact hr37); have HE37 : Aside0 ((Value.slice A37 y685.length c37).ownBlock = (.slice Ao32 x6_2.length co32 : Value).ownBlock) := ⟨by rw [hA37]; split <;> (cases (Ao32 : Option Addr) <;> first | rfl | (simp only [Option.map_some, Value.ownBlock, Addr.add]; split <;> rfl))⟩; clear hy37 hi037 hsz37 HO_6 hA37 hc37; have HO687 := Aside0.mk hr37; clear hr37; replace q37 := eq_true q37))
              go_roundg k2
              case measure => have := HJ2.out; have := HK2.out; omega
              case rel => exact ⟨(y682), (y685), H', ⟨by have := HJ2.out; have := HK2.out; omega⟩, ⟨R_later (Kd.R_mono HO684.out (fun _ hk => trivial))⟩, ⟨by (with_reducible repeat (first | apply Kd.Q_alloc | apply Kd.Q_drewN | apply Kd.Q_drew)); exact HO687.out⟩, ⟨below_later HB.out⟩⟩
            · rw [if_neg c25] at H
              have c25b0 : decide (0 < (x6_2.length : Int)) = false := decide_eq_false c25
              have c25b1 : decide (0 < x6_2.length) = false := decide_eq_false (by omega)
              clear c25
              simp only [Option.some.injEq, Prod.mk.injEq] at H
              obtain ⟨rfl, rfl⟩ := H
              obtain ⟨Ao38, co38, eo38, _⟩ := Kd.Q_slice HO_6.out
              subst eo38
              go_wp2
              go_ret2
              exact ⟨_, by first | rfl | (simp [errW_none, errW_some] <;> rfl) | (simp [*, errW_none, errW_some] <;> rfl), by (with_reducible repeat (first | apply Kd.R_alloc | apply Kd.R_drewN | apply Kd.R_drew)); exact HO_5.out, below_later HB.out⟩
/-! ### impl_LengthPack: function 31 -/
def impl_LengthPack.l0 : Nat → List Int → List Int → List (S46) → Int → Int → Option (List Int × Bool)
  | 0, _, _, _, _, _ => none
  | k + 1, x4, x5, x15, x16, x17 => if x17 < x16 then (if 0 ≤ x17 then (if x17 < (x15.length : Int) then (if x4.length < 17592186044416 then (if x5.length + ((rd_T46 x15 x17).f1).size < 140737488355328 then (impl_LengthPack.l0 k (x4 ++ [(((rd_T46 x15 x17).f1).size : Int)]) (x5 ++ bytesOf ((rd_T46 x15 x17).f1)) x15 x16 (wrap64 (x17 + 1))) else (none)) else (none)) else (none)) else (none)) else ((impl_DeltaPack.f k x4).bind fun bt703 => (if bt703.2 = true then (if bt703.1.length + x5.length < 140737488355328 then (some ((bt703.1 ++ x5), true)) else (none)) else (some (([] : List Int), false))))
def impl_LengthPack.f (k : Nat) (l0 : List (S46)) : Option (List Int × Bool) := (impl_valsOk.f k 6 l0).bind fun t688 => (if t688 = true then (impl_LengthPack.l0 k (([] : List Int)) (([] : List Int)) l0 (l0.length : Int) 0) else (some (([] : List Int), false)))
set_option maxHeartbeats 8000000 in
set_option maxRecDepth 100000 in
theorem impl_LengthPack.calls (k : Nat) (A0 : Option Addr) (c0 : Nat) (l0 : List (S46)) (r1 : List Int) (r2 : Bool) (w : World) (hr0 : Kd.C k46 w A0 l0.length l0) (hc0 : l0.length ≤ c0) (h : impl_LengthPack.f k l0 = some (r1, r2)) :
    Calls Try.prog 31 #[.slice A0 l0.length c0] w fun e w' => ∃ v0_ : Value, e = .returned (.tuple #[v0_, .bool r2]) ∧ Kd.R (Kd.int .u8) 5 w' w.heap.size (fun _ => True) v0_ r1 ∧ Below w.heap.size w w' := by
  have hu46 := Try.underlying46
  have HR0 := Aside0.mk hr0
  have HC0 := Aside0.mk hc0
  clear hr0 hc0
  have HB := Aside0.mk (Below.refl w.heap.size w)
  have H : ((impl_valsOk.f k 6 l0).bind fun t688 => (if t688 = true then (impl_LengthPack.l0 k (([] : List Int)) (([] : List Int)) l0 (l0.length : Int) 0) else (some (([] : List Int), false)))) = some (r1, r2) := h
  clear h
  replace H := bnd H
  obtain ⟨t688, A2, H⟩ := H
  by_cases c3 : t688 = true
  · subst c3
    replace H := ifp rfl H
    obtain ⟨y689, hy689⟩ : ∃ y_ : List Int, y_ = (([] : List Int)) := ⟨_, rfl⟩
    replace H : (impl_LengthPack.l0 k y689 (([] : List Int)) l0 (l0.length : Int) 0) = some (r1, r2) := by first | (rw [hy689]; with_reducible exact H) | (rw [hy689]; exact H) | exact H
    have Ny689 := Aside0.mk hy689
    clear hy689
    obtain ⟨y692, hy692⟩ : ∃ y_ : List Int, y_ = (([] : List Int)) := ⟨_, rfl⟩
    replace H : (impl_LengthPack.l0 k y689 y692 l0 (l0.length : Int) 0) = some (r1, r2) := by first | (rw [hy692]; with_reducible exact H) | (rw [hy692]; exact H) | exact H
    have Ny692 := Aside0.mk hy692
    clear hy692
    have H' := Aside0.mk H
    clear H
    go_enter Try.func31, Try.ntmps31
    go_wp2_with (first | ((with_reducible refine gate_callee (f := 27) rfl ?_); refine gl_ (some 11) Try.func27 #[.int .i64 6, .slice A0 l0.length c0] rfl ?_; (with_reducible refine (impl_valsOk.calls k 6 _ _ l0 true _ ?side1 ?side2 A2.out).mono ?_); (case side1 => exact C_later HR0.out); (case side2 => exact HC0.out); rintro e w4 ⟨rfl, hb⟩; refine ⟨_, rfl, ?_⟩; replace HB := bst HB hb; (try clear hb); (try clear hk)) | ((with_reducible refine gate_dst (N := 13) rfl ?_); refine Kd.R_lit (Kd.int .i64) _ 3 ?hg (N := 13) ?hd (xs := ([] : List Int)) (inner := []) (ok := fun _ => True) (okp := fun _ => True) ?hr ?hp (fun _ hk => hk) trivial (Below.refl _ _) (Nat.le_refl _) (by simp) ?_; (case hd => rfl); (case hg => rfl); (case hr => first | (go_simp; done) | (go_simp; rfl)); (case hp => exact (Reps.none _ _)); intro v690 w5 ho6 hb hg_ hnew_; clear hg_ hnew_; (first | rw [← Ny689.out] at ho6 | (simp only [Int.reduceToNat] at ho6; rw [← Ny689.out] at ho6)); have HO691 := Aside0.mk (Kd.R_lower ho6 (below_size (below_later HB.out))); replace HB := bst HB hb; clear hb ho6) | ((with_reducible refine gate_dst (N := 14) rfl ?_); refine Kd.R_lit (Kd.int .u8) _ 5 ?hg (N := 14) ?hd (xs := ([] : List Int)) (inner := []) (ok := fun _ => True) (okp := fun _ => True) ?hr ?hp (fun _ hk => hk) trivial (Below.refl _ _) (Nat.le_refl _) (by simp) ?_; (case hd => rfl); (case hg => rfl); (case hr => first | (go_simp; done) | (go_simp; rfl)); (case hp => exact (Reps.none _ _)); intro v693 w7 ho8 hb hg_ hnew_; clear hg_ hnew_; (first | rw [← Ny692.out] at ho8 | (simp only [Int.reduceToNat] at ho8; rw [← Ny692.out] at ho8)); have HO694 := Aside0.mk (Kd.R_lower ho8 (below_size (below_later HB.out))); replace HO691 := Aside0.mk (Kd.R_below (R_later HO691.out) hb); replace HB := bst HB hb; clear hb ho8))
    go_loopg [4, 5, 17] k (fun kq v4 v5 v17 w' => ∃ (x4_1 : List Int) (x5_1 : List Int) (x17_1 : Int), v17 = .int .i64 x17_1 ∧ Aside0 (impl_LengthPack.l0 kq x4_1 x5_1 l0 (l0.length : Int) x17_1 = some (r1, r2)) ∧ Aside0 (kq ≤ k) ∧ Aside0 (Kd.R (Kd.int .i64) 3 w' w.heap.size (fun _ => True) v4 x4_1) ∧ Aside0 (Kd.R (Kd.int .u8) 5 w' w.heap.size (fun _ => True) v5 x5_1) ∧ Aside0 (Below w.heap.size w w'))
    case atStart => exact ⟨(y689), (y692), (0), sr, H', ⟨Nat.le_refl _⟩, ⟨R_later HO691.out⟩, ⟨R_later HO694.out⟩, ⟨below_later HB.out⟩⟩
    case round =>
      clear H'
      try clear c3
      obtain ⟨x4_1, x5_1, x17_1, rfl, HA, HK1, HO_4, HO_5, HB⟩ := hrel
      cases gk with
      | zero => exact absurd HA.out (by simp [impl_LengthPack.l0])
      | succ k1 =>
        have H := HA.out
        clear HA
        simp only [impl_LengthPack.l0] at H
        by_cases c9 : x17_1 < (l0.length : Int)
        · rw [if_pos c9] at H
          have c9b0 := decide_eq_true c9
          clear c9
          replace H := ifd H
          obtain ⟨c10b0, H⟩ := H
          replace H := ifd H
          obtain ⟨c11b0, H⟩ := H
          replace H := ifs H
          obtain ⟨c12, H⟩ := H
          have LMc12 := Aside0.mk c12
          clear c12
          obtain ⟨y697, hy697⟩ : ∃ y_ : List Int, y_ = (x4_1 ++ [(((rd_T46 l0 x17_1).f1).size : Int)]) := ⟨_, rfl⟩
          replace H : (if x5_1.length + ((rd_T46 l0 x17_1).f1).size < 140737488355328 then (impl_LengthPack.l0 k1 y697 (x5_1 ++ bytesOf ((rd_T46 l0 x17_1).f1)) l0 (l0.length : Int) (wrap64 (x17_1 + 1))) else (none)) = some (r1, r2) := by first | (rw [hy697]; with_reducible exact H) | (rw [hy697]; exact H) | exact H
          have Ny697 := Aside0.mk hy697
          clear hy697
          replace H := ifs H
          obtain ⟨c13, H⟩ := H
          have LMc13 := Aside0.mk c13
          clear c13
          obtain ⟨y700, hy700⟩ : ∃ y_ : List Int, y_ = (x5_1 ++ bytesOf ((rd_T46 l0 x17_1).f1)) := ⟨_, rfl⟩
          replace H : (impl_LengthPack.l0 k1 y697 y700 l0 (l0.length : Int) (wrap64 (x17_1 + 1))) = some (r1, r2) := by first | (rw [hy700]; with_reducible exact H) | (rw [hy700]; exact H) | exact H
          have Ny700 := Aside0.mk hy700
          clear hy700
          have H' := Aside0.mk H
          clear H
          have p695 : 0 ≤ (x17_1 : Int) := dcd
          have q695 : x17_1 < (l0.length : Int) := dcd
          obtain ⟨ad695, e695, hx695_0, hx695_1⟩ := at_T46 HR0.out x17_1 p695 q695
          cases e695
          replace hx695_0 := crd HB hx695_0
          replace hx695_1 := crd HB hx695_1
          replace p695 := eq_true p695
          replace q695 := eq_true q695
          go_wp2_with (first | ((with_reducible refine gate_dst (N := 7) rfl ?_); refine bx_ 7 #[.int .i64 0, .string (⟨#[]⟩ : ByteArray)] 46 ?_; intro gb696 hg w14 hbox hb; have BK696 := Aside0.mk (hbox); have GW696 := gwe HB hg; have GE696 := GW696; replace HO_4 := Aside0.mk (Kd.R_below (R_later HO_4.out) hb); replace HO_5 := Aside0.mk (Kd.R_below (R_later HO_5.out) hb); replace HB := bst HB hb; clear hb hbox hg; obtain ⟨hcz15_0, hcz15_1, hfz15_0, hfz15_1⟩ := cl2 BK696) | ((with_reducible refine gate_builtin (b := .append) (xs := #[.tmp 21, .tmp 25]) rfl ?_); at_builtin; refine Kd.R_append (Kd.int .i64) (w0 := w) w.heap.size rfl (.tmp 21) (.tmp 25) 41 3 (.int .i64 0) 8 rfl Try.underlying41 info3 rfl (by decide) (by omega) u4 x4_1 (((rd_T46 l0 x17_1).f1).size : Int) [.int .i64 (((rd_T46 l0 x17_1).f1).size : Int)] (fun _ => True) (fun _ => False) rfl (by first | (go_simp; done) | (go_simp; rfl)) ?aP (fun _ hk => hk.elim) ?aF ?aO ?aB ?aS ?aL ?_; (case aP => exact rfl); (case aB => exact (below_later HB.out)); (case aF => exact (fun _ _ => trivial)); (case aO => exact (by (with_reducible repeat (first | apply Kd.R_alloc | apply Kd.R_drewN | apply Kd.R_drew)); exact Kd.R_mono (Kd.R_far (p := ⟨gb696, 1, none⟩) (Kd.R_far (p := ⟨gb696, 0, none⟩) (Kd.R_types HO_4.out BK696.out (by decide)) (fun _ hk => hk.2) (.int .i64 ((rd_T46 l0 x17_1).f0))) (fun _ hk => hk.2) (.string ((rd_T46 l0 x17_1).f1))) (fun _ hk => trivial))); (case aS => exact (below_size (below_later HB.out))); (case aL => have := LMc12.out; omega); intro v698 w16 ho hb hg hat; rw [← Ny697.out] at ho; have n0_ := Aside0.mk (Kd.R_over' (by (with_reducible repeat (first | apply Kd.R_alloc | apply Kd.R_drewN | apply Kd.R_drew)); exact (Kd.R_mono (Kd.R_far (p := ⟨gb696, 1, none⟩) (Kd.R_far (p := ⟨gb696, 0, none⟩) (Kd.R_types HO_5.out BK696.out (by decide)) (fun _ hk => hk.2) (.int .i64 ((rd_T46 l0 x17_1).f0))) (fun _ hk => hk.2) (.string ((rd_T46 l0 x17_1).f1))) (fun _ h_ => h_.1))) (Kd.R_typed (by (with_reducible repeat (first | apply Kd.R_alloc | apply Kd.R_drewN | apply Kd.R_drew)); exact (Kd.R_mono (Kd.R_far (p := ⟨gb696, 1, none⟩) (Kd.R_far (p := ⟨gb696, 0, none⟩) (Kd.R_types HO_4.out BK696.out (by decide)) (fun _ hk => hk.2) (.int .i64 ((rd_T46 l0 x17_1).f0))) (fun _ hk => hk.2) (.string ((rd_T46 l0 x17_1).f1))) (fun _ h_ => h_.1)))) (by decide) hg); have n1_ := Aside0.mk (blk_grown (g := gb696) (o := .cells #[.int .i64 ((rd_T46 l0 x17_1).f0), .string ((rd_T46 l0 x17_1).f1)] 46 (0, 0)) (blk_later BK696.out) hg (Kd.R_ne HO_4.out BK696.out (by decide))); have n2_ := Aside0.mk (hb); have n3_ := Aside0.mk (ho); clear HO_5; clear BK696; clear HB; clear HO_4; have HO_5 := n0_; have BK696 := n1_; have HB := n2_; have HO699 := n3_; clear n0_ n1_ n2_ n3_; clear ho hb hg hat; obtain ⟨hcz17_0, hcz17_1, hfz17_0, hfz17_1⟩ := cl2 BK696) | (at_builtin; refine Go.Proofs.YtkocikdceojnmaaW.PrintMore2.R_append_str (w0 := w) w.heap.size rfl (.tmp 27) _ 24 9 5 rfl Try.underlying24 Try.underlying9 info5 u5 x5_1 ((rd_T46 l0 x17_1).f1) (fun _ => True) rfl rfl ?aO ?aF ?aB ?aS ?aL ?_; (case aB => exact (below_later HB.out)); (case aF => exact (fun _ _ => trivial)); (case aO => exact (R_later HO_5.out)); (case aS => exact (below_size (below_later HB.out))); (case aL => have := LMc13.out; omega); intro v701 w18 ho hb hg hat; rw [← Ny700.out] at ho; have n0_ := Aside0.mk (blk_grown (blk_later BK696.out) hg (Kd.R_ne HO_5.out BK696.out (by decide))); have n1_ := Aside0.mk (Kd.R_over' (R_later HO699.out) (Kd.R_typed (R_later HO_5.out)) (by decide) hg); have n2_ := Aside0.mk (hb); have n3_ := Aside0.mk (ho); clear BK696; clear HO699; clear HB; clear HO_5; have BK696 := n0_; have HO699 := n1_; have HB := n2_; have HO702 := n3_; clear n0_ n1_ n2_ n3_; clear ho hb hg hat))
          go_roundg k1
          case measure => have := HK1.out; omega
          case rel => exact ⟨(y697), (y700), (wrap64 (x17_1 + 1)), sr, H', ⟨by have := HK1.out; omega⟩, ⟨R_later HO699.out⟩, ⟨R_later HO702.out⟩, ⟨below_later HB.out⟩⟩
        · rw [if_neg c9] at H
          have c9b0 := decide_eq_false c9
          clear c9
          replace H := Option.bind_eq_some_iff.mp H
          obtain ⟨⟨t703, t704⟩, A190, H⟩ := H
          replace H : (if t704 = true then (if t703.length + x5_1.length < 140737488355328 then (some ((t703 ++ x5_1), true)) else (none)) else (some (([] : List Int), false))) = some (r1, r2) := H
          have A19 := Aside0.mk A190
          clear A190
          by_cases c20 : t704 = true
          · subst c20
            replace H := ifp rfl H
            replace H := ifs H
            obtain ⟨c21, H⟩ := H
            have LMc21 := Aside0.mk c21
            clear c21
            obtain ⟨y707, hy707⟩ : ∃ y_ : List Int, y_ = (t703 ++ x5_1) := ⟨_, rfl⟩
            replace H : (some (y707, true)) = some (r1, r2) := by first | (rw [hy707]; with_reducible exact H) | (rw [hy707]; exact H) | exact H
            have Ny707 := Aside0.mk hy707
            clear hy707
            simp only [Option.some.injEq, Prod.mk.injEq] at H
            obtain ⟨rfl, rfl⟩ := H
            obtain ⟨Ao22, co22, eo22⟩ := Kd.R_slice HO_4.out
            subst eo22
            go_wp2_with (first | ((with_reducible refine gate_callee (f := 29) rfl ?_); refine gl_ (some 34) Try.func29 #[.slice Ao22 x4_1.length co22] rfl ?_; (with_reducible refine (impl_DeltaPack.calls k1 _ _ x4_1 t703 true _ ?side1 ?side2 A19.out).mono ?_); (case side1 => repeat (first | exact (Kd.R_reads' HO_4.out).2.2 | (with_reducible refine Kd.C_alloc ?_ _) | (with_reducible refine Kd.C_drewN ?_ _) | (with_reducible refine Kd.C_drew ?_))); (case side2 => exact (Kd.R_reads' HO_4.out).2.1); rintro e w23 ⟨v705, rfl, ho0, hb⟩; refine ⟨_, rfl, ?_⟩; have HO706 := Aside0.mk (Kd.R_lower (Kd.R_new' ho0 (Kd.R_lt (R_later HO_5.out))) (below_size (below_later HB.out))); replace HO_4 := Aside0.mk (Kd.R_below (R_later HO_4.out) hb); replace HO_5 := Aside0.mk (Kd.R_elder' (R_later HO_5.out) (Kd.R_base ho0) hb); replace HB := bst HB hb; (try clear hb); (try clear hk); (try clear ho0); obtain ⟨Ao25, co25, eo25⟩ := Kd.R_slice HO_5.out; subst eo25) | ((with_reducible refine gate_builtin (b := .append) (xs := #[.tmp 39, .tmp 40]) rfl ?_); at_builtin; refine Kd.R_append_rows (Kd.int .u8) (w0 := w) w.heap.size rfl (.tmp 39) (.tmp 40) 24 5 (.int .u8 0) 1 rfl Try.underlying24 info5 rfl (by decide) (by omega) v705 t703 x5_1 _ _ _ (fun k_ => some k_ ≠ (.slice Ao25 x5_1.length co25 : Value).ownBlock) (fun _ => False) rfl rfl ?aO ?aR (fun _ _ h => h) (fun _ h => h.elim) ?aF ?aB ?aS ?aL ?_; (case aR => repeat (first | exact (Kd.R_reads' HO_5.out).2.2 | (with_reducible refine Kd.C_alloc ?_ _) | (with_reducible refine Kd.C_drewN ?_ _) | (with_reducible refine Kd.C_drew ?_))); (case aB => exact (below_later HB.out)); (case aF => exact (fun k_ hk => Kd.fresh' (Kd.R_lt (R_later HO_5.out)) k_ hk)); (case aO => exact (by (with_reducible repeat (first | apply Kd.R_alloc | apply Kd.R_drewN | apply Kd.R_drew)); exact Kd.R_mono HO706.out (fun _ hk => hk.2))); (case aS => exact (below_size (below_later HB.out))); (case aL => have := LMc21.out; omega); intro v708 w24 ho hb hg hat; rw [← Ny707.out] at ho; have n0_ := Aside0.mk (Kd.R_over' (R_later HO_4.out) (Kd.R_typed (R_later HO706.out)) (by decide) hg); have n1_ := Aside0.mk (Kd.R_after (ok := (fun _ => True)) (R_later HO_5.out) hg hat); have n2_ := Aside0.mk (hb); have n3_ := Aside0.mk (ho); clear HO_4; clear HO_5; clear HB; clear HO706; have HO_4 := n0_; have HO_5 := n1_; have HB := n2_; have HO709 := n3_; clear n0_ n1_ n2_ n3_; clear ho hb hg hat))
            go_ret2
            exact ⟨_, by first | rfl | (simp [errW_none, errW_some] <;> rfl) | (simp [*, errW_none, errW_some] <;> rfl), by (with_reducible repeat (first | apply Kd.R_alloc | apply Kd.R_drewN | apply Kd.R_drew)); exact Kd.R_mono HO709.out (fun _ hk => trivial), below_later HB.out⟩
          · replace c20 := Bool.eq_false_iff.mpr c20
            subst c20
            replace H := ifn Bool.false_ne_true H
            simp only [Option.some.injEq, Prod.mk.injEq] at H
            obtain ⟨rfl, rfl⟩ := H
            obtain ⟨Ao26, co26, eo26⟩ := Kd.R_slice HO_4.out
            subst eo26
            go_wp2_with (first | ((with_reducible refine gate_callee (f := 29) rfl ?_); refine gl_ (some 34) Try.func29 #[.slice Ao26 x4_1.length co26] rfl ?_; (with_reducible refine (impl_DeltaPack.calls k1 _ _ x4_1 t703 false _ ?side1 ?side2 A19.out).mono ?_); (case side1 => repeat (first | exact (Kd.R_reads' HO_4.out).2.2 | (with_reducible refine Kd.C_alloc ?_ _) | (with_reducible refine Kd.C_drewN ?_ _) | (with_reducible refine Kd.C_drew ?_))); (case side2 => exact (Kd.R_reads' HO_4.out).2.1); rintro e w27 ⟨v705, rfl, ho0, hb⟩; refine ⟨_, rfl, ?_⟩; have HO706 := Aside0.mk (Kd.R_lower (Kd.R_new' ho0 (Kd.R_lt (R_later HO_5.out))) (below_size (below_later HB.out))); replace HO_4 := Aside0.mk (Kd.R_below (R_later HO_4.out) hb); replace HO_5 := Aside0.mk (Kd.R_elder' (R_later HO_5.out) (Kd.R_base ho0) hb); replace HB := bst HB hb; (try clear hb); (try clear ho0)))
            go_ret2
            exact ⟨_, by first | rfl | (simp [errW_none, errW_some] <;> rfl) | (simp [*, errW_none, errW_some] <;> rfl), by first | exact Kd.R_nil _ _ _ _ _ | exact Kd.N_nil _ _ _ _ _ | exact Kd.V_nil _ _ _ _ _ | exact Kd.Q_nil _ _ _ _ _ | exact Kd.S_nil _ _ _ _ _, below_later HB.out⟩
  · replace c3 := Bool.eq_false_iff.mpr c3
    subst c3
    replace H := ifn Bool.false_ne_true H
    simp only [Option.some.injEq, Prod.mk.injEq] at H
    obtain ⟨rfl, rfl⟩ := H
    go_enter Try.func31, Try.ntmps31
    go_wp2_with (first | ((with_reducible refine gate_callee (f := 27) rfl ?_); refine gl_ (some 11) Try.func27 #[.int .i64 6, .slice A0 l0.length c0] rfl ?_; (with_reducible refine (impl_valsOk.calls k 6 _ _ l0 false _ ?side1 ?side2 A2.out).mono ?_); (case side1 => exact C_later HR0.out); (case side2 => exact HC0.out); rintro e w28 ⟨rfl, hb⟩; refine ⟨_, rfl, ?_⟩; replace HB := bst HB hb; (try clear hb)))
    go_ret2
    exact ⟨_, by first | rfl | (simp [errW_none, errW_some] <;> rfl) | (simp [*, errW_none, errW_some] <;> rfl), by first | exact Kd.R_nil _ _ _ _ _ | exact Kd.N_nil _ _ _ _ _ | exact Kd.V_nil _ _ _ _ _ | exact Kd.Q_nil _ _ _ _ _ | exact Kd.S_nil _ _ _ _ _, below_later HB.out⟩

/-! ### impl_Common: function 66 -/
def impl_Common.l0 : Nat → ByteArray → ByteArray → Int → Option (Int)
  | 0, _, _, _ => none
  | k + 1, x0, x1, x5 => if x5 < (x0.size : Int) then (if x5 < (x1.size : Int) then (if 0 ≤ x5 then (if (bt x0 x5) = (bt x1 x5) then (impl_Common.l0 k x0 x1 (wrap64 (x5 + 1))) else (some x5)) else (none)) else (some x5)) else (some x5)
def impl_Common.f (k : Nat) (a0 : ByteArray) (a1 : ByteArray) : Option (Int) := impl_Common.l0 k a0 a1 0
set_option maxHeartbeats 8000000 in
set_option maxRecDepth 100000 in
theorem impl_Common.calls (k : Nat) (a0 : ByteArray) (a1 : ByteArray) (r : Int) (w : World) (h : impl_Common.f k a0 a1 = some r) :
    Calls Try.prog 66 #[.string a0, .string a1] w fun e w' => e = .returned (.int .i64 r) ∧ Drawn0 w w' := by
  have H : (impl_Common.l0 k a0 a1 0) = some r := h
  clear h
  have H' := Aside0.mk H
  clear H
  go_enter Try.func66, Try.ntmps66
  go_wp2
  repeat (go_quiet (fail); try go_wp2)
  go_loopg [5] k (fun kq v5 w' => ∃ (x5_1 : Int), v5 = .int .i64 x5_1 ∧ Aside0 (impl_Common.l0 kq a0 a1 x5_1 = some r) ∧ Aside0 (kq ≤ k) ∧ Drawn0 w w')
  case atStart => exact ⟨(0), sr, H', ⟨Nat.le_refl _⟩, by repeat (first | exact Drawn0.refl _ | apply Drawn0.step)⟩
  case round =>
    clear H'
    obtain ⟨x5_1, rfl, HA, HK1, ⟨m1, rfl⟩⟩ := hrel
    cases gk with
    | zero => exact absurd HA.out (by simp [impl_Common.l0])
    | succ k1 =>
      have H := HA.out
      clear HA
      simp only [impl_Common.l0] at H
      by_cases c3 : x5_1 < (a0.size : Int)
      · rw [if_pos c3] at H
        have c3b0 := decide_eq_true c3
        clear c3
        by_cases c4 : x5_1 < (a1.size : Int)
        · rw [if_pos c4] at H
          have c4b0 := decide_eq_true c4
          clear c4
          replace H := ifd H
          obtain ⟨c5b0, H⟩ := H
          by_cases c8 : (bt a0 x5_1) = (bt a1 x5_1)
          · rw [if_pos c8] at H
            have c8b0 : ((bt a0 x5_1) == (bt a1 x5_1)) = true := beq_iff_eq.mpr c8
            have c8b1 : ((bt a0 x5_1) != (bt a1 x5_1)) = false := bne_eq_false_iff_eq.mpr c8
            clear c8
            have H' := Aside0.mk H
            clear H
            have p6 : 0 ≤ (x5_1 : Int) := dcd
            have q6 : x5_1 < (a0.size : Int) := dcd
            have hx6 := bt_at a0 x5_1
            replace p6 := eq_true p6
            replace q6 := eq_true q6
            have p7 : 0 ≤ (x5_1 : Int) := dcd
            have q7 : x5_1 < (a1.size : Int) := dcd
            have hx7 := bt_at a1 x5_1
            replace p7 := eq_true p7
            replace q7 := eq_true q7
            go_wp2
            repeat (go_quiet (fail); try go_wp2)
            go_roundg k1
            case measure => have := HK1.out; omega
            case rel => exact ⟨(wrap64 (x5_1 + 1)), sr, H', ⟨by have := HK1.out; omega⟩, by repeat (first | exact Drawn0.refl _ | apply Drawn0.step)⟩
          · rw [if_neg c8] at H
            have c8b0 : ((bt a0 x5_1) == (bt a1 x5_1)) = false := beq_eq_false_iff_ne.mpr c8
            have c8b1 : ((bt a0 x5_1) != (bt a1 x5_1)) = true := bne_iff_ne.mpr c8
            obtain rfl := Option.some.inj H
            have p6 : 0 ≤ (x5_1 : Int) := dcd
            have q6 : x5_1 < (a0.size : Int) := dcd
            have hx6 := bt_at a0 x5_1
            replace p6 := eq_true p6
            replace q6 := eq_true q6
            have p7 : 0 ≤ (x5_1 : Int) := dcd
            have q7 : x5_1 < (a1.size : Int) := dcd
            have hx7 := bt_at a1 x5_1
            replace p7 := eq_true p7
            replace q7 := eq_true q7
            go_wp2
            repeat (go_quiet (fail); try go_wp2)
            go_ret
            exact ⟨by first | rfl | (simp; done) | (simp [*]; done), by repeat (first | exact Drawn0.refl _ | apply Drawn0.step)⟩
        · rw [if_neg c4] at H
          have c4b0 := decide_eq_false c4
          clear c4
          obtain rfl := Option.some.inj H
          go_wp2
          repeat (go_quiet (fail); try go_wp2)
          go_ret
          exact ⟨by first | rfl | (simp; done) | (simp [*]; done), by repeat (first | exact Drawn0.refl _ | apply Drawn0.step)⟩
      · rw [if_neg c3] at H
        have c3b0 := decide_eq_false c3
        clear c3
        obtain rfl := Option.some.inj H
        go_wp2
        repeat (go_quiet (fail); try go_wp2)
        go_ret
        exact ⟨by first | rfl | (simp; done) | (simp [*]; done), by repeat (first | exact Drawn0.refl _ | apply Drawn0.step)⟩

end Go.Proofs.Ytkocikdceojnmaa.PFnExactEncPack
