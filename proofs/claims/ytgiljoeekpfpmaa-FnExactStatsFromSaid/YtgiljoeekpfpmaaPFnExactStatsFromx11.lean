/- The machine's side of FnExactStatsFrom, written by wip/tools/hyb.py of this repo: each Go function as a plain Lean function, and the proof that the call comes to just its answer. No condition. -/
import Derived.Test.YtgiljoeekpfpmaaPFnExactStatsFromx0
import Derived.Test.YtgiljoeekpfpmaaPFnExactStatsFromx8
import Derived.Test.YtgiljoeekpfpmaaPFnExactStatsFromx10
namespace Go.Proofs.Ytgiljoeekpfpmaa.PFnExactStatsFrom
open Go.RowKit Go.Proofs.YtgiljoeekpfpmaaW.PrintWords Go.Proofs.YtgiljoeekpfpmaaW.PrintLast Go.Proofs.YtgiljoeekpfpmaaW.PrintMore Go.Proofs.YtgiljoeekpfpmaaW.PrintMore2
attribute [local go_sem] max2_int min2_int max_two min_two max_three min_three max_four min_four   -- for this text's walks alone
set_option linter.unusedVariables false
set_option linter.unusedSimpArgs false

/-! ### impl_wideOf: function 65 -/
def impl_wideOf.f (a0 : Int) : Option (Int) := if a0 = 1 then (some 4) else (if a0 = 2 then (some 8) else (if a0 = 5 then (some 8) else (some 0)))
set_option maxHeartbeats 8000000 in
set_option maxRecDepth 100000 in
theorem impl_wideOf.calls (a0 : Int) (r : Int) (w : World) (h : impl_wideOf.f a0 = some r) :
    Calls Try.prog 65 #[.int .i64 a0] w fun e w' => e = .returned (.int .i64 r) ∧ Drawn0 w w' := by
  have H : (if a0 = 1 then (some 4) else (if a0 = 2 then (some 8) else (if a0 = 5 then (some 8) else (some 0)))) = some r := h
  clear h
  by_cases c2 : a0 = 1
  · rw [if_pos c2] at H
    have c2b0 : (a0 == 1) = true := beq_iff_eq.mpr c2
    have c2b1 : (a0 != 1) = false := bne_eq_false_iff_eq.mpr c2
    clear c2
    obtain rfl := Option.some.inj H
    go_enter Try.func65, Try.ntmps65
    go_wp2
    go_ret
    exact ⟨by first | rfl | (simp; done) | (simp [*]; done), by repeat (first | exact Drawn0.refl _ | apply Drawn0.step)⟩
  · rw [if_neg c2] at H
    have c2b0 : (a0 == 1) = false := beq_eq_false_iff_ne.mpr c2
    have c2b1 : (a0 != 1) = true := bne_iff_ne.mpr c2
    by_cases c3 : a0 = 2
    · rw [if_pos c3] at H
      have c3b0 : (a0 == 2) = true := beq_iff_eq.mpr c3
      have c3b1 : (a0 != 2) = false := bne_eq_false_iff_eq.mpr c3
      clear c3
      obtain rfl := Option.some.inj H
      go_enter Try.func65, Try.ntmps65
      go_wp2
      go_ret
      exact ⟨by first | rfl | (simp; done) | (simp [*]; done), by repeat (first | exact Drawn0.refl _ | apply Drawn0.step)⟩
    · rw [if_neg c3] at H
      have c3b0 : (a0 == 2) = false := beq_eq_false_iff_ne.mpr c3
      have c3b1 : (a0 != 2) = true := bne_iff_ne.mpr c3
      by_cases c4 : a0 = 5
      · rw [if_pos c4] at H
        have c4b0 : (a0 == 5) = true := beq_iff_eq.mpr c4
        have c4b1 : (a0 != 5) = false := bne_eq_false_iff_eq.mpr c4
        clear c4
        obtain rfl := Option.some.inj H
        go_enter Try.func65, Try.ntmps65
        go_wp2
        go_ret
        exact ⟨by first | rfl | (simp; done) | (simp [*]; done), by repeat (first | exact Drawn0.refl _ | apply Drawn0.step)⟩
      · rw [if_neg c4] at H
        have c4b0 : (a0 == 5) = false := beq_eq_false_iff_ne.mpr c4
        have c4b1 : (a0 != 5) = true := bne_iff_ne.mpr c4
        obtain rfl := Option.some.inj H
        go_enter Try.func65, Try.ntmps65
        go_wp2
        go_ret
        exact ⟨by first | rfl | (simp; done) | (simp [*]; done), by repeat (first | exact Drawn0.refl _ | apply Drawn0.step)⟩

/-! ### impl_WordGet: function 108 -/
mutual
def impl_WordGet.j0 : Nat → List Int → Int → Int → Bool → Option (Int × Int × Bool)
  | 0, _, _, _, _ => none
  | k + 1, x0, x1, x2, x25 => if x25 = true then (some (0, 0, false)) else (impl_WordGet.l0 k x0 x1 x2 0 x2 0)
def impl_WordGet.l0 : Nat → List Int → Int → Int → Int → Int → Int → Option (Int × Int × Bool)
  | 0, _, _, _, _, _, _ => none
  | k + 1, x0, x1, x2, x9, x26, x27 => if x27 < x26 then (if 0 ≤ (wrap64 (x1 + x27)) then (if (wrap64 (x1 + x27)) < (x0.length : Int) then (if 0 ≤ (wrap64 (8 * x27)) then (impl_WordGet.l0 k x0 x1 x2 (Go.bits .or .i64 x9 (shl .i64 (wrap64 (rd x0 (wrap64 (x1 + x27)))) (wrap64 (8 * x27)))) x26 (wrap64 (x27 + 1))) else (none)) else (none)) else (none)) else (some (x9, wrap64 (x1 + x2), true))
end
def impl_WordGet.f (k : Nat) (l0 : List Int) (a1 : Int) (a2 : Int) : Option (Int × Int × Bool) := (impl_within.f a2 1 8).bind fun t397 => (if t397 = true then (if a1 < 0 then (impl_WordGet.j0 k l0 a1 a2 true) else (impl_WordGet.j0 k l0 a1 a2 (decide (a1 > (wrap64 ((l0.length : Int) - a2)))))) else (impl_WordGet.j0 k l0 a1 a2 true))
set_option maxHeartbeats 8000000 in
set_option maxRecDepth 100000 in
theorem impl_WordGet.calls (k : Nat) (A0 : Option Addr) (c0 : Nat) (l0 : List Int) (a1 : Int) (a2 : Int) (r1 : Int) (r2 : Int) (r3 : Bool) (w : World) (hr0 : Kd.C (Kd.int .u8) w A0 l0.length l0) (hc0 : l0.length ≤ c0) (h : impl_WordGet.f k l0 a1 a2 = some (r1, r2, r3)) :
    Calls Try.prog 108 #[.slice A0 l0.length c0, .int .i64 a1, .int .i64 a2] w fun e w' => e = .returned (.tuple #[.int .i64 r1, .int .i64 r2, .bool r3]) ∧ Drawn0 w w' := by
  have HR0 := Aside0.mk hr0
  have HC0 := Aside0.mk hc0
  clear hr0 hc0
  have H : ((impl_within.f a2 1 8).bind fun t397 => (if t397 = true then (if a1 < 0 then (impl_WordGet.j0 k l0 a1 a2 true) else (impl_WordGet.j0 k l0 a1 a2 (decide (a1 > (wrap64 ((l0.length : Int) - a2)))))) else (impl_WordGet.j0 k l0 a1 a2 true))) = some (r1, r2, r3) := h
  clear h
  have HC4 := Aside0.mk H
  clear H
  go_enter Try.func108, Try.ntmps108
  go_upto_region 1 with (fail)
  go_cut [25] (fun v25 wc => ∃ (kq : Nat) (x25_3 : Bool), v25 = .bool x25_3 ∧ Aside0 (impl_WordGet.j0 kq l0 a1 a2 x25_3 = some (r1, r2, r3)) ∧ Aside0 (kq ≤ k) ∧ Drawn0 w wc)
  case first =>
    have H := HC4.out
    clear HC4
    replace H := bnd H
    obtain ⟨t397, A5, H⟩ := H
    by_cases c6 : t397 = true
    · subst c6
      replace H := ifp rfl H
      by_cases c7 : a1 < 0
      · rw [if_pos c7] at H
        have c7b0 := decide_eq_true c7
        clear c7
        (first | rw [c7b0] | (simp only [i64_w, i32_w]; rw [c7b0]) | skip)
        have H' := Aside0.mk H
        clear H
        go_wp2_with (first | ((with_reducible refine gate_callee (f := 48) rfl ?_); refine gl_ (some 12) Try.func48 #[.int .i64 a2, .int .i64 1, .int .i64 8] rfl ?_; (with_reducible refine (impl_within.calls a2 1 8 true _ A5.out).mono ?_); rintro e w' ⟨rfl, ⟨nd, rfl⟩⟩; refine ⟨_, rfl, ?_⟩))
        go_meet
        case rel => exact ⟨_, (true), sr, H', ⟨by first | omega | exact Nat.le_refl _⟩, by repeat (first | exact Drawn0.refl _ | apply Drawn0.step)⟩
      · rw [if_neg c7] at H
        have c7b0 := decide_eq_false c7
        clear c7
        (first | rw [c7b0] | (simp only [i64_w, i32_w]; rw [c7b0]) | skip)
        have H' := Aside0.mk H
        clear H
        go_wp2_with (first | ((with_reducible refine gate_callee (f := 48) rfl ?_); refine gl_ (some 12) Try.func48 #[.int .i64 a2, .int .i64 1, .int .i64 8] rfl ?_; (with_reducible refine (impl_within.calls a2 1 8 true _ A5.out).mono ?_); rintro e w' ⟨rfl, ⟨nd, rfl⟩⟩; refine ⟨_, rfl, ?_⟩))
        go_meet
        case rel => exact ⟨_, (decide (a1 > (wrap64 ((l0.length : Int) - a2)))), sr, H', ⟨by first | omega | exact Nat.le_refl _⟩, by repeat (first | exact Drawn0.refl _ | apply Drawn0.step)⟩
    · replace c6 := Bool.eq_false_iff.mpr c6
      subst c6
      replace H := ifn Bool.false_ne_true H
      have H' := Aside0.mk H
      clear H
      go_wp2_with (first | ((with_reducible refine gate_callee (f := 48) rfl ?_); refine gl_ (some 12) Try.func48 #[.int .i64 a2, .int .i64 1, .int .i64 8] rfl ?_; (with_reducible refine (impl_within.calls a2 1 8 false _ A5.out).mono ?_); rintro e w' ⟨rfl, ⟨nd, rfl⟩⟩; refine ⟨_, rfl, ?_⟩))
      go_meet
      case rel => exact ⟨_, (true), sr, H', ⟨by first | omega | exact Nat.le_refl _⟩, by repeat (first | exact Drawn0.refl _ | apply Drawn0.step)⟩
  case rest =>
    clear HC4
    obtain ⟨kq, x25_3, rfl, HA, HJ3, ⟨mc3, rfl⟩⟩ := hcut
    cases kq with
    | zero => exact absurd HA.out (by simp [impl_WordGet.j0])
    | succ kj3 =>
      have H := HA.out
      clear HA
      simp only [impl_WordGet.j0] at H
      by_cases c8 : x25_3 = true
      · subst c8
        replace H := ifp rfl H
        simp only [Option.some.injEq, Prod.mk.injEq] at H
        obtain ⟨rfl, rfl, rfl⟩ := H
        go_wp2
        go_ret3
        exact ⟨by first | rfl | (simp; done) | (simp [*]; done), by repeat (first | exact Drawn0.refl _ | apply Drawn0.step)⟩
      · replace c8 := Bool.eq_false_iff.mpr c8
        subst c8
        replace H := ifn Bool.false_ne_true H
        have H' := Aside0.mk H
        clear H
        go_wp2
        go_loopg [9, 27] kj3 (fun kq v9 v27 w' => ∃ (x9_2 : Int) (x27_2 : Int), v9 = .int .i64 x9_2 ∧ v27 = .int .i64 x27_2 ∧ Aside0 (impl_WordGet.l0 kq l0 a1 a2 x9_2 a2 x27_2 = some (r1, r2, r3)) ∧ Aside0 (kq ≤ kj3) ∧ Drawn0 w w')
        case atStart => exact ⟨(0), (0), sr, sr, H', ⟨Nat.le_refl _⟩, by repeat (first | exact Drawn0.refl _ | apply Drawn0.step)⟩
        case round =>
          clear H'
          try clear c8
          obtain ⟨x9_2, x27_2, rfl, rfl, HA, HK2, ⟨m2, rfl⟩⟩ := hrel
          cases gk with
          | zero => exact absurd HA.out (by simp [impl_WordGet.l0])
          | succ k2 =>
            have H := HA.out
            clear HA
            simp only [impl_WordGet.l0] at H
            by_cases c9 : x27_2 < a2
            · rw [if_pos c9] at H
              have c9b0 := decide_eq_true c9
              clear c9
              obtain ⟨ji10, hji10⟩ : ∃ j_ : Int, (wrap64 (a1 + x27_2)) = j_ := ⟨_, rfl⟩
              replace H : (if 0 ≤ (ji10) then (if (ji10) < (l0.length : Int) then (if 0 ≤ (wrap64 (8 * x27_2)) then (impl_WordGet.l0 k2 l0 a1 a2 (Go.bits .or .i64 x9_2 (shl .i64 (wrap64 (rd l0 (ji10))) (wrap64 (8 * x27_2)))) a2 (wrap64 (x27_2 + 1))) else (none)) else (none)) else (none)) = some (r1, r2, r3) := by first | (rw [hji10] at H; exact H) | (simp only [hji10] at H ⊢; exact H)
              have hji10w : (IntKind.i64.wrap (a1 + x27_2)) = ji10 := (i64_w _).trans hji10
              replace H := ifd H
              obtain ⟨c11b0, H⟩ := H
              replace H := ifd H
              obtain ⟨c12b0, H⟩ := H
              obtain ⟨ji13, hji13⟩ : ∃ j_ : Int, (wrap64 (8 * x27_2)) = j_ := ⟨_, rfl⟩
              replace H : (if 0 ≤ (ji13) then (impl_WordGet.l0 k2 l0 a1 a2 (Go.bits .or .i64 x9_2 (shl .i64 (wrap64 (rd l0 (ji10))) (ji13))) a2 (wrap64 (x27_2 + 1))) else (none)) = some (r1, r2, r3) := by first | (rw [hji13] at H; exact H) | (simp only [hji13] at H ⊢; exact H)
              have hji13w : (IntKind.i64.wrap (8 * x27_2)) = ji13 := (i64_w _).trans hji13
              replace H := ifs H
              obtain ⟨c14, H⟩ := H
              have c14b0 := eq_true c14
              have c14b1 := decide_eq_true c14
              clear c14
              obtain ⟨ji15, hji15⟩ : ∃ j_ : Int, (shl .i64 (wrap64 (rd l0 (ji10))) (ji13)) = j_ := ⟨_, rfl⟩
              replace H : (impl_WordGet.l0 k2 l0 a1 a2 (Go.bits .or .i64 x9_2 (ji15)) a2 (wrap64 (x27_2 + 1))) = some (r1, r2, r3) := by first | (rw [hji15] at H; exact H) | (simp only [hji15] at H ⊢; exact H)
              have hji15_ : (IntKind.i64.wrap ((wrap64 (rd l0 (ji10))) * 2 ^ min (ji13).toNat 64)) = ji15 := hji15
              have hji15z : (ji13) ≤ 64 → (IntKind.i64.wrap ((wrap64 (rd l0 (ji10))) * 2 ^ (ji13).toNat)) = ji15 := shl_small hji15
              have hji15y : (wrap64 ((wrap64 (rd l0 (ji10))) * 2 ^ min (ji13).toNat 64)) = ji15 := (i64_w _).symm.trans hji15_
              have hji15x : (ji13) ≤ 64 → (wrap64 ((wrap64 (rd l0 (ji10))) * 2 ^ (ji13).toNat)) = ji15 := fun h_ => (i64_w _).symm.trans (hji15z h_)
              have H' := Aside0.mk H
              clear H
              have p398 : 0 ≤ ((ji10) : Int) := dcd
              have q398 : (ji10) < (l0.length : Int) := dcd
              obtain ⟨ad398, e398, hx398_0⟩ := Kd.at_int HR0.out (ji10) p398 q398
              cases e398
              replace p398 := eq_true p398
              replace q398 := eq_true q398
              go_wp2
              go_roundg k2
              case measure => have := HJ3.out; have := HK2.out; omega
              case rel => exact ⟨(Go.bits .or .i64 x9_2 (ji15)), (wrap64 (x27_2 + 1)), (by first | rfl | (simp; done) | (simp only [← hji15] <;> (first | rfl | simp)) | (simp [*]; done)), sr, H', ⟨by have := HJ3.out; have := HK2.out; omega⟩, by repeat (first | exact Drawn0.refl _ | apply Drawn0.step)⟩
            · rw [if_neg c9] at H
              have c9b0 := decide_eq_false c9
              clear c9
              simp only [Option.some.injEq, Prod.mk.injEq] at H
              obtain ⟨rfl, rfl, rfl⟩ := H
              go_wp2
              go_ret3
              exact ⟨by first | rfl | (simp; done) | (simp [*]; done), by repeat (first | exact Drawn0.refl _ | apply Drawn0.step)⟩

/-! ### impl_signed: function 109 -/
def impl_signed.f (a0 : Int) (a1 : Int) : Option (Int) := if a1 = 4 then (some (wrap64 (wrap32 (a0)))) else (some a0)
set_option maxHeartbeats 8000000 in
set_option maxRecDepth 100000 in
theorem impl_signed.calls (a0 : Int) (a1 : Int) (r : Int) (w : World) (h : impl_signed.f a0 a1 = some r) :
    Calls Try.prog 109 #[.int .i64 a0, .int .i64 a1] w fun e w' => e = .returned (.int .i64 r) ∧ Drawn0 w w' := by
  have H : (if a1 = 4 then (some (wrap64 (wrap32 (a0)))) else (some a0)) = some r := h
  clear h
  by_cases c3 : a1 = 4
  · rw [if_pos c3] at H
    have c3b0 : (a1 == 4) = true := beq_iff_eq.mpr c3
    have c3b1 : (a1 != 4) = false := bne_eq_false_iff_eq.mpr c3
    clear c3
    obtain rfl := Option.some.inj H
    go_enter Try.func109, Try.ntmps109
    go_wp2
    go_ret
    exact ⟨by first | rfl | (simp; done) | (simp [*]; done), by repeat (first | exact Drawn0.refl _ | apply Drawn0.step)⟩
  · rw [if_neg c3] at H
    have c3b0 : (a1 == 4) = false := beq_eq_false_iff_ne.mpr c3
    have c3b1 : (a1 != 4) = true := bne_iff_ne.mpr c3
    obtain rfl := Option.some.inj H
    go_enter Try.func109, Try.ntmps109
    go_wp2
    go_ret
    exact ⟨by first | rfl | (simp; done) | (simp [*]; done), by repeat (first | exact Drawn0.refl _ | apply Drawn0.step)⟩

/-! ### impl_plainOne: function 94 -/
theorem impl_plainOne.cutC {w : World} {A : Option Addr} {l : List Int} {i j : Int} (h : j ≤ (l.length : Int)) (hC : (Kd.int .u8).C w A ((l.take j.toNat).drop i.toNat).length ((l.take j.toNat).drop i.toNat)) : (Kd.int .u8).C w A (j.toNat - i.toNat) ((l.take j.toNat).drop i.toNat) := by
  rw [List.length_drop, List.length_take, Nat.min_eq_left (Int.toNat_le.mpr h)] at hC
  exact hC
def impl_plainOne.f (k : Nat) (a0 : Int) (l1 : List Int) (a2 : Int) : Option (Int × ByteArray × Int × Bool) := if a0 = 6 then ((impl_WordGet.f k l1 a2 4).bind fun bt400 => (if bt400.2.2 = true then (if bt400.1 > 40 then (some (0, (⟨#[]⟩ : ByteArray), 0, false)) else (if bt400.1 > (wrap64 ((l1.length : Int) - bt400.2.1)) then (some (0, (⟨#[]⟩ : ByteArray), 0, false)) else (if 0 ≤ bt400.2.1 then (if bt400.2.1 ≤ (wrap64 (bt400.2.1 + bt400.1)) then (if (wrap64 (bt400.2.1 + bt400.1)) ≤ (l1.length : Int) then (some (0, strOfNums ((l1.take ((wrap64 (bt400.2.1 + bt400.1)) : Int).toNat).drop (bt400.2.1 : Int).toNat), wrap64 (bt400.2.1 + bt400.1), true)) else (none)) else (none)) else (none)))) else (some (0, (⟨#[]⟩ : ByteArray), 0, false)))) else ((impl_wideOf.f a0).bind fun t404 => ((impl_WordGet.f k l1 a2 t404).bind fun bt405 => ((impl_wideOf.f a0).bind fun t408 => ((impl_signed.f bt405.1 t408).bind fun t409 => (some (t409, (⟨#[]⟩ : ByteArray), bt405.2.1, bt405.2.2))))))
set_option maxHeartbeats 8000000 in
set_option maxRecDepth 100000 in
theorem impl_plainOne.calls (k : Nat) (a0 : Int) (A1 : Option Addr) (c1 : Nat) (l1 : List Int) (a2 : Int) (r1 : Int) (r2 : ByteArray) (r3 : Int) (r4 : Bool) (w : World) (hr1 : Kd.C (Kd.int .u8) w A1 l1.length l1) (hc1 : l1.length ≤ c1) (h : impl_plainOne.f k a0 l1 a2 = some (r1, r2, r3, r4)) :
    Calls Try.prog 94 #[.int .i64 a0, .slice A1 l1.length c1, .int .i64 a2] w fun e w' => e = .returned (.tuple #[.agg #[.int .i64 r1, .string r2], .int .i64 r3, .bool r4]) ∧ Below w.heap.size w w' := by
  have hu27 := Try.underlying27
  have HR1 := Aside0.mk hr1
  have HC1 := Aside0.mk hc1
  clear hr1 hc1
  have HB := Aside0.mk (Below.refl w.heap.size w)
  have H : (if a0 = 6 then ((impl_WordGet.f k l1 a2 4).bind fun bt400 => (if bt400.2.2 = true then (if bt400.1 > 40 then (some (0, (⟨#[]⟩ : ByteArray), 0, false)) else (if bt400.1 > (wrap64 ((l1.length : Int) - bt400.2.1)) then (some (0, (⟨#[]⟩ : ByteArray), 0, false)) else (if 0 ≤ bt400.2.1 then (if bt400.2.1 ≤ (wrap64 (bt400.2.1 + bt400.1)) then (if (wrap64 (bt400.2.1 + bt400.1)) ≤ (l1.length : Int) then (some (0, strOfNums ((l1.take ((wrap64 (bt400.2.1 + bt400.1)) : Int).toNat).drop (bt400.2.1 : Int).toNat), wrap64 (bt400.2.1 + bt400.1), true)) else (none)) else (none)) else (none)))) else (some (0, (⟨#[]⟩ : ByteArray), 0, false)))) else ((impl_wideOf.f a0).bind fun t404 => ((impl_WordGet.f k l1 a2 t404).bind fun bt405 => ((impl_wideOf.f a0).bind fun t408 => ((impl_signed.f bt405.1 t408).bind fun t409 => (some (t409, (⟨#[]⟩ : ByteArray), bt405.2.1, bt405.2.2))))))) = some (r1, r2, r3, r4) := h
  clear h
  by_cases c4 : a0 = 6
  · rw [if_pos c4] at H
    have c4b0 : (a0 == 6) = true := beq_iff_eq.mpr c4
    have c4b1 : (a0 != 6) = false := bne_eq_false_iff_eq.mpr c4
    clear c4
    replace H := Option.bind_eq_some_iff.mp H
    obtain ⟨⟨t400, t401, t402⟩, A50, H⟩ := H
    replace H : (if t402 = true then (if t400 > 40 then (some (0, (⟨#[]⟩ : ByteArray), 0, false)) else (if t400 > (wrap64 ((l1.length : Int) - t401)) then (some (0, (⟨#[]⟩ : ByteArray), 0, false)) else (if 0 ≤ t401 then (if t401 ≤ (wrap64 (t401 + t400)) then (if (wrap64 (t401 + t400)) ≤ (l1.length : Int) then (some (0, strOfNums ((l1.take ((wrap64 (t401 + t400)) : Int).toNat).drop (t401 : Int).toNat), wrap64 (t401 + t400), true)) else (none)) else (none)) else (none)))) else (some (0, (⟨#[]⟩ : ByteArray), 0, false))) = some (r1, r2, r3, r4) := H
    have A5 := Aside0.mk A50
    clear A50
    by_cases c6 : t402 = true
    · subst c6
      replace H := ifp rfl H
      by_cases c7 : t400 > 40
      · rw [if_pos c7] at H
        have c7b0 : decide (40 < t400) = true := decide_eq_true c7
        clear c7
        simp only [Option.some.injEq, Prod.mk.injEq] at H
        obtain ⟨rfl, rfl, rfl, rfl⟩ := H
        go_enter Try.func94, Try.ntmps94
        go_wp2_with (first | ((with_reducible refine gate_dst (N := 6) rfl ?_); (try (refine gate_guard (by rfl) ?_; dsimp only)); refine bx_ 6 #[.int .i64 0, .string (⟨#[]⟩ : ByteArray)] 27 ?_; intro gb399 hg w8 hbox hb; have BK399 := Aside0.mk (hbox); have GW399 := gwe HB hg; have GE399 := GW399; replace HB := bst HB hb; clear hb hbox hg) | ((with_reducible refine gate_callee (f := 108) rfl ?_); refine gl_ (some 36) Try.func108 #[.slice A1 l1.length c1, .int .i64 a2, .int .i64 4] rfl ?_; (with_reducible refine (impl_WordGet.calls k _ _ l1 a2 4 t400 t401 true _ ?side1 ?side2 A5.out).mono ?_); (case side1 => repeat (first | exact (Kd.C_below HR1.out HB.out) | (with_reducible refine Kd.C_alloc ?_ _) | (with_reducible refine Kd.C_drewN ?_ _) | (with_reducible refine Kd.C_drew ?_))); (case side2 => exact HC1.out); rintro e w' ⟨rfl, ⟨nd, rfl⟩⟩; refine ⟨_, rfl, ?_⟩; (try (rw [drewN_self w8]; generalize hq_ : World.drewN w8 _ = w8; have n0_ : Aside0 (w8.heap[gb399]? = some (.cells #[.int .i64 0, .string (⟨#[]⟩ : ByteArray)] 27 (0, 0))) := ⟨by rw [← hq_]; exact (blk_later BK399.out)⟩; have n1_ : Aside0 (Below w.heap.size w w8) := ⟨by rw [← hq_]; exact (below_later HB.out)⟩; clear BK399 HB hq_; have BK399 := n0_; have HB := n1_; clear n0_ n1_)); obtain ⟨hcz9_0, hcz9_1, hfz9_0, hfz9_1⟩ := cl2 BK399))
        refine bodyPost_ret (results_ctt rfl _ _ gb399 27 #[.int .i64 0, .string (⟨#[]⟩ : ByteArray)] (0, 0) _ rfl (by (with_reducible repeat (first | refine blk_drewN ?_ _ | refine blk_drew ?_ | refine blk_alloc ?_ _)); refine blk_put (cs := #[.int .i64 0, .string (⟨#[]⟩ : ByteArray)]) ?_ 1 _ rfl; (with_reducible repeat (first | refine blk_drewN ?_ _ | refine blk_drew ?_ | refine blk_alloc ?_ _)); refine blk_put (cs := #[.int .i64 0, .string (⟨#[]⟩ : ByteArray)]) ?_ 0 _ rfl; (with_reducible repeat (first | refine blk_drewN ?_ _ | refine blk_drew ?_ | refine blk_alloc ?_ _)); exact BK399.out) Try.underlying27 rfl (by kernel_rfl)) rfl ?_
        exact fin_ (below_later HB.out)
      · rw [if_neg c7] at H
        have c7b0 : decide (40 < t400) = false := decide_eq_false c7
        clear c7
        by_cases c10 : t400 > (wrap64 ((l1.length : Int) - t401))
        · rw [if_pos c10] at H
          have c10b0 : decide ((wrap64 ((l1.length : Int) - t401)) < t400) = true := decide_eq_true c10
          clear c10
          simp only [Option.some.injEq, Prod.mk.injEq] at H
          obtain ⟨rfl, rfl, rfl, rfl⟩ := H
          go_enter Try.func94, Try.ntmps94
          go_wp2_with (first | ((with_reducible refine gate_dst (N := 6) rfl ?_); (try (refine gate_guard (by rfl) ?_; dsimp only)); refine bx_ 6 #[.int .i64 0, .string (⟨#[]⟩ : ByteArray)] 27 ?_; intro gb399 hg w11 hbox hb; have BK399 := Aside0.mk (hbox); have GW399 := gwe HB hg; have GE399 := GW399; replace HB := bst HB hb; clear hb hbox hg) | ((with_reducible refine gate_callee (f := 108) rfl ?_); refine gl_ (some 36) Try.func108 #[.slice A1 l1.length c1, .int .i64 a2, .int .i64 4] rfl ?_; (with_reducible refine (impl_WordGet.calls k _ _ l1 a2 4 t400 t401 true _ ?side1 ?side2 A5.out).mono ?_); (case side1 => repeat (first | exact (Kd.C_below HR1.out HB.out) | (with_reducible refine Kd.C_alloc ?_ _) | (with_reducible refine Kd.C_drewN ?_ _) | (with_reducible refine Kd.C_drew ?_))); (case side2 => exact HC1.out); rintro e w' ⟨rfl, ⟨nd, rfl⟩⟩; refine ⟨_, rfl, ?_⟩; (try (rw [drewN_self w11]; generalize hq_ : World.drewN w11 _ = w11; have n0_ : Aside0 (w11.heap[gb399]? = some (.cells #[.int .i64 0, .string (⟨#[]⟩ : ByteArray)] 27 (0, 0))) := ⟨by rw [← hq_]; exact (blk_later BK399.out)⟩; have n1_ : Aside0 (Below w.heap.size w w11) := ⟨by rw [← hq_]; exact (below_later HB.out)⟩; clear BK399 HB hq_; have BK399 := n0_; have HB := n1_; clear n0_ n1_)); obtain ⟨hcz12_0, hcz12_1, hfz12_0, hfz12_1⟩ := cl2 BK399))
          refine bodyPost_ret (results_ctt rfl _ _ gb399 27 #[.int .i64 0, .string (⟨#[]⟩ : ByteArray)] (0, 0) _ rfl (by (with_reducible repeat (first | refine blk_drewN ?_ _ | refine blk_drew ?_ | refine blk_alloc ?_ _)); refine blk_put (cs := #[.int .i64 0, .string (⟨#[]⟩ : ByteArray)]) ?_ 1 _ rfl; (with_reducible repeat (first | refine blk_drewN ?_ _ | refine blk_drew ?_ | refine blk_alloc ?_ _)); refine blk_put (cs := #[.int .i64 0, .string (⟨#[]⟩ : ByteArray)]) ?_ 0 _ rfl; (with_reducible repeat (first | refine blk_drewN ?_ _ | refine blk_drew ?_ | refine blk_alloc ?_ _)); exact BK399.out) Try.underlying27 rfl (by kernel_rfl)) rfl ?_
          exact fin_ (below_later HB.out)
        · rw [if_neg c10] at H
          have c10b0 : decide ((wrap64 ((l1.length : Int) - t401)) < t400) = false := decide_eq_false c10
          clear c10
          replace H := ifs H
          obtain ⟨c13, H⟩ := H
          have c13b0 := eq_true c13
          have c13b1 := decide_eq_true c13
          clear c13
          replace H := ifs H
          obtain ⟨c14, H⟩ := H
          have c14b0 := eq_true c14
          have c14b1 := decide_eq_true c14
          replace H := ifs H
          obtain ⟨c15, H⟩ := H
          have c15b0 := eq_true c15
          have c15b1 := decide_eq_true c15
          simp only [Option.some.injEq, Prod.mk.injEq] at H
          obtain ⟨rfl, rfl, rfl, rfl⟩ := H
          go_enter Try.func94, Try.ntmps94
          go_wp2_with (first | ((with_reducible refine gate_dst (N := 6) rfl ?_); (try (refine gate_guard (by rfl) ?_; dsimp only)); refine bx_ 6 #[.int .i64 0, .string (⟨#[]⟩ : ByteArray)] 27 ?_; intro gb399 hg w16 hbox hb; have BK399 := Aside0.mk (hbox); have GW399 := gwe HB hg; have GE399 := GW399; replace HB := bst HB hb; clear hb hbox hg) | ((with_reducible refine gate_callee (f := 108) rfl ?_); refine gl_ (some 36) Try.func108 #[.slice A1 l1.length c1, .int .i64 a2, .int .i64 4] rfl ?_; (with_reducible refine (impl_WordGet.calls k _ _ l1 a2 4 t400 t401 true _ ?side1 ?side2 A5.out).mono ?_); (case side1 => repeat (first | exact (Kd.C_below HR1.out HB.out) | (with_reducible refine Kd.C_alloc ?_ _) | (with_reducible refine Kd.C_drewN ?_ _) | (with_reducible refine Kd.C_drew ?_))); (case side2 => exact HC1.out); rintro e w' ⟨rfl, ⟨nd, rfl⟩⟩; refine ⟨_, rfl, ?_⟩; (try (rw [drewN_self w16]; generalize hq_ : World.drewN w16 _ = w16; have n0_ : Aside0 (w16.heap[gb399]? = some (.cells #[.int .i64 0, .string (⟨#[]⟩ : ByteArray)] 27 (0, 0))) := ⟨by rw [← hq_]; exact (blk_later BK399.out)⟩; have n1_ : Aside0 (Below w.heap.size w w16) := ⟨by rw [← hq_]; exact (below_later HB.out)⟩; clear BK399 HB hq_; have BK399 := n0_; have HB := n1_; clear n0_ n1_)); obtain ⟨i017, hi017, _, hsz17, _⟩ := info_parts info5; obtain ⟨A17, hcut17, hA17, hC17⟩ := print_mid_of (P := Try.prog) (Value.int .u8) 0 41 5 .i64 .i64 Try.underlying41 hi017 hsz17 A1 c1 l1 t401 (wrap64 (t401 + t400)) (dcd) (by first | omega | exact dcd) (dcd) HC1.out; have HR403 := Aside0.mk (Kd.C_of_reads (h1 := fun _ => rfl) (hA17 _ (Kd.reads_of_C HR1.out))); have HC403 := Aside0.mk hC17; clear hA17 hC17 hi017 hsz17; have hcv18 := fun nd_ : Nat => Kd.C_string (P := Try.prog) (A := A17) (c := (c1 - t401.toNat)) Try.underlying41 Try.underlying5 Try.underlying9 (impl_plainOne.cutC (dcd) (Kd.C_below HR403.out (pw_below_drewN HB.out nd_))); have hcv18z := Kd.C_string (P := Try.prog) (A := A17) (c := (c1 - t401.toNat)) Try.underlying41 Try.underlying5 Try.underlying9 (impl_plainOne.cutC (dcd) (Kd.C_below HR403.out HB.out)); obtain ⟨hcz19_0, hcz19_1, hfz19_0, hfz19_1⟩ := cl2 BK399))
          refine bodyPost_ret (results_ctt rfl _ _ gb399 27 #[.int .i64 0, .string (strOfNums ((l1.take ((wrap64 (t401 + t400)) : Int).toNat).drop (t401 : Int).toNat))] (0, 0) _ rfl (by (with_reducible repeat (first | refine blk_drewN ?_ _ | refine blk_drew ?_ | refine blk_alloc ?_ _)); refine blk_put (cs := #[.int .i64 0, .string (⟨#[]⟩ : ByteArray)]) ?_ 1 _ rfl; (with_reducible repeat (first | refine blk_drewN ?_ _ | refine blk_drew ?_ | refine blk_alloc ?_ _)); refine blk_put (cs := #[.int .i64 0, .string (⟨#[]⟩ : ByteArray)]) ?_ 0 _ rfl; (with_reducible repeat (first | refine blk_drewN ?_ _ | refine blk_drew ?_ | refine blk_alloc ?_ _)); exact BK399.out) Try.underlying27 rfl (by kernel_rfl)) rfl ?_
          exact fin_ (below_later HB.out)
    · replace c6 := Bool.eq_false_iff.mpr c6
      subst c6
      replace H := ifn Bool.false_ne_true H
      simp only [Option.some.injEq, Prod.mk.injEq] at H
      obtain ⟨rfl, rfl, rfl, rfl⟩ := H
      go_enter Try.func94, Try.ntmps94
      go_wp2_with (first | ((with_reducible refine gate_dst (N := 6) rfl ?_); (try (refine gate_guard (by rfl) ?_; dsimp only)); refine bx_ 6 #[.int .i64 0, .string (⟨#[]⟩ : ByteArray)] 27 ?_; intro gb399 hg w20 hbox hb; have BK399 := Aside0.mk (hbox); have GW399 := gwe HB hg; have GE399 := GW399; replace HB := bst HB hb; clear hb hbox hg) | ((with_reducible refine gate_callee (f := 108) rfl ?_); refine gl_ (some 36) Try.func108 #[.slice A1 l1.length c1, .int .i64 a2, .int .i64 4] rfl ?_; (with_reducible refine (impl_WordGet.calls k _ _ l1 a2 4 t400 t401 false _ ?side1 ?side2 A5.out).mono ?_); (case side1 => repeat (first | exact (Kd.C_below HR1.out HB.out) | (with_reducible refine Kd.C_alloc ?_ _) | (with_reducible refine Kd.C_drewN ?_ _) | (with_reducible refine Kd.C_drew ?_))); (case side2 => exact HC1.out); rintro e w' ⟨rfl, ⟨nd, rfl⟩⟩; refine ⟨_, rfl, ?_⟩; (try (rw [drewN_self w20]; generalize hq_ : World.drewN w20 _ = w20; have n0_ : Aside0 (w20.heap[gb399]? = some (.cells #[.int .i64 0, .string (⟨#[]⟩ : ByteArray)] 27 (0, 0))) := ⟨by rw [← hq_]; exact (blk_later BK399.out)⟩; have n1_ : Aside0 (Below w.heap.size w w20) := ⟨by rw [← hq_]; exact (below_later HB.out)⟩; clear BK399 HB hq_; have BK399 := n0_; have HB := n1_; clear n0_ n1_)); obtain ⟨hcz21_0, hcz21_1, hfz21_0, hfz21_1⟩ := cl2 BK399))
      refine bodyPost_ret (results_ctt rfl _ _ gb399 27 #[.int .i64 0, .string (⟨#[]⟩ : ByteArray)] (0, 0) _ rfl (by (with_reducible repeat (first | refine blk_drewN ?_ _ | refine blk_drew ?_ | refine blk_alloc ?_ _)); refine blk_put (cs := #[.int .i64 0, .string (⟨#[]⟩ : ByteArray)]) ?_ 1 _ rfl; (with_reducible repeat (first | refine blk_drewN ?_ _ | refine blk_drew ?_ | refine blk_alloc ?_ _)); refine blk_put (cs := #[.int .i64 0, .string (⟨#[]⟩ : ByteArray)]) ?_ 0 _ rfl; (with_reducible repeat (first | refine blk_drewN ?_ _ | refine blk_drew ?_ | refine blk_alloc ?_ _)); exact BK399.out) Try.underlying27 rfl (by kernel_rfl)) rfl ?_
      exact fin_ (below_later HB.out)
  · rw [if_neg c4] at H
    have c4b0 : (a0 == 6) = false := beq_eq_false_iff_ne.mpr c4
    have c4b1 : (a0 != 6) = true := bne_iff_ne.mpr c4
    replace H := bnd H
    obtain ⟨t404, A22, H⟩ := H
    replace H := Option.bind_eq_some_iff.mp H
    obtain ⟨⟨t405, t406, t407⟩, A230, H⟩ := H
    replace H : ((impl_wideOf.f a0).bind fun t408 => ((impl_signed.f t405 t408).bind fun t409 => (some (t409, (⟨#[]⟩ : ByteArray), t406, t407)))) = some (r1, r2, r3, r4) := H
    have A23 := Aside0.mk A230
    clear A230
    replace H := bnd H
    obtain ⟨t408, A24, H⟩ := H
    replace H := bnd H
    obtain ⟨t409, A25, H⟩ := H
    simp only [Option.some.injEq, Prod.mk.injEq] at H
    obtain ⟨rfl, rfl, rfl, rfl⟩ := H
    go_enter Try.func94, Try.ntmps94
    go_wp2_with (first | ((with_reducible refine gate_dst (N := 6) rfl ?_); (try (refine gate_guard (by rfl) ?_; dsimp only)); refine bx_ 6 #[.int .i64 0, .string (⟨#[]⟩ : ByteArray)] 27 ?_; intro gb399 hg w26 hbox hb; have BK399 := Aside0.mk (hbox); have GW399 := gwe HB hg; have GE399 := GW399; replace HB := bst HB hb; clear hb hbox hg) | ((with_reducible refine gate_callee (f := 65) rfl ?_); refine gl_ (some 21) Try.func65 #[.int .i64 a0] rfl ?_; (with_reducible refine (impl_wideOf.calls a0 t404 _ A22.out).mono ?_); rintro e w' ⟨rfl, ⟨nd, rfl⟩⟩; refine ⟨_, rfl, ?_⟩; (try (rw [drewN_self w26]; generalize hq_ : World.drewN w26 _ = w26; have n0_ : Aside0 (w26.heap[gb399]? = some (.cells #[.int .i64 0, .string (⟨#[]⟩ : ByteArray)] 27 (0, 0))) := ⟨by rw [← hq_]; exact (blk_later BK399.out)⟩; have n1_ : Aside0 (Below w.heap.size w w26) := ⟨by rw [← hq_]; exact (below_later HB.out)⟩; clear BK399 HB hq_; have BK399 := n0_; have HB := n1_; clear n0_ n1_))) | ((with_reducible refine gate_callee (f := 108) rfl ?_); refine gl_ (some 22) Try.func108 #[.slice A1 l1.length c1, .int .i64 a2, .int .i64 t404] rfl ?_; (with_reducible refine (impl_WordGet.calls k _ _ l1 a2 t404 t405 t406 t407 _ ?side1 ?side2 A23.out).mono ?_); (case side1 => repeat (first | exact (Kd.C_below HR1.out HB.out) | (with_reducible refine Kd.C_alloc ?_ _) | (with_reducible refine Kd.C_drewN ?_ _) | (with_reducible refine Kd.C_drew ?_))); (case side2 => exact HC1.out); rintro e w' ⟨rfl, ⟨nd, rfl⟩⟩; refine ⟨_, rfl, ?_⟩; (try (rw [drewN_self w26]; generalize hq_ : World.drewN w26 _ = w26; have n0_ : Aside0 (w26.heap[gb399]? = some (.cells #[.int .i64 0, .string (⟨#[]⟩ : ByteArray)] 27 (0, 0))) := ⟨by rw [← hq_]; exact (blk_later BK399.out)⟩; have n1_ : Aside0 (Below w.heap.size w w26) := ⟨by rw [← hq_]; exact (below_later HB.out)⟩; clear BK399 HB hq_; have BK399 := n0_; have HB := n1_; clear n0_ n1_))) | ((with_reducible refine gate_callee (f := 65) rfl ?_); refine gl_ (some 28) Try.func65 #[.int .i64 a0] rfl ?_; (with_reducible refine (impl_wideOf.calls a0 t408 _ A24.out).mono ?_); rintro e w' ⟨rfl, ⟨nd, rfl⟩⟩; refine ⟨_, rfl, ?_⟩; (try (rw [drewN_self w26]; generalize hq_ : World.drewN w26 _ = w26; have n0_ : Aside0 (w26.heap[gb399]? = some (.cells #[.int .i64 0, .string (⟨#[]⟩ : ByteArray)] 27 (0, 0))) := ⟨by rw [← hq_]; exact (blk_later BK399.out)⟩; have n1_ : Aside0 (Below w.heap.size w w26) := ⟨by rw [← hq_]; exact (below_later HB.out)⟩; clear BK399 HB hq_; have BK399 := n0_; have HB := n1_; clear n0_ n1_))) | ((with_reducible refine gate_callee (f := 109) rfl ?_); refine gl_ (some 29) Try.func109 #[.int .i64 t405, .int .i64 t408] rfl ?_; (with_reducible refine (impl_signed.calls t405 t408 t409 _ A25.out).mono ?_); rintro e w' ⟨rfl, ⟨nd, rfl⟩⟩; refine ⟨_, rfl, ?_⟩; (try (rw [drewN_self w26]; generalize hq_ : World.drewN w26 _ = w26; have n0_ : Aside0 (w26.heap[gb399]? = some (.cells #[.int .i64 0, .string (⟨#[]⟩ : ByteArray)] 27 (0, 0))) := ⟨by rw [← hq_]; exact (blk_later BK399.out)⟩; have n1_ : Aside0 (Below w.heap.size w w26) := ⟨by rw [← hq_]; exact (below_later HB.out)⟩; clear BK399 HB hq_; have BK399 := n0_; have HB := n1_; clear n0_ n1_)); obtain ⟨hcz27_0, hcz27_1, hfz27_0, hfz27_1⟩ := cl2 BK399))
    refine bodyPost_ret (results_ctt rfl _ _ gb399 27 #[.int .i64 t409, .string (⟨#[]⟩ : ByteArray)] (0, 0) _ rfl (by (with_reducible repeat (first | refine blk_drewN ?_ _ | refine blk_drew ?_ | refine blk_alloc ?_ _)); refine blk_put (cs := #[.int .i64 t409, .string (⟨#[]⟩ : ByteArray)]) ?_ 1 _ rfl; (with_reducible repeat (first | refine blk_drewN ?_ _ | refine blk_drew ?_ | refine blk_alloc ?_ _)); refine blk_put (cs := #[.int .i64 0, .string (⟨#[]⟩ : ByteArray)]) ?_ 0 _ rfl; (with_reducible repeat (first | refine blk_drewN ?_ _ | refine blk_drew ?_ | refine blk_alloc ?_ _)); exact BK399.out) Try.underlying27 rfl (by kernel_rfl)) rfl ?_
    exact fin_ (below_later HB.out)

/-! ### impl_PlainRead: function 78 -/
mutual
def impl_PlainRead.j0 : Nat → Int → List Int → Int → Int → Bool → Option ((List (S27)) × Int × Bool)
  | 0, _, _, _, _, _ => none
  | k + 1, x0, x1, x2, x3, x32 => if x32 = true then (some (([] : List (S27)), 0, false)) else (if x0 = 0 then ((impl_BitsRead.f k x1 x2 x3 1).bind fun bt413 => ((impl_valsOf.f k bt413.1).bind fun t418 => (some (t418, bt413.2.1, bt413.2.2)))) else (impl_PlainRead.l0 k x0 x1 x2 (([] : List (S27))) x3 0))
def impl_PlainRead.l0 : Nat → Int → List Int → Int → List (S27) → Int → Int → Option ((List (S27)) × Int × Bool)
  | 0, _, _, _, _, _, _ => none
  | k + 1, x0, x1, x2, x14, x48, x49 => if x49 < x48 then ((impl_plainOne.f k x0 x1 x2).bind fun bt424 => (if bt424.2.2.2 = true then (if x14.length < 5864062014805 then (impl_PlainRead.l0 k x0 x1 bt424.2.2.1 (x14 ++ [(⟨bt424.1, bt424.2.1⟩ : S27)]) x48 (wrap64 (x49 + 1))) else (none)) else (some (([] : List (S27)), 0, false)))) else (some (x14, x2, true))
end
def impl_PlainRead.f (k : Nat) (a0 : Int) (l1 : List Int) (a2 : Int) (a3 : Int) : Option ((List (S27)) × Int × Bool) := (impl_TypeOk.f a0).bind fun t410 => (if t410 = true then ((impl_within.f a3 0 2000).bind fun t411 => (if t411 = true then ((impl_within.f a2 0 (l1.length : Int)).bind fun t412 => (impl_PlainRead.j0 k a0 l1 a2 a3 (!t412))) else (impl_PlainRead.j0 k a0 l1 a2 a3 true))) else (impl_PlainRead.j0 k a0 l1 a2 a3 true))
set_option maxHeartbeats 8000000 in
set_option maxRecDepth 100000 in
theorem impl_PlainRead.calls (k : Nat) (a0 : Int) (A1 : Option Addr) (c1 : Nat) (l1 : List Int) (a2 : Int) (a3 : Int) (r1 : List (S27)) (r2 : Int) (r3 : Bool) (w : World) (hr1 : Kd.C (Kd.int .u8) w A1 l1.length l1) (hc1 : l1.length ≤ c1) (h : impl_PlainRead.f k a0 l1 a2 a3 = some (r1, r2, r3)) :
    Calls Try.prog 78 #[.int .i64 a0, .slice A1 l1.length c1, .int .i64 a2, .int .i64 a3] w fun e w' => ∃ v0_ : Value, e = .returned (.tuple #[v0_, .int .i64 r2, .bool r3]) ∧ Kd.R k27 27 w' w.heap.size (fun _ => True) v0_ r1 ∧ Below w.heap.size w w' := by
  have hu27 := Try.underlying27
  have HR1 := Aside0.mk hr1
  have HC1 := Aside0.mk hc1
  clear hr1 hc1
  have HB := Aside0.mk (Below.refl w.heap.size w)
  have H : ((impl_TypeOk.f a0).bind fun t410 => (if t410 = true then ((impl_within.f a3 0 2000).bind fun t411 => (if t411 = true then ((impl_within.f a2 0 (l1.length : Int)).bind fun t412 => (impl_PlainRead.j0 k a0 l1 a2 a3 (!t412))) else (impl_PlainRead.j0 k a0 l1 a2 a3 true))) else (impl_PlainRead.j0 k a0 l1 a2 a3 true))) = some (r1, r2, r3) := h
  clear h
  have HC5 := Aside0.mk H
  clear H
  go_enter Try.func78, Try.ntmps78
  go_upto_region 1 with (fail)
  go_cut [32] (fun v32 wc => ∃ (kq : Nat) (x32_4 : Bool), v32 = .bool x32_4 ∧ Aside0 (impl_PlainRead.j0 kq a0 l1 a2 a3 x32_4 = some (r1, r2, r3)) ∧ Aside0 (kq ≤ k) ∧ Aside0 (Below w.heap.size w wc))
  case first =>
    have H := HC5.out
    clear HC5
    replace H := bnd H
    obtain ⟨t410, A6, H⟩ := H
    by_cases c7 : t410 = true
    · subst c7
      replace H := ifp rfl H
      replace H := bnd H
      obtain ⟨t411, A8, H⟩ := H
      by_cases c9 : t411 = true
      · subst c9
        replace H := ifp rfl H
        replace H := bnd H
        obtain ⟨t412, A10, H⟩ := H
        have H' := Aside0.mk H
        clear H
        go_wp2_with (first | ((with_reducible refine gate_callee (f := 76) rfl ?_); refine gl_ (some 19) Try.func76 #[.int .i64 a0] rfl ?_; (with_reducible refine (impl_TypeOk.calls a0 true _ A6.out).mono ?_); rintro e w' ⟨rfl, ⟨nd, rfl⟩⟩; refine ⟨_, rfl, ?_⟩) | (go_at_call 48; (with_reducible refine (impl_within.calls a3 0 2000 true _ A8.out).mono ?_); rintro e w' ⟨rfl, ⟨nd, rfl⟩⟩) | (go_at_call 48; (with_reducible refine (impl_within.calls a2 0 (l1.length : Int) t412 _ A10.out).mono ?_); rintro e w' ⟨rfl, ⟨nd, rfl⟩⟩))
        go_meet
        case rel => exact ⟨_, (!t412), sr, H', ⟨by first | omega | exact Nat.le_refl _⟩, ⟨below_later HB.out⟩⟩
      · replace c9 := Bool.eq_false_iff.mpr c9
        subst c9
        replace H := ifn Bool.false_ne_true H
        have H' := Aside0.mk H
        clear H
        go_wp2_with (first | ((with_reducible refine gate_callee (f := 76) rfl ?_); refine gl_ (some 19) Try.func76 #[.int .i64 a0] rfl ?_; (with_reducible refine (impl_TypeOk.calls a0 true _ A6.out).mono ?_); rintro e w' ⟨rfl, ⟨nd, rfl⟩⟩; refine ⟨_, rfl, ?_⟩) | (go_at_call 48; (with_reducible refine (impl_within.calls a3 0 2000 false _ A8.out).mono ?_); rintro e w' ⟨rfl, ⟨nd, rfl⟩⟩))
        go_meet
        case rel => exact ⟨_, (true), sr, H', ⟨by first | omega | exact Nat.le_refl _⟩, ⟨below_later HB.out⟩⟩
    · replace c7 := Bool.eq_false_iff.mpr c7
      subst c7
      replace H := ifn Bool.false_ne_true H
      have H' := Aside0.mk H
      clear H
      go_wp2_with (first | ((with_reducible refine gate_callee (f := 76) rfl ?_); refine gl_ (some 19) Try.func76 #[.int .i64 a0] rfl ?_; (with_reducible refine (impl_TypeOk.calls a0 false _ A6.out).mono ?_); rintro e w' ⟨rfl, ⟨nd, rfl⟩⟩; refine ⟨_, rfl, ?_⟩))
      go_meet
      case rel => exact ⟨_, (true), sr, H', ⟨by first | omega | exact Nat.le_refl _⟩, ⟨below_later HB.out⟩⟩
  case rest =>
    clear HC5
    try clear c1
    obtain ⟨kq, x32_4, rfl, HA, HJ4, HB⟩ := hcut
    cases kq with
    | zero => exact absurd HA.out (by simp [impl_PlainRead.j0])
    | succ kj4 =>
      have H := HA.out
      clear HA
      simp only [impl_PlainRead.j0] at H
      by_cases c11 : x32_4 = true
      · subst c11
        replace H := ifp rfl H
        simp only [Option.some.injEq, Prod.mk.injEq] at H
        obtain ⟨rfl, rfl, rfl⟩ := H
        go_wp2
        go_ret3
        exact ⟨_, by first | rfl | (simp [errW_none, errW_some] <;> rfl) | (simp [*, errW_none, errW_some] <;> rfl), by first | exact Kd.R_nil _ _ _ _ _ | exact Kd.N_nil _ _ _ _ _ | exact Kd.V_nil _ _ _ _ _ | exact Kd.Q_nil _ _ _ _ _ | exact Kd.S_nil _ _ _ _ _, below_later HB.out⟩
      · replace c11 := Bool.eq_false_iff.mpr c11
        subst c11
        replace H := ifn Bool.false_ne_true H
        by_cases c12 : a0 = 0
        · rw [if_pos c12] at H
          have c12b0 : (a0 == 0) = true := beq_iff_eq.mpr c12
          have c12b1 : (a0 != 0) = false := bne_eq_false_iff_eq.mpr c12
          clear c12
          replace H := Option.bind_eq_some_iff.mp H
          obtain ⟨⟨t413, t414, t415⟩, A130, H⟩ := H
          replace H : ((impl_valsOf.f kj4 t413).bind fun t418 => (some (t418, t414, t415))) = some (r1, r2, r3) := H
          have A13 := Aside0.mk A130
          clear A130
          replace H := bnd H
          obtain ⟨t418, A14, H⟩ := H
          simp only [Option.some.injEq, Prod.mk.injEq] at H
          obtain ⟨rfl, rfl, rfl⟩ := H
          go_wp2_with (first | ((with_reducible refine gate_callee (f := 92) rfl ?_); refine gl_ (some 39) Try.func92 #[.slice A1 l1.length c1, .int .i64 a2, .int .i64 a3, .int .i64 1] rfl ?_; (with_reducible refine (impl_BitsRead.calls kj4 _ _ l1 a2 a3 1 t413 t414 t415 _ ?side1 ?side2 A13.out).mono ?_); (case side1 => repeat (first | exact (Kd.C_below HR1.out HB.out) | (with_reducible refine Kd.C_alloc ?_ _) | (with_reducible refine Kd.C_drewN ?_ _) | (with_reducible refine Kd.C_drew ?_))); (case side2 => exact HC1.out); rintro e w15 ⟨v416, rfl, ho0, hb⟩; refine ⟨_, rfl, ?_⟩; have HO417 := Aside0.mk (Kd.R_lower ho0 (below_size (below_later HB.out))); replace HB := bst HB hb; (try clear hb); (try clear ho0); obtain ⟨Ao16, co16, eo16⟩ := Kd.R_slice HO417.out; subst eo16) | ((with_reducible refine gate_callee (f := 93) rfl ?_); refine gl_ (some 44) Try.func93 #[.slice Ao16 t413.length co16] rfl ?_; (with_reducible refine (impl_valsOf.calls kj4 _ _ t413 t418 _ ?side1 ?side2 A14.out).mono ?_); (case side1 => repeat (first | exact (Kd.R_reads' HO417.out).2.2 | (with_reducible refine Kd.C_alloc ?_ _) | (with_reducible refine Kd.C_drewN ?_ _) | (with_reducible refine Kd.C_drew ?_))); (case side2 => exact (Kd.R_reads' HO417.out).2.1); rintro e w17 ⟨v419, rfl, ho0, hb⟩; refine ⟨_, rfl, ?_⟩; have HO420 := Aside0.mk (Kd.R_lower ho0 (below_size (below_later HB.out))); replace HO417 := Aside0.mk (Kd.R_below (R_later HO417.out) hb); replace HB := bst HB hb; (try clear hb); (try clear ho0)))
          go_ret3
          exact ⟨_, by first | rfl | (simp [errW_none, errW_some] <;> rfl) | (simp [*, errW_none, errW_some] <;> rfl), by (with_reducible repeat (first | apply Kd.R_alloc | apply Kd.R_drewN | apply Kd.R_drew)); exact HO420.out, below_later HB.out⟩
        · rw [if_neg c12] at H
          have c12b0 : (a0 == 0) = false := beq_eq_false_iff_ne.mpr c12
          have c12b1 : (a0 != 0) = true := bne_iff_ne.mpr c12
          obtain ⟨y421, hy421⟩ : ∃ y_ : List (S27), y_ = (([] : List (S27))) := ⟨_, rfl⟩
          replace H : (impl_PlainRead.l0 kj4 a0 l1 a2 y421 a3 0) = some (r1, r2, r3) := by first | (rw [hy421]; with_reducible exact H) | (rw [hy421]; exact H) | exact H
          have Ny421 := Aside0.mk hy421
          clear hy421
          have H' := Aside0.mk H
          clear H
          go_wp2_with (first | ((with_reducible refine gate_dst (N := 47) rfl ?_); (try (refine gate_guard (by rfl) ?_; dsimp only)); refine Kd.R_lit k27 _ 27 ?hg (N := 47) ?hd (xs := ([] : List (S27))) (inner := []) (ok := fun _ => True) (okp := fun _ => True) ?hr ?hp (fun _ hk => hk) trivial (Below.refl _ _) (Nat.le_refl _) (by simp) ?_; (case hd => rfl); (case hg => rfl); (case hr => first | (go_simp; done) | (go_simp; rfl)); (case hp => exact (Reps.none _ _)); intro v422 w18 ho19 hb hg_ hnew_; clear hg_ hnew_; (first | rw [← Ny421.out] at ho19 | (simp only [Int.reduceToNat] at ho19; rw [← Ny421.out] at ho19)); have HO423 := Aside0.mk (Kd.R_lower ho19 (below_size (below_later HB.out))); replace HB := bst HB hb; clear hb ho19))
          go_loopg [2, 14, 49] kj4 (fun kq v2 v14 v49 w' => ∃ (x2_2 : Int) (x14_2 : List (S27)) (x49_2 : Int), v2 = .int .i64 x2_2 ∧ v49 = .int .i64 x49_2 ∧ Aside0 (impl_PlainRead.l0 kq a0 l1 x2_2 x14_2 a3 x49_2 = some (r1, r2, r3)) ∧ Aside0 (kq ≤ kj4) ∧ Aside0 (Kd.R k27 27 w' w.heap.size (fun _ => True) v14 x14_2) ∧ Aside0 (Below w.heap.size w w'))
          case atStart => exact ⟨(a2), (y421), (0), sr, sr, H', ⟨Nat.le_refl _⟩, ⟨R_later HO423.out⟩, ⟨below_later HB.out⟩⟩
          case round =>
            clear H'
            try clear c1
            try clear c11
            try clear c12
            try clear c12b0
            try clear c12b1
            obtain ⟨x2_2, x14_2, x49_2, rfl, rfl, HA, HK2, HO_14, HB⟩ := hrel
            cases gk with
            | zero => exact absurd HA.out (by simp [impl_PlainRead.l0])
            | succ k2 =>
              have H := HA.out
              clear HA
              simp only [impl_PlainRead.l0] at H
              by_cases c20 : x49_2 < a3
              · rw [if_pos c20] at H
                have c20b0 := decide_eq_true c20
                clear c20
                replace H := Option.bind_eq_some_iff.mp H
                obtain ⟨⟨t424, t425, t426, t427⟩, A210, H⟩ := H
                replace H : (if t427 = true then (if x14_2.length < 5864062014805 then (impl_PlainRead.l0 k2 a0 l1 t426 (x14_2 ++ [(⟨t424, t425⟩ : S27)]) a3 (wrap64 (x49_2 + 1))) else (none)) else (some (([] : List (S27)), 0, false))) = some (r1, r2, r3) := H
                have A21 := Aside0.mk A210
                clear A210
                by_cases c22 : t427 = true
                · subst c22
                  replace H := ifp rfl H
                  replace H := ifs H
                  obtain ⟨c23, H⟩ := H
                  have LMc23 := Aside0.mk c23
                  clear c23
                  obtain ⟨y429, hy429⟩ : ∃ y_ : List (S27), y_ = (x14_2 ++ [(⟨t424, t425⟩ : S27)]) := ⟨_, rfl⟩
                  replace H : (impl_PlainRead.l0 k2 a0 l1 t426 y429 a3 (wrap64 (x49_2 + 1))) = some (r1, r2, r3) := by first | (rw [hy429]; with_reducible exact H) | (rw [hy429]; exact H) | exact H
                  have Ny429 := Aside0.mk hy429
                  clear hy429
                  have H' := Aside0.mk H
                  clear H
                  go_wp2_with (first | ((with_reducible refine gate_callee (f := 94) rfl ?_); refine gl_ (some 55) Try.func94 #[.int .i64 a0, .slice A1 l1.length c1, .int .i64 x2_2] rfl ?_; (with_reducible refine (impl_plainOne.calls k2 a0 _ _ l1 x2_2 t424 t425 t426 true _ ?side1 ?side2 A21.out).mono ?_); (case side1 => repeat (first | exact (Kd.C_below HR1.out HB.out) | (with_reducible refine Kd.C_alloc ?_ _) | (with_reducible refine Kd.C_drewN ?_ _) | (with_reducible refine Kd.C_drew ?_))); (case side2 => exact HC1.out); rintro e w24 ⟨rfl, hb⟩; refine ⟨_, rfl, ?_⟩; replace HO_14 := Aside0.mk (Kd.R_below (R_later HO_14.out) hb); replace HB := bst HB hb; (try clear hb); (try clear hk)) | ((with_reducible refine gate_dst (N := 15) rfl ?_); (try (refine gate_guard (by rfl) ?_; dsimp only)); refine bx_ 15 #[.int .i64 0, .string (⟨#[]⟩ : ByteArray)] 27 ?_; intro gb428 hg w25 hbox hb; have BK428 := Aside0.mk (hbox); have GW428 := gwe HB hg; have GE428 := GW428; replace HO_14 := Aside0.mk (Kd.R_below (Kd.R_elderB (R_later HO_14.out) gb428 (Nat.le_of_eq hg.symm)) hb); replace HB := bst HB hb; clear hb hbox hg; obtain ⟨hcz26_0, hcz26_1, hfz26_0, hfz26_1⟩ := cl2 BK428) | ((with_reducible refine gate_builtin (b := .append) (xs := #[.tmp 61, .tmp 63]) rfl ?_); (try (refine gate_guard (by rfl) ?_; dsimp only)); at_builtin; refine Kd.R_append k27 (w0 := w) w.heap.size rfl (.tmp 61) (.tmp 63) 44 27 (.agg #[(.int .i64 0), (.string ⟨#[]⟩)]) 24 rfl Try.underlying44 info27 rfl (by decide) (by omega) u14 x14_2 (⟨t424, t425⟩ : S27) [.int .i64 t424, .string t425] (fun k_ => k_ ≠ gb428) (fun _ => False) rfl (by first | (go_simp; done) | (go_simp; rfl)) ?aP (fun _ hk => hk.elim) ?aF ?aO ?aB ?aS ?aL ?_; (case aP => exact k27_mkM _ _ _ (⟨t424, t425⟩ : S27)); (case aB => exact (below_later HB.out)); (case aF => exact (fun k_ hk => Kd.freshB (g := gb428) (o := .cells #[.int .i64 t424, .string t425] 27 (0, 0)) (blk_later BK428.out) k_ hk)); (case aO => exact (by (with_reducible repeat (first | apply Kd.R_alloc | apply Kd.R_drewN | apply Kd.R_drew)); exact Kd.R_mono (Kd.R_far (p := ⟨gb428, 1, none⟩) (Kd.R_far (p := ⟨gb428, 0, none⟩) (Kd.R_mono HO_14.out (fun k_ hk => (⟨hk, hk.2⟩ : _ ∧ k_ ≠ gb428))) (fun _ hk => hk.2) (.int .i64 t424)) (fun _ hk => hk.2) (.string t425)) (fun _ hk => hk.1.2))); (case aS => exact (below_size (below_later HB.out))); (case aL => have := LMc23.out; omega); intro v430 w27 ho hb hg hat; rw [← Ny429.out] at ho; have n0_ := Aside0.mk (blk_grown (g := gb428) (o := .cells #[.int .i64 t424, .string t425] 27 (0, 0)) (blk_later BK428.out) hg (Kd.R_away HO_14.out (fun _ hk => hk.2))); have n1_ := Aside0.mk (hb); have n2_ := Aside0.mk (ho); clear BK428; clear HB; clear HO_14; have BK428 := n0_; have HB := n1_; have HO431 := n2_; clear n0_ n1_ n2_; clear ho hb hg hat))
                  go_roundg k2
                  case measure => have := HJ4.out; have := HK2.out; omega
                  case rel => exact ⟨(t426), (y429), (wrap64 (x49_2 + 1)), sr, sr, H', ⟨by have := HJ4.out; have := HK2.out; omega⟩, ⟨R_later (Kd.R_mono HO431.out (fun _ hk => trivial))⟩, ⟨below_later HB.out⟩⟩
                · replace c22 := Bool.eq_false_iff.mpr c22
                  subst c22
                  replace H := ifn Bool.false_ne_true H
                  simp only [Option.some.injEq, Prod.mk.injEq] at H
                  obtain ⟨rfl, rfl, rfl⟩ := H
                  go_wp2_with (first | ((with_reducible refine gate_callee (f := 94) rfl ?_); refine gl_ (some 55) Try.func94 #[.int .i64 a0, .slice A1 l1.length c1, .int .i64 x2_2] rfl ?_; (with_reducible refine (impl_plainOne.calls k2 a0 _ _ l1 x2_2 t424 t425 t426 false _ ?side1 ?side2 A21.out).mono ?_); (case side1 => repeat (first | exact (Kd.C_below HR1.out HB.out) | (with_reducible refine Kd.C_alloc ?_ _) | (with_reducible refine Kd.C_drewN ?_ _) | (with_reducible refine Kd.C_drew ?_))); (case side2 => exact HC1.out); rintro e w28 ⟨rfl, hb⟩; refine ⟨_, rfl, ?_⟩; replace HO_14 := Aside0.mk (Kd.R_below (R_later HO_14.out) hb); replace HB := bst HB hb; (try clear hb)) | ((with_reducible refine gate_dst (N := 15) rfl ?_); (try (refine gate_guard (by rfl) ?_; dsimp only)); refine bx_ 15 #[.int .i64 0, .string (⟨#[]⟩ : ByteArray)] 27 ?_; intro gb428 hg w29 hbox hb; have BK428 := Aside0.mk (hbox); have GW428 := gwe HB hg; have GE428 := GW428; replace HO_14 := Aside0.mk (Kd.R_below (Kd.R_elderB (R_later HO_14.out) gb428 (Nat.le_of_eq hg.symm)) hb); replace HB := bst HB hb; clear hb hbox hg; obtain ⟨hcz30_0, hcz30_1, hfz30_0, hfz30_1⟩ := cl2 BK428))
                  go_ret3
                  exact ⟨_, by first | rfl | (simp [errW_none, errW_some] <;> rfl) | (simp [*, errW_none, errW_some] <;> rfl), by first | exact Kd.R_nil _ _ _ _ _ | exact Kd.N_nil _ _ _ _ _ | exact Kd.V_nil _ _ _ _ _ | exact Kd.Q_nil _ _ _ _ _ | exact Kd.S_nil _ _ _ _ _, below_later HB.out⟩
              · rw [if_neg c20] at H
                have c20b0 := decide_eq_false c20
                clear c20
                simp only [Option.some.injEq, Prod.mk.injEq] at H
                obtain ⟨rfl, rfl, rfl⟩ := H
                go_wp2
                go_ret3
                exact ⟨_, by first | rfl | (simp [errW_none, errW_some] <;> rfl) | (simp [*, errW_none, errW_some] <;> rfl), by (with_reducible repeat (first | apply Kd.R_alloc | apply Kd.R_drewN | apply Kd.R_drew)); exact HO_14.out, below_later HB.out⟩

/-! ### impl_valsOk: function 61 -/
def impl_valsOk.l0 : Nat → Int → List (S27) → List (S27) → Int → Int → Option (Bool)
  | 0, _, _, _, _, _ => none
  | k + 1, x0, x1, x7, x8, x9 => if x9 < x8 then (if 0 ≤ x9 then (if x9 < (x7.length : Int) then ((impl_ValOk.f x0 ((rd_T27 x7 x9).f0) ((rd_T27 x7 x9).f1)).bind fun t434 => (if t434 = true then (impl_valsOk.l0 k x0 x1 x7 x8 (wrap64 (x9 + 1))) else (some false))) else (none)) else (none)) else (if (x1.length : Int) ≤ 2000 then ((impl_TypeOk.f x0).bind fun t435 => (some t435)) else (some false))
def impl_valsOk.f (k : Nat) (a0 : Int) (l1 : List (S27)) : Option (Bool) := impl_valsOk.l0 k a0 l1 l1 (l1.length : Int) 0
set_option maxHeartbeats 8000000 in
set_option maxRecDepth 100000 in
theorem impl_valsOk.calls (k : Nat) (a0 : Int) (A1 : Option Addr) (c1 : Nat) (l1 : List (S27)) (r : Bool) (w : World) (hr1 : Kd.C k27 w A1 l1.length l1) (hc1 : l1.length ≤ c1) (h : impl_valsOk.f k a0 l1 = some r) :
    Calls Try.prog 61 #[.int .i64 a0, .slice A1 l1.length c1] w fun e w' => e = .returned (.bool r) ∧ Below w.heap.size w w' := by
  have hu27 := Try.underlying27
  have HR1 := Aside0.mk hr1
  have HC1 := Aside0.mk hc1
  clear hr1 hc1
  have HB := Aside0.mk (Below.refl w.heap.size w)
  have H : (impl_valsOk.l0 k a0 l1 l1 (l1.length : Int) 0) = some r := h
  clear h
  have H' := Aside0.mk H
  clear H
  go_enter Try.func61, Try.ntmps61
  go_wp2
  go_loopg [9] k (fun kq v9 w' => ∃ (x9_1 : Int), v9 = .int .i64 x9_1 ∧ Aside0 (impl_valsOk.l0 kq a0 l1 l1 (l1.length : Int) x9_1 = some r) ∧ Aside0 (kq ≤ k) ∧ Aside0 (Below w.heap.size w w'))
  case atStart => exact ⟨(0), sr, H', ⟨Nat.le_refl _⟩, ⟨below_later HB.out⟩⟩
  case round =>
    clear H'
    try clear c1
    obtain ⟨x9_1, rfl, HA, HK1, HB⟩ := hrel
    cases gk with
    | zero => exact absurd HA.out (by simp [impl_valsOk.l0])
    | succ k1 =>
      have H := HA.out
      clear HA
      simp only [impl_valsOk.l0] at H
      by_cases c3 : x9_1 < (l1.length : Int)
      · rw [if_pos c3] at H
        have c3b0 := decide_eq_true c3
        clear c3
        replace H := ifd H
        obtain ⟨c4b0, H⟩ := H
        replace H := ifd H
        obtain ⟨c5b0, H⟩ := H
        replace H := bnd H
        obtain ⟨t434, A6, H⟩ := H
        by_cases c7 : t434 = true
        · subst c7
          replace H := ifp rfl H
          have H' := Aside0.mk H
          clear H
          have p432 : 0 ≤ (x9_1 : Int) := dcd
          have q432 : x9_1 < (l1.length : Int) := dcd
          obtain ⟨ad432, e432, hx432_0, hx432_1⟩ := at_T27 HR1.out x9_1 p432 q432
          cases e432
          replace hx432_0 := crd HB hx432_0
          replace hx432_1 := crd HB hx432_1
          replace p432 := eq_true p432
          replace q432 := eq_true q432
          go_wp2_with (first | ((with_reducible refine gate_dst (N := 6) rfl ?_); refine bx_ 6 #[.int .i64 0, .string (⟨#[]⟩ : ByteArray)] 27 ?_; intro gb433 hg w8 hbox hb; have BK433 := Aside0.mk (hbox); have GW433 := gwe HB hg; have GE433 := GW433; replace HB := bst HB hb; clear hb hbox hg; obtain ⟨hcz9_0, hcz9_1, hfz9_0, hfz9_1⟩ := cl2 BK433) | ((with_reducible refine gate_callee (f := 77) rfl ?_); refine gl_ (some 15) Try.func77 #[.int .i64 a0, .agg #[.int .i64 ((rd_T27 l1 x9_1).f0), .string ((rd_T27 l1 x9_1).f1)]] rfl ?_; (with_reducible refine (impl_ValOk.calls a0 ((rd_T27 l1 x9_1).f0) ((rd_T27 l1 x9_1).f1) true _ A6.out).mono ?_); rintro e w10 ⟨rfl, hb⟩; refine ⟨_, rfl, ?_⟩; replace BK433 := Aside0.mk (blk_below (g := gb433) (o := .cells #[.int .i64 ((rd_T27 l1 x9_1).f0), .string ((rd_T27 l1 x9_1).f1)] 27 (0, 0)) (blk_later BK433.out) hb); replace HB := bst HB hb; (try clear hb)))
          go_roundg k1
          case measure => have := HK1.out; omega
          case rel => exact ⟨(wrap64 (x9_1 + 1)), sr, H', ⟨by have := HK1.out; omega⟩, ⟨below_later HB.out⟩⟩
        · replace c7 := Bool.eq_false_iff.mpr c7
          subst c7
          replace H := ifn Bool.false_ne_true H
          obtain rfl := Option.some.inj H
          have p432 : 0 ≤ (x9_1 : Int) := dcd
          have q432 : x9_1 < (l1.length : Int) := dcd
          obtain ⟨ad432, e432, hx432_0, hx432_1⟩ := at_T27 HR1.out x9_1 p432 q432
          cases e432
          replace hx432_0 := crd HB hx432_0
          replace hx432_1 := crd HB hx432_1
          replace p432 := eq_true p432
          replace q432 := eq_true q432
          go_wp2_with (first | ((with_reducible refine gate_dst (N := 6) rfl ?_); refine bx_ 6 #[.int .i64 0, .string (⟨#[]⟩ : ByteArray)] 27 ?_; intro gb433 hg w11 hbox hb; have BK433 := Aside0.mk (hbox); have GW433 := gwe HB hg; have GE433 := GW433; replace HB := bst HB hb; clear hb hbox hg; obtain ⟨hcz12_0, hcz12_1, hfz12_0, hfz12_1⟩ := cl2 BK433) | ((with_reducible refine gate_callee (f := 77) rfl ?_); refine gl_ (some 15) Try.func77 #[.int .i64 a0, .agg #[.int .i64 ((rd_T27 l1 x9_1).f0), .string ((rd_T27 l1 x9_1).f1)]] rfl ?_; (with_reducible refine (impl_ValOk.calls a0 ((rd_T27 l1 x9_1).f0) ((rd_T27 l1 x9_1).f1) false _ A6.out).mono ?_); rintro e w13 ⟨rfl, hb⟩; refine ⟨_, rfl, ?_⟩; replace BK433 := Aside0.mk (blk_below (g := gb433) (o := .cells #[.int .i64 ((rd_T27 l1 x9_1).f0), .string ((rd_T27 l1 x9_1).f1)] 27 (0, 0)) (blk_later BK433.out) hb); replace HB := bst HB hb; (try clear hb)))
          go_ret
          exact fin_ (below_later HB.out)
      · rw [if_neg c3] at H
        have c3b0 := decide_eq_false c3
        clear c3
        by_cases c14 : (l1.length : Int) ≤ 2000
        · rw [if_pos c14] at H
          have c14b0 := decide_eq_true c14
          have c14b1 : decide (l1.length ≤ 2000) = true := decide_eq_true (by omega)
          clear c14
          replace H := bnd H
          obtain ⟨t435, A15, H⟩ := H
          obtain rfl := Option.some.inj H
          go_wp2_with (first | (go_at_call 76; (with_reducible refine (impl_TypeOk.calls a0 t435 _ A15.out).mono ?_); rintro e w' ⟨rfl, ⟨nd, rfl⟩⟩))
          go_ret
          exact fin_ (below_later HB.out)
        · rw [if_neg c14] at H
          have c14b0 := decide_eq_false c14
          have c14b1 : decide (l1.length ≤ 2000) = false := decide_eq_false (by omega)
          clear c14
          obtain rfl := Option.some.inj H
          go_wp2
          go_ret
          exact fin_ (below_later HB.out)

end Go.Proofs.Ytgiljoeekpfpmaa.PFnExactStatsFrom
