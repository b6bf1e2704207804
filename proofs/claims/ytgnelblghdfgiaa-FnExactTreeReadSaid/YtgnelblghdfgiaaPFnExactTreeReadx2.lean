/- The machine's side of FnExactTreeRead, written by wip/tools/hyb.py of this repo: each Go function as a plain Lean function, and the proof that the call comes to just its answer. No condition. -/
import Derived.Test.YtgnelblghdfgiaaPFnExactTreeReadx0
import Derived.Test.YtgnelblghdfgiaaPFnExactTreeReadx1
namespace Go.Proofs.Ytgnelblghdfgiaa.PFnExactTreeRead
open Go.RowKit Go.Proofs.YtgnelblghdfgiaaW.PrintWords Go.Proofs.YtgnelblghdfgiaaW.PrintLast Go.Proofs.YtgnelblghdfgiaaW.PrintMore Go.Proofs.YtgnelblghdfgiaaW.PrintMore2
attribute [local go_sem] max2_int min2_int max_two min_two max_three min_three max_four min_four   -- for this text's walks alone
set_option linter.unusedVariables false
set_option linter.unusedSimpArgs false

/-! ### spec_l4Head: function 21 -/
def spec_l4Head.j0 : Nat → Int → Int → Int → Int → Option (Int × Int × Int × Int)
  | 0, _, _, _, _ => none
  | k + 1, x1, x2, x10, x12 => (spec_l1In.f x12 1 1000).bind fun t127 => (if t127 = true then (if x12 ≤ x2 then (some (0, 0, 0, 5)) else (some (x10, x12, x1, 0))) else (some (0, 0, 0, 3)))
def spec_l4Head.f (k : Nat) (l0 : List Int) (a1 : Int) (a2 : Int) : Option (Int × Int × Int × Int) := if a1 ≥ (l0.length : Int) then (some (0, 0, 0, 1)) else (if 0 ≤ a1 then (if a1 < (l0.length : Int) then (if (rd l0 a1) = 0 then (some (0, 0, wrap64 (a1 + 1), 0)) else ((spec_l4Kind.f (Int.tmod (wrap64 (rd l0 a1)) 16)).bind fun t123 => (if t123 = true then (if (wrap64 (Int.tdiv (wrap64 (rd l0 a1)) 16)) = 0 then ((spec_ZigGet.f k l0 (wrap64 (a1 + 1))).bind fun bt124 => (if bt124.2.2 = true then (spec_l4Head.j0 k bt124.2.1 a2 (Int.tmod (wrap64 (rd l0 a1)) 16) bt124.1) else (some (0, 0, 0, 1)))) else (spec_l4Head.j0 k (wrap64 (a1 + 1)) a2 (Int.tmod (wrap64 (rd l0 a1)) 16) (wrap64 (a2 + (wrap64 (Int.tdiv (wrap64 (rd l0 a1)) 16)))))) else (some (0, 0, 0, 2))))) else (none)) else (none))
set_option maxHeartbeats 8000000 in
set_option maxRecDepth 100000 in
theorem spec_l4Head.calls (k : Nat) (A0 : Option Addr) (c0 : Nat) (l0 : List Int) (a1 : Int) (a2 : Int) (r1 : Int) (r2 : Int) (r3 : Int) (r4 : Int) (w : World) (hr0 : Kd.C (Kd.int .u8) w A0 l0.length l0) (hc0 : l0.length ≤ c0) (h : spec_l4Head.f k l0 a1 a2 = some (r1, r2, r3, r4)) :
    Calls Try.prog 21 #[.slice A0 l0.length c0, .int .i64 a1, .int .i64 a2] w fun e w' => e = .returned (.tuple #[.int .i64 r1, .int .i64 r2, .int .i64 r3, .int .i64 r4]) ∧ Drawn0 w w' := by
  have HR0 := Aside0.mk hr0
  have HC0 := Aside0.mk hc0
  clear hr0 hc0
  have H : (if a1 ≥ (l0.length : Int) then (some (0, 0, 0, 1)) else (if 0 ≤ a1 then (if a1 < (l0.length : Int) then (if (rd l0 a1) = 0 then (some (0, 0, wrap64 (a1 + 1), 0)) else ((spec_l4Kind.f (Int.tmod (wrap64 (rd l0 a1)) 16)).bind fun t123 => (if t123 = true then (if (wrap64 (Int.tdiv (wrap64 (rd l0 a1)) 16)) = 0 then ((spec_ZigGet.f k l0 (wrap64 (a1 + 1))).bind fun bt124 => (if bt124.2.2 = true then (spec_l4Head.j0 k bt124.2.1 a2 (Int.tmod (wrap64 (rd l0 a1)) 16) bt124.1) else (some (0, 0, 0, 1)))) else (spec_l4Head.j0 k (wrap64 (a1 + 1)) a2 (Int.tmod (wrap64 (rd l0 a1)) 16) (wrap64 (a2 + (wrap64 (Int.tdiv (wrap64 (rd l0 a1)) 16)))))) else (some (0, 0, 0, 2))))) else (none)) else (none))) = some (r1, r2, r3, r4) := h
  clear h
  by_cases c4 : a1 ≥ (l0.length : Int)
  · rw [if_pos c4] at H
    have c4b0 : decide ((l0.length : Int) ≤ a1) = true := decide_eq_true c4
    clear c4
    simp only [Option.some.injEq, Prod.mk.injEq] at H
    obtain ⟨rfl, rfl, rfl, rfl⟩ := H
    go_enter Try.func21, Try.ntmps21
    go_wp2
    repeat (go_quiet (fail); try go_wp2)
    refine bodyPost_ret (results_list (rs := [.tmp 6, .tmp 7, .tmp 8, .tmp 9]) rfl (by simp) (.tmp (.tmp (.tmp (.tmp .nil))))) rfl ?_
    exact ⟨by first | rfl | (simp; done) | (simp [*]; done), by repeat (first | exact Drawn0.refl _ | apply Drawn0.step)⟩
  · rw [if_neg c4] at H
    have c4b0 : decide ((l0.length : Int) ≤ a1) = false := decide_eq_false c4
    clear c4
    replace H := ifd H
    obtain ⟨c5b0, H⟩ := H
    replace H := ifd H
    obtain ⟨c6b0, H⟩ := H
    by_cases c7 : (rd l0 a1) = 0
    · rw [if_pos c7] at H
      have c7b0 : ((rd l0 a1) == 0) = true := beq_iff_eq.mpr c7
      have c7b1 : ((rd l0 a1) != 0) = false := bne_eq_false_iff_eq.mpr c7
      clear c7
      simp only [Option.some.injEq, Prod.mk.injEq] at H
      obtain ⟨rfl, rfl, rfl, rfl⟩ := H
      have p120 : 0 ≤ (a1 : Int) := dcd
      have q120 : a1 < (l0.length : Int) := dcd
      obtain ⟨ad120, e120, hx120_0⟩ := Kd.at_int HR0.out a1 p120 q120
      cases e120
      replace p120 := eq_true p120
      replace q120 := eq_true q120
      have p121 : 0 ≤ (a1 : Int) := dcd
      have q121 : a1 < (l0.length : Int) := dcd
      obtain ⟨ad121, e121, hx121_0⟩ := Kd.at_int HR0.out a1 p121 q121
      obtain rfl : ad120 = ad121 := (by injection e121)
      replace p121 := eq_true p121
      replace q121 := eq_true q121
      have p122 : 0 ≤ (a1 : Int) := dcd
      have q122 : a1 < (l0.length : Int) := dcd
      obtain ⟨ad122, e122, hx122_0⟩ := Kd.at_int HR0.out a1 p122 q122
      obtain rfl : ad120 = ad122 := (by injection e122)
      replace p122 := eq_true p122
      replace q122 := eq_true q122
      go_enter Try.func21, Try.ntmps21
      go_wp2
      repeat (go_quiet (fail); try go_wp2)
      refine bodyPost_ret (results_list (rs := [.tmp 6, .tmp 7, .tmp 8, .tmp 9]) rfl (by simp) (.tmp (.tmp (.tmp (.tmp .nil))))) rfl ?_
      exact ⟨by first | rfl | (simp; done) | (simp [*]; done), by repeat (first | exact Drawn0.refl _ | apply Drawn0.step)⟩
    · rw [if_neg c7] at H
      have c7b0 : ((rd l0 a1) == 0) = false := beq_eq_false_iff_ne.mpr c7
      have c7b1 : ((rd l0 a1) != 0) = true := bne_iff_ne.mpr c7
      replace H := bnd H
      obtain ⟨t123, A8, H⟩ := H
      by_cases c9 : t123 = true
      · subst c9
        replace H := ifp rfl H
        have HC10 := Aside0.mk H
        clear H
        have p120 : 0 ≤ (a1 : Int) := dcd
        have q120 : a1 < (l0.length : Int) := dcd
        obtain ⟨ad120, e120, hx120_0⟩ := Kd.at_int HR0.out a1 p120 q120
        cases e120
        replace p120 := eq_true p120
        replace q120 := eq_true q120
        have p121 : 0 ≤ (a1 : Int) := dcd
        have q121 : a1 < (l0.length : Int) := dcd
        obtain ⟨ad121, e121, hx121_0⟩ := Kd.at_int HR0.out a1 p121 q121
        obtain rfl : ad120 = ad121 := (by injection e121)
        replace p121 := eq_true p121
        replace q121 := eq_true q121
        have p122 : 0 ≤ (a1 : Int) := dcd
        have q122 : a1 < (l0.length : Int) := dcd
        obtain ⟨ad122, e122, hx122_0⟩ := Kd.at_int HR0.out a1 p122 q122
        obtain rfl : ad120 = ad122 := (by injection e122)
        replace p122 := eq_true p122
        replace q122 := eq_true q122
        go_enter Try.func21, Try.ntmps21
        go_upto_if 48 with (first | (go_at_call 34; (with_reducible refine (spec_l4Kind.calls (Int.tmod (wrap64 (rd l0 a1)) 16) true _ A8.out).mono ?_); rintro e w' ⟨rfl, ⟨nd, rfl⟩⟩; (try first | exact ⟨rfl, _, World.drewN_drewN _ _ _⟩ | exact ⟨rfl, _, Eq.trans (World.drewN_drewN _ _ _) (congrArg (World.drewN _) (Nat.add_assoc _ _ _))⟩)))
        repeat (go_quiet (first | (go_at_call 34; (with_reducible refine (spec_l4Kind.calls (Int.tmod (wrap64 (rd l0 a1)) 16) true _ A8.out).mono ?_); rintro e w' ⟨rfl, ⟨nd, rfl⟩⟩; (try first | exact ⟨rfl, _, World.drewN_drewN _ _ _⟩ | exact ⟨rfl, _, Eq.trans (World.drewN_drewN _ _ _) (congrArg (World.drewN _) (Nat.add_assoc _ _ _))⟩))); go_upto_if 48 with (first | (go_at_call 34; (with_reducible refine (spec_l4Kind.calls (Int.tmod (wrap64 (rd l0 a1)) 16) true _ A8.out).mono ?_); rintro e w' ⟨rfl, ⟨nd, rfl⟩⟩; (try first | exact ⟨rfl, _, World.drewN_drewN _ _ _⟩ | exact ⟨rfl, _, Eq.trans (World.drewN_drewN _ _ _) (congrArg (World.drewN _) (Nat.add_assoc _ _ _))⟩))))
        (try simp only [Act.put, List.setIfInBounds_toArray, List.set_cons_zero, List.set_cons_succ])
        go_cut [1, 12] (fun v1 v12 wc => ∃ (kq : Nat) (x1_9 : Int) (x12_9 : Int), v1 = .int .i64 x1_9 ∧ v12 = .int .i64 x12_9 ∧ Aside0 (spec_l4Head.j0 kq x1_9 a2 (Int.tmod (wrap64 (rd l0 a1)) 16) x12_9 = some (r1, r2, r3, r4)) ∧ Aside0 (kq ≤ k) ∧ Drawn0 w wc)
        case first =>
          have H := HC10.out
          clear HC10
          by_cases c11 : (wrap64 (Int.tdiv (wrap64 (rd l0 a1)) 16)) = 0
          · rw [if_pos c11] at H
            have c11b0 : ((wrap64 (Int.tdiv (wrap64 (rd l0 a1)) 16)) == 0) = true := beq_iff_eq.mpr c11
            have c11b1 : ((wrap64 (Int.tdiv (wrap64 (rd l0 a1)) 16)) != 0) = false := bne_eq_false_iff_eq.mpr c11
            clear c11
            (first | rw [c11b0] | rw [c11b1] | (simp only [i64_w, i32_w]; rw [c11b0]) | skip)
            replace H := Option.bind_eq_some_iff.mp H
            obtain ⟨⟨t124, t125, t126⟩, A120, H⟩ := H
            replace H : (if t126 = true then (spec_l4Head.j0 k t125 a2 (Int.tmod (wrap64 (rd l0 a1)) 16) t124) else (some (0, 0, 0, 1))) = some (r1, r2, r3, r4) := H
            have A12 := Aside0.mk A120
            clear A120
            by_cases c13 : t126 = true
            · subst c13
              replace H := ifp rfl H
              have H' := Aside0.mk H
              clear H
              go_wp2_with (first | (go_at_call 17; (with_reducible refine (spec_ZigGet.calls k _ _ l0 (wrap64 (a1 + 1)) t124 t125 true _ ?side1 ?side2 A12.out).mono ?_); (case side1 => exact C_later HR0.out); (case side2 => exact HC0.out); rintro e w' ⟨rfl, ⟨nd, rfl⟩⟩; (try first | exact ⟨rfl, _, World.drewN_drewN _ _ _⟩ | exact ⟨rfl, _, Eq.trans (World.drewN_drewN _ _ _) (congrArg (World.drewN _) (Nat.add_assoc _ _ _))⟩)))
              repeat (go_quiet (first | (go_at_call 17; (with_reducible refine (spec_ZigGet.calls k _ _ l0 (wrap64 (a1 + 1)) t124 t125 true _ ?side1 ?side2 A12.out).mono ?_); (case side1 => exact C_later HR0.out); (case side2 => exact HC0.out); rintro e w' ⟨rfl, ⟨nd, rfl⟩⟩; (try first | exact ⟨rfl, _, World.drewN_drewN _ _ _⟩ | exact ⟨rfl, _, Eq.trans (World.drewN_drewN _ _ _) (congrArg (World.drewN _) (Nat.add_assoc _ _ _))⟩))); try go_wp2_with (first | (go_at_call 17; (with_reducible refine (spec_ZigGet.calls k _ _ l0 (wrap64 (a1 + 1)) t124 t125 true _ ?side1 ?side2 A12.out).mono ?_); (case side1 => exact C_later HR0.out); (case side2 => exact HC0.out); rintro e w' ⟨rfl, ⟨nd, rfl⟩⟩; (try first | exact ⟨rfl, _, World.drewN_drewN _ _ _⟩ | exact ⟨rfl, _, Eq.trans (World.drewN_drewN _ _ _) (congrArg (World.drewN _) (Nat.add_assoc _ _ _))⟩))))
              go_meet
              case rel => exact ⟨_, (t125), (t124), sr, sr, H', ⟨by first | omega | exact Nat.le_refl _⟩, by repeat (first | exact Drawn0.refl _ | apply Drawn0.step)⟩
            · replace c13 := Bool.eq_false_iff.mpr c13
              subst c13
              replace H := ifn Bool.false_ne_true H
              simp only [Option.some.injEq, Prod.mk.injEq] at H
              obtain ⟨rfl, rfl, rfl, rfl⟩ := H
              go_wp2_with (first | (go_at_call 17; (with_reducible refine (spec_ZigGet.calls k _ _ l0 (wrap64 (a1 + 1)) t124 t125 false _ ?side1 ?side2 A12.out).mono ?_); (case side1 => exact C_later HR0.out); (case side2 => exact HC0.out); rintro e w' ⟨rfl, ⟨nd, rfl⟩⟩; (try first | exact ⟨rfl, _, World.drewN_drewN _ _ _⟩ | exact ⟨rfl, _, Eq.trans (World.drewN_drewN _ _ _) (congrArg (World.drewN _) (Nat.add_assoc _ _ _))⟩)))
              repeat (go_quiet (first | (go_at_call 17; (with_reducible refine (spec_ZigGet.calls k _ _ l0 (wrap64 (a1 + 1)) t124 t125 false _ ?side1 ?side2 A12.out).mono ?_); (case side1 => exact C_later HR0.out); (case side2 => exact HC0.out); rintro e w' ⟨rfl, ⟨nd, rfl⟩⟩; (try first | exact ⟨rfl, _, World.drewN_drewN _ _ _⟩ | exact ⟨rfl, _, Eq.trans (World.drewN_drewN _ _ _) (congrArg (World.drewN _) (Nat.add_assoc _ _ _))⟩))); try go_wp2_with (first | (go_at_call 17; (with_reducible refine (spec_ZigGet.calls k _ _ l0 (wrap64 (a1 + 1)) t124 t125 false _ ?side1 ?side2 A12.out).mono ?_); (case side1 => exact C_later HR0.out); (case side2 => exact HC0.out); rintro e w' ⟨rfl, ⟨nd, rfl⟩⟩; (try first | exact ⟨rfl, _, World.drewN_drewN _ _ _⟩ | exact ⟨rfl, _, Eq.trans (World.drewN_drewN _ _ _) (congrArg (World.drewN _) (Nat.add_assoc _ _ _))⟩))))
              refine bodyPost_ret (results_list (rs := [.tmp 6, .tmp 7, .tmp 8, .tmp 9]) rfl (by simp) (.tmp (.tmp (.tmp (.tmp .nil))))) rfl ?_
              exact ⟨by first | rfl | (simp; done) | (simp [*]; done), by repeat (first | exact Drawn0.refl _ | apply Drawn0.step)⟩
          · rw [if_neg c11] at H
            have c11b0 : ((wrap64 (Int.tdiv (wrap64 (rd l0 a1)) 16)) == 0) = false := beq_eq_false_iff_ne.mpr c11
            have c11b1 : ((wrap64 (Int.tdiv (wrap64 (rd l0 a1)) 16)) != 0) = true := bne_iff_ne.mpr c11
            (first | rw [c11b0] | rw [c11b1] | (simp only [i64_w, i32_w]; rw [c11b0]) | skip)
            have H' := Aside0.mk H
            clear H
            go_wp2
            repeat (go_quiet (fail); try go_wp2)
            go_meet
            case rel => exact ⟨_, (wrap64 (a1 + 1)), (wrap64 (a2 + (wrap64 (Int.tdiv (wrap64 (rd l0 a1)) 16)))), sr, sr, H', ⟨by first | omega | exact Nat.le_refl _⟩, by repeat (first | exact Drawn0.refl _ | apply Drawn0.step)⟩
        case rest =>
          clear HC10
          try clear c4
          try clear c4b0
          try clear c5b0
          try clear c6b0
          try clear c7
          try clear c7b0
          try clear c7b1
          try clear c9
          try clear hx120_0
          try clear hx121_0
          try clear hx122_0
          try clear p120
          try clear p121
          try clear p122
          try clear q120
          try clear q121
          try clear q122
          obtain ⟨kq, x1_9, x12_9, rfl, rfl, HA, HJ9, ⟨mc9, rfl⟩⟩ := hcut
          cases kq with
          | zero => exact absurd HA.out (by simp [spec_l4Head.j0])
          | succ kj9 =>
            have H := HA.out
            clear HA
            simp only [spec_l4Head.j0] at H
            replace H := bnd H
            obtain ⟨t127, A14, H⟩ := H
            by_cases c15 : t127 = true
            · subst c15
              replace H := ifp rfl H
              by_cases c16 : x12_9 ≤ a2
              · rw [if_pos c16] at H
                have c16b0 := decide_eq_true c16
                clear c16
                simp only [Option.some.injEq, Prod.mk.injEq] at H
                obtain ⟨rfl, rfl, rfl, rfl⟩ := H
                go_wp2_with (first | (go_at_call 32; (with_reducible refine (spec_l1In.calls x12_9 1 1000 true _ A14.out).mono ?_); rintro e w' ⟨rfl, ⟨nd, rfl⟩⟩; (try first | exact ⟨rfl, _, World.drewN_drewN _ _ _⟩ | exact ⟨rfl, _, Eq.trans (World.drewN_drewN _ _ _) (congrArg (World.drewN _) (Nat.add_assoc _ _ _))⟩)))
                repeat (go_quiet (first | (go_at_call 32; (with_reducible refine (spec_l1In.calls x12_9 1 1000 true _ A14.out).mono ?_); rintro e w' ⟨rfl, ⟨nd, rfl⟩⟩; (try first | exact ⟨rfl, _, World.drewN_drewN _ _ _⟩ | exact ⟨rfl, _, Eq.trans (World.drewN_drewN _ _ _) (congrArg (World.drewN _) (Nat.add_assoc _ _ _))⟩))); try go_wp2_with (first | (go_at_call 32; (with_reducible refine (spec_l1In.calls x12_9 1 1000 true _ A14.out).mono ?_); rintro e w' ⟨rfl, ⟨nd, rfl⟩⟩; (try first | exact ⟨rfl, _, World.drewN_drewN _ _ _⟩ | exact ⟨rfl, _, Eq.trans (World.drewN_drewN _ _ _) (congrArg (World.drewN _) (Nat.add_assoc _ _ _))⟩))))
                refine bodyPost_ret (results_list (rs := [.tmp 6, .tmp 7, .tmp 8, .tmp 9]) rfl (by simp) (.tmp (.tmp (.tmp (.tmp .nil))))) rfl ?_
                exact ⟨by first | rfl | (simp; done) | (simp [*]; done), by repeat (first | exact Drawn0.refl _ | apply Drawn0.step)⟩
              · rw [if_neg c16] at H
                have c16b0 := decide_eq_false c16
                clear c16
                simp only [Option.some.injEq, Prod.mk.injEq] at H
                obtain ⟨rfl, rfl, rfl, rfl⟩ := H
                go_wp2_with (first | (go_at_call 32; (with_reducible refine (spec_l1In.calls x12_9 1 1000 true _ A14.out).mono ?_); rintro e w' ⟨rfl, ⟨nd, rfl⟩⟩; (try first | exact ⟨rfl, _, World.drewN_drewN _ _ _⟩ | exact ⟨rfl, _, Eq.trans (World.drewN_drewN _ _ _) (congrArg (World.drewN _) (Nat.add_assoc _ _ _))⟩)))
                repeat (go_quiet (first | (go_at_call 32; (with_reducible refine (spec_l1In.calls x12_9 1 1000 true _ A14.out).mono ?_); rintro e w' ⟨rfl, ⟨nd, rfl⟩⟩; (try first | exact ⟨rfl, _, World.drewN_drewN _ _ _⟩ | exact ⟨rfl, _, Eq.trans (World.drewN_drewN _ _ _) (congrArg (World.drewN _) (Nat.add_assoc _ _ _))⟩))); try go_wp2_with (first | (go_at_call 32; (with_reducible refine (spec_l1In.calls x12_9 1 1000 true _ A14.out).mono ?_); rintro e w' ⟨rfl, ⟨nd, rfl⟩⟩; (try first | exact ⟨rfl, _, World.drewN_drewN _ _ _⟩ | exact ⟨rfl, _, Eq.trans (World.drewN_drewN _ _ _) (congrArg (World.drewN _) (Nat.add_assoc _ _ _))⟩))))
                refine bodyPost_ret (results_list (rs := [.tmp 6, .tmp 7, .tmp 8, .tmp 9]) rfl (by simp) (.tmp (.tmp (.tmp (.tmp .nil))))) rfl ?_
                exact ⟨by first | rfl | (simp; done) | (simp [*]; done), by repeat (first | exact Drawn0.refl _ | apply Drawn0.step)⟩
            · replace c15 := Bool.eq_false_iff.mpr c15
              subst c15
              replace H := ifn Bool.false_ne_true H
              simp only [Option.some.injEq, Prod.mk.injEq] at H
              obtain ⟨rfl, rfl, rfl, rfl⟩ := H
              go_wp2_with (first | (go_at_call 32; (with_reducible refine (spec_l1In.calls x12_9 1 1000 false _ A14.out).mono ?_); rintro e w' ⟨rfl, ⟨nd, rfl⟩⟩; (try first | exact ⟨rfl, _, World.drewN_drewN _ _ _⟩ | exact ⟨rfl, _, Eq.trans (World.drewN_drewN _ _ _) (congrArg (World.drewN _) (Nat.add_assoc _ _ _))⟩)))
              repeat (go_quiet (first | (go_at_call 32; (with_reducible refine (spec_l1In.calls x12_9 1 1000 false _ A14.out).mono ?_); rintro e w' ⟨rfl, ⟨nd, rfl⟩⟩; (try first | exact ⟨rfl, _, World.drewN_drewN _ _ _⟩ | exact ⟨rfl, _, Eq.trans (World.drewN_drewN _ _ _) (congrArg (World.drewN _) (Nat.add_assoc _ _ _))⟩))); try go_wp2_with (first | (go_at_call 32; (with_reducible refine (spec_l1In.calls x12_9 1 1000 false _ A14.out).mono ?_); rintro e w' ⟨rfl, ⟨nd, rfl⟩⟩; (try first | exact ⟨rfl, _, World.drewN_drewN _ _ _⟩ | exact ⟨rfl, _, Eq.trans (World.drewN_drewN _ _ _) (congrArg (World.drewN _) (Nat.add_assoc _ _ _))⟩))))
              refine bodyPost_ret (results_list (rs := [.tmp 6, .tmp 7, .tmp 8, .tmp 9]) rfl (by simp) (.tmp (.tmp (.tmp (.tmp .nil))))) rfl ?_
              exact ⟨by first | rfl | (simp; done) | (simp [*]; done), by repeat (first | exact Drawn0.refl _ | apply Drawn0.step)⟩
      · replace c9 := Bool.eq_false_iff.mpr c9
        subst c9
        replace H := ifn Bool.false_ne_true H
        simp only [Option.some.injEq, Prod.mk.injEq] at H
        obtain ⟨rfl, rfl, rfl, rfl⟩ := H
        have p120 : 0 ≤ (a1 : Int) := dcd
        have q120 : a1 < (l0.length : Int) := dcd
        obtain ⟨ad120, e120, hx120_0⟩ := Kd.at_int HR0.out a1 p120 q120
        cases e120
        replace p120 := eq_true p120
        replace q120 := eq_true q120
        have p121 : 0 ≤ (a1 : Int) := dcd
        have q121 : a1 < (l0.length : Int) := dcd
        obtain ⟨ad121, e121, hx121_0⟩ := Kd.at_int HR0.out a1 p121 q121
        obtain rfl : ad120 = ad121 := (by injection e121)
        replace p121 := eq_true p121
        replace q121 := eq_true q121
        have p122 : 0 ≤ (a1 : Int) := dcd
        have q122 : a1 < (l0.length : Int) := dcd
        obtain ⟨ad122, e122, hx122_0⟩ := Kd.at_int HR0.out a1 p122 q122
        obtain rfl : ad120 = ad122 := (by injection e122)
        replace p122 := eq_true p122
        replace q122 := eq_true q122
        go_enter Try.func21, Try.ntmps21
        go_wp2_with (first | (go_at_call 34; (with_reducible refine (spec_l4Kind.calls (Int.tmod (wrap64 (rd l0 a1)) 16) false _ A8.out).mono ?_); rintro e w' ⟨rfl, ⟨nd, rfl⟩⟩; (try first | exact ⟨rfl, _, World.drewN_drewN _ _ _⟩ | exact ⟨rfl, _, Eq.trans (World.drewN_drewN _ _ _) (congrArg (World.drewN _) (Nat.add_assoc _ _ _))⟩)))
        repeat (go_quiet (first | (go_at_call 34; (with_reducible refine (spec_l4Kind.calls (Int.tmod (wrap64 (rd l0 a1)) 16) false _ A8.out).mono ?_); rintro e w' ⟨rfl, ⟨nd, rfl⟩⟩; (try first | exact ⟨rfl, _, World.drewN_drewN _ _ _⟩ | exact ⟨rfl, _, Eq.trans (World.drewN_drewN _ _ _) (congrArg (World.drewN _) (Nat.add_assoc _ _ _))⟩))); try go_wp2_with (first | (go_at_call 34; (with_reducible refine (spec_l4Kind.calls (Int.tmod (wrap64 (rd l0 a1)) 16) false _ A8.out).mono ?_); rintro e w' ⟨rfl, ⟨nd, rfl⟩⟩; (try first | exact ⟨rfl, _, World.drewN_drewN _ _ _⟩ | exact ⟨rfl, _, Eq.trans (World.drewN_drewN _ _ _) (congrArg (World.drewN _) (Nat.add_assoc _ _ _))⟩))))
        refine bodyPost_ret (results_list (rs := [.tmp 6, .tmp 7, .tmp 8, .tmp 9]) rfl (by simp) (.tmp (.tmp (.tmp (.tmp .nil))))) rfl ?_
        exact ⟨by first | rfl | (simp; done) | (simp [*]; done), by repeat (first | exact Drawn0.refl _ | apply Drawn0.step)⟩
/-! ### spec_l4Read: function 12 -/
mutual
def spec_l4Read.j0 : Nat → List Int → Int → Int → Int → Int → List (S40) → Bool → Option ((List (S40)) × Int × Int)
  | 0, _, _, _, _, _, _, _ => none
  | k + 1, x0, x1, x2, x3, x4, x5, x39 => if x39 = true then (some (x5, 0, 4)) else (if x5.length < 2932031007402 then ((some (x5 ++ [(⟨x2, x3, 0, (⟨#[]⟩ : ByteArray), 0⟩ : S40)] : List (S40))).bind fun y128 => (if x2 = 5 then (spec_l4Read.j1 k x0 x1 x2 x4 y128 (x5.length : Int) x2 (x2 == 5)) else (spec_l4Read.j1 k x0 x1 x2 x4 y128 (x5.length : Int) x2 (x2 == 6)))) else (none))
def spec_l4Read.j1 : Nat → List Int → Int → Int → Int → List (S40) → Int → Int → Bool → Option ((List (S40)) × Int × Int)
  | 0, _, _, _, _, _, _, _, _ => none
  | k + 1, x0, x1, x2, x4, x5, x15, x49, x50 => if x50 = true then ((spec_ZigGet.f k x0 x1).bind fun bt131 => (if bt131.2.2 = true then (if x2 = 5 then ((spec_l4Int.f bt131.1).bind fun t134 => (if t134 = true then (if 0 ≤ x15 then (if x15 < (x5.length : Int) then (some ((x5.set (x15 : Int).toNat (⟨(rd_T40 x5 x15).f0, (rd_T40 x5 x15).f1, bt131.1, (rd_T40 x5 x15).f3, (rd_T40 x5 x15).f4⟩ : S40)), bt131.2.1, 0)) else (none)) else (none)) else (some (x5, 0, 3)))) else (if 0 ≤ x15 then (if x15 < (x5.length : Int) then (some ((x5.set (x15 : Int).toNat (⟨(rd_T40 x5 x15).f0, (rd_T40 x5 x15).f1, bt131.1, (rd_T40 x5 x15).f3, (rd_T40 x5 x15).f4⟩ : S40)), bt131.2.1, 0)) else (none)) else (none))) else (some (x5, 0, 1)))) else (if x49 = 8 then ((spec_l4Text.f k x0 x1).bind fun bt137 => (if 0 ≤ x15 then (if x15 < (x5.length : Int) then (some ((x5.set (x15 : Int).toNat (⟨(rd_T40 x5 x15).f0, (rd_T40 x5 x15).f1, (rd_T40 x5 x15).f2, bt137.1, (rd_T40 x5 x15).f4⟩ : S40)), bt137.2.1, bt137.2.2)) else (none)) else (none))) else (if x49 = 9 then ((spec_l4Many.f k x0 x1).bind fun bt141 => (if 0 ≤ x15 then (if x15 < (x5.length : Int) then ((some (x5.set (x15 : Int).toNat (⟨(rd_T40 x5 x15).f0, (rd_T40 x5 x15).f1, (rd_T40 x5 x15).f2, (rd_T40 x5 x15).f3, bt141.1⟩ : S40) : List (S40))).bind fun y145 => (spec_l4Read.l0 k x0 x4 (y145.set (x15 : Int).toNat (⟨(rd_T40 y145 x15).f0, (rd_T40 y145 x15).f1, bt141.2.1, (rd_T40 y145 x15).f3, (rd_T40 y145 x15).f4⟩ : S40)) bt141.1 bt141.2.1 bt141.2.2.1 bt141.2.2.2 0)) else (none)) else (none))) else (if x49 = 12 then (spec_l4Read.l1 k x0 x1 x4 x5 x15 0 0) else (some (x5, x1, 0)))))
def spec_l4Read.l0 : Nat → List Int → Int → List (S40) → Int → Int → Int → Int → Int → Option ((List (S40)) × Int × Int)
  | 0, _, _, _, _, _, _, _, _ => none
  | k + 1, x0, x4, x5, x22, x23, x24, x25, x26 => if x26 < x22 then (if x25 = 0 then ((spec_l4Read.f k x0 x24 x23 0 (wrap64 (x4 + 1)) x5).bind fun bt147 => (spec_l4Read.l0 k x0 x4 bt147.1 x22 x23 bt147.2.1 bt147.2.2 (wrap64 (x26 + 1)))) else (some (x5, x24, x25))) else (some (x5, x24, x25))
def spec_l4Read.l1 : Nat → List Int → Int → Int → List (S40) → Int → Int → Int → Option ((List (S40)) × Int × Int)
  | 0, _, _, _, _, _, _, _ => none
  | k + 1, x0, x1, x4, x5, x15, x27, x28 => (spec_l4Head.f k x0 x1 x27).bind fun bt152 => (if bt152.2.2.2 = 0 then (if bt152.1 = 0 then (if 0 ≤ x15 then (if x15 < (x5.length : Int) then (some ((x5.set (x15 : Int).toNat (⟨(rd_T40 x5 x15).f0, (rd_T40 x5 x15).f1, (rd_T40 x5 x15).f2, (rd_T40 x5 x15).f3, x28⟩ : S40)), bt152.2.2.1, 0)) else (none)) else (none)) else ((spec_l4Read.f k x0 bt152.2.2.1 bt152.1 bt152.2.1 (wrap64 (x4 + 1)) x5).bind fun bt157 => (if bt157.2.2 = 0 then (spec_l4Read.l1 k x0 bt157.2.1 x4 bt157.1 x15 bt152.2.1 (wrap64 (x28 + 1))) else (some (bt157.1, 0, bt157.2.2))))) else (some (x5, 0, bt152.2.2.2)))
def spec_l4Read.f : Nat → List Int → Int → Int → Int → Int → List (S40) → Option ((List (S40)) × Int × Int)
  | 0, _, _, _, _, _, _ => none
  | k + 1, l0, a1, a2, a3, a4, l5 => if (l5.length : Int) = 1500 then (spec_l4Read.j0 k l0 a1 a2 a3 a4 l5 true) else (spec_l4Read.j0 k l0 a1 a2 a3 a4 l5 (decide (a4 > 12)))
end
set_option maxHeartbeats 8000000 in
set_option maxRecDepth 100000 in
theorem spec_l4Read.calls (k : Nat) : ∀ (A0 : Option Addr) (c0 : Nat) (l0 : List Int) (a1 : Int) (a2 : Int) (a3 : Int) (a4 : Int) (P5_ : Nat → Prop) (u9000_ : Value) (l5 : List (S40)) (r1 : List (S40)) (r2 : Int) (r3 : Int) (w0 w : World) (hB : Below w0.heap.size w0 w) (hr0 : ∀ W_, Kept w W_ (fun k_ => P5_ k_) → Kd.C (Kd.int .u8) W_ A0 l0.length l0) (hc0 : l0.length ≤ c0) (ho5 : Kd.R k40 40 w w0.heap.size P5_ u9000_ l5) (h : spec_l4Read.f k l0 a1 a2 a3 a4 l5 = some (r1, r2, r3)),
    Calls Try.prog 12 #[.slice A0 l0.length c0, .int .i64 a1, .int .i64 a2, .int .i64 a3, .int .i64 a4, u9000_] w fun e w' => ∃ v0_ : Value, e = .returned (.tuple #[v0_, .int .i64 r2, .int .i64 r3]) ∧ Kd.R k40 40 w' w0.heap.size (fun k_ => (P5_ k_ ∨ w.heap.size ≤ k_)) v0_ r1 ∧ Below w0.heap.size w0 w' ∧ Kept w w' (fun k_ => P5_ k_) := by
  induction k using Nat.strongRecOn with
  | _ k ih =>
  intro A0 c0 l0 a1 a2 a3 a4 P5_ u9000_ l5 r1 r2 r3 w0 w hB hr0 hc0 ho5 h
  cases k with
  | zero => exact absurd h (by simp [spec_l4Read.f])
  | succ k =>
  simp only [spec_l4Read.f] at h
  have hu40 := Try.underlying40
  have HR0 := Aside0.mk hr0
  have HC0 := Aside0.mk hc0
  clear hr0 hc0
  have HO5 := Aside0.mk (show Kd.R k40 40 w w0.heap.size (fun k_ => (P5_ k_ ∨ w.heap.size ≤ k_)) u9000_ l5 from Kd.R_mono ho5 (fun k_ hk => (.inl hk)))
  have HK := Aside0.mk (Kept.refl w (fun k_ => P5_ k_))
  have HW0 := Aside0.mk hB.size
  have HB := Aside0.mk hB
  clear hB
  have H : (if (l5.length : Int) = 1500 then (spec_l4Read.j0 k l0 a1 a2 a3 a4 l5 true) else (spec_l4Read.j0 k l0 a1 a2 a3 a4 l5 (decide (a4 > 12)))) = some (r1, r2, r3) := h
  clear h
  have HC7 := Aside0.mk H
  clear H
  go_enter Try.func12, Try.ntmps12
  go_upto_region 1 with (fail)
  go_cut [39] (fun v39 wc => ∃ (kq : Nat) (x39_6 : Bool), v39 = .bool x39_6 ∧ Aside0 (spec_l4Read.j0 kq l0 a1 a2 a3 a4 l5 x39_6 = some (r1, r2, r3)) ∧ Aside0 (kq ≤ k) ∧ Aside0 (Kd.R k40 40 wc w0.heap.size (fun k_ => (P5_ k_ ∨ w.heap.size ≤ k_)) u9000_ l5) ∧ Aside0 (Kept w wc (fun k_ => P5_ k_)) ∧ Aside0 (Below w0.heap.size w0 wc))
  case first =>
    have H := HC7.out
    clear HC7
    by_cases c8 : (l5.length : Int) = 1500
    · rw [if_pos c8] at H
      have c8b0 : ((l5.length : Int) == 1500) = true := beq_iff_eq.mpr c8
      have c8b1 : ((l5.length : Int) != 1500) = false := bne_eq_false_iff_eq.mpr c8
      clear c8
      (first | rw [c8b0] | rw [c8b1] | (simp only [i64_w, i32_w]; rw [c8b0]) | skip)
      have H' := Aside0.mk H
      clear H
      obtain ⟨Ao9, co9, eo9⟩ := Kd.R_slice HO5.out
      subst eo9
      go_wp2
      go_meet
      case rel => exact ⟨_, (true), sr, H', ⟨by first | omega | exact Nat.le_refl _⟩, ⟨R_later HO5.out⟩, ⟨by repeat (first | (with_reducible first | exact HK.out | apply Kept.alloc | apply Kept.drewN | apply Kept.drew) | exact HK.out)⟩, ⟨below_later HB.out⟩⟩
    · rw [if_neg c8] at H
      have c8b0 : ((l5.length : Int) == 1500) = false := beq_eq_false_iff_ne.mpr c8
      have c8b1 : ((l5.length : Int) != 1500) = true := bne_iff_ne.mpr c8
      (first | rw [c8b0] | rw [c8b1] | (simp only [i64_w, i32_w]; rw [c8b0]) | skip)
      have H' := Aside0.mk H
      clear H
      obtain ⟨Ao10, co10, eo10⟩ := Kd.R_slice HO5.out
      subst eo10
      go_wp2
      go_meet
      case rel => exact ⟨_, (decide (a4 > 12)), sr, H', ⟨by first | omega | exact Nat.le_refl _⟩, ⟨R_later HO5.out⟩, ⟨by repeat (first | (with_reducible first | exact HK.out | apply Kept.alloc | apply Kept.drewN | apply Kept.drew) | exact HK.out)⟩, ⟨below_later HB.out⟩⟩
  case rest =>
    clear HC7
    obtain ⟨kq, x39_6, rfl, HA, HJ6, HO_5, HK, HB⟩ := hcut
    cases kq with
    | zero => exact absurd HA.out (by simp [spec_l4Read.j0])
    | succ kj6 =>
      have H := HA.out
      clear HA
      simp only [spec_l4Read.j0] at H
      by_cases c11 : x39_6 = true
      · subst c11
        replace H := ifp rfl H
        simp only [Option.some.injEq, Prod.mk.injEq] at H
        obtain ⟨rfl, rfl, rfl⟩ := H
        go_wp2
        go_ret3
        exact ⟨_, by first | rfl | (simp [errW_none, errW_some] <;> rfl) | (simp [*, errW_none, errW_some] <;> rfl), by (with_reducible repeat (first | apply Kd.R_alloc | apply Kd.R_drewN | apply Kd.R_drew)); exact HO_5.out, below_later HB.out, by repeat (first | (with_reducible first | exact HK.out | apply Kept.alloc | apply Kept.drewN | apply Kept.drew) | exact HK.out)⟩
      · replace c11 := Bool.eq_false_iff.mpr c11
        subst c11
        replace H := ifn Bool.false_ne_true H
        replace H := ifs H
        obtain ⟨c12, H⟩ := H
        have LMc12 := Aside0.mk c12
        clear c12
        replace H := bsm H
        obtain ⟨y128, Ny128, H⟩ := H
        have HC13 := Aside0.mk H
        clear H
        obtain ⟨Ao14, co14, eo14⟩ := Kd.R_slice HO_5.out
        subst eo14
        go_upto_if 50 with (first | ((with_reducible refine gate_builtin (b := .append) (xs := #[.tmp 43, .tmp 47]) rfl ?_); at_builtin; refine Kd.R_append k40 (w0 := w0) w0.heap.size rfl (.tmp 43) (.tmp 47) 23 40 (.agg #[(.int .i64 0), (.int .i64 0), (.int .i64 0), (.string ⟨#[]⟩), (.int .i64 0)]) 48 rfl Try.underlying23 info40 rfl (by decide) (by omega) (.slice Ao14 l5.length co14) l5 (⟨a2, a3, 0, (⟨#[]⟩ : ByteArray), 0⟩ : S40) [.int .i64 a2, .int .i64 a3, .int .i64 0, .string (⟨#[]⟩ : ByteArray), .int .i64 0] (fun k_ => (P5_ k_ ∨ w.heap.size ≤ k_)) (fun _ => False) rfl rfl ?aP (fun _ hk => hk.elim) ?aF ?aO ?aB ?aS ?aL ?_; (case aP => exact k40_mkM _ _ _ (⟨a2, a3, 0, (⟨#[]⟩ : ByteArray), 0⟩ : S40)); (case aB => exact (below_later HB.out)); (case aF => exact (fun k_ hk => (.inr (Nat.le_trans (by first | exact HK.out.1 | exact (show Kept w _ (fun k_ => P5_ k_) from by repeat (first | (with_reducible first | exact HK.out | apply Kept.alloc | apply Kept.drewN | apply Kept.drew) | exact HK.out)).1) hk)))); (case aO => exact (R_later HO_5.out)); (case aS => exact (below_size (below_later HB.out))); (case aL => have := LMc12.out; omega); intro v129 w15 ho hb hg hat; rw [← Ny128.out] at ho; have n0_ := Aside0.mk (hb); have n1_ := Aside0.mk (Kept.of_grown (S := (fun k_ => P5_ k_)) hg (by repeat (first | (with_reducible first | exact HK.out | apply Kept.alloc | apply Kept.drewN | apply Kept.drew) | exact HK.out)) (fun k_ e_ => (HO_5.out.1 k_ e_))); have n2_ := Aside0.mk (ho); clear HB; clear HK; clear HO_5; have HB := n0_; have HK := n1_; have HO130 := n2_; clear n0_ n1_ n2_; clear ho hb hg hat))
        (try simp only [Act.put, List.setIfInBounds_toArray, List.set_cons_zero, List.set_cons_succ])
        go_cut [50] (fun v50 wc => ∃ (kq : Nat) (x50_12 : Bool), v50 = .bool x50_12 ∧ Aside0 (spec_l4Read.j1 kq l0 a1 a2 a4 y128 (l5.length : Int) a2 x50_12 = some (r1, r2, r3)) ∧ Aside0 (kq ≤ kj6) ∧ Aside0 (Kd.R k40 40 wc w0.heap.size (fun k_ => (P5_ k_ ∨ w.heap.size ≤ k_)) v129 y128) ∧ Aside0 (Kept w wc (fun k_ => P5_ k_)) ∧ Aside0 (Below w0.heap.size w0 wc))
        case first =>
          have H := HC13.out
          clear HC13
          by_cases c16 : a2 = 5
          · rw [if_pos c16] at H
            have c16b0 : (a2 == 5) = true := beq_iff_eq.mpr c16
            have c16b1 : (a2 != 5) = false := bne_eq_false_iff_eq.mpr c16
            clear c16
            (first | rw [c16b0] | rw [c16b1] | (simp only [i64_w, i32_w]; rw [c16b0]) | skip)
            have H' := Aside0.mk H
            clear H
            go_wp2
            go_meet
            case rel => exact ⟨_, ((a2 == 5)), sr, H', ⟨by have := HJ6.out; first | omega | exact Nat.le_refl _⟩, ⟨R_later HO130.out⟩, ⟨by repeat (first | (with_reducible first | exact HK.out | apply Kept.alloc | apply Kept.drewN | apply Kept.drew) | exact HK.out)⟩, ⟨below_later HB.out⟩⟩
          · rw [if_neg c16] at H
            have c16b0 : (a2 == 5) = false := beq_eq_false_iff_ne.mpr c16
            have c16b1 : (a2 != 5) = true := bne_iff_ne.mpr c16
            (first | rw [c16b0] | rw [c16b1] | (simp only [i64_w, i32_w]; rw [c16b0]) | skip)
            have H' := Aside0.mk H
            clear H
            go_wp2
            go_meet
            case rel => exact ⟨_, ((a2 == 6)), sr, H', ⟨by have := HJ6.out; first | omega | exact Nat.le_refl _⟩, ⟨R_later HO130.out⟩, ⟨by repeat (first | (with_reducible first | exact HK.out | apply Kept.alloc | apply Kept.drewN | apply Kept.drew) | exact HK.out)⟩, ⟨below_later HB.out⟩⟩
        case rest =>
          clear HC13
          try clear c11
          try clear c12
          obtain ⟨kq, x50_12, rfl, HA, HJ12, HO_5, HK, HB⟩ := hcut
          cases kq with
          | zero => exact absurd HA.out (by simp [spec_l4Read.j1])
          | succ kj12 =>
            have H := HA.out
            clear HA
            simp only [spec_l4Read.j1] at H
            by_cases c17 : x50_12 = true
            · subst c17
              replace H := ifp rfl H
              replace H := Option.bind_eq_some_iff.mp H
              obtain ⟨⟨t131, t132, t133⟩, A180, H⟩ := H
              replace H : (if t133 = true then (if a2 = 5 then ((spec_l4Int.f t131).bind fun t134 => (if t134 = true then (if 0 ≤ (l5.length : Int) then (if (l5.length : Int) < (y128.length : Int) then (some ((y128.set ((l5.length : Int) : Int).toNat (⟨(rd_T40 y128 (l5.length : Int)).f0, (rd_T40 y128 (l5.length : Int)).f1, t131, (rd_T40 y128 (l5.length : Int)).f3, (rd_T40 y128 (l5.length : Int)).f4⟩ : S40)), t132, 0)) else (none)) else (none)) else (some (y128, 0, 3)))) else (if 0 ≤ (l5.length : Int) then (if (l5.length : Int) < (y128.length : Int) then (some ((y128.set ((l5.length : Int) : Int).toNat (⟨(rd_T40 y128 (l5.length : Int)).f0, (rd_T40 y128 (l5.length : Int)).f1, t131, (rd_T40 y128 (l5.length : Int)).f3, (rd_T40 y128 (l5.length : Int)).f4⟩ : S40)), t132, 0)) else (none)) else (none))) else (some (y128, 0, 1))) = some (r1, r2, r3) := H
              have A18 := Aside0.mk A180
              clear A180
              by_cases c19 : t133 = true
              · subst c19
                replace H := ifp rfl H
                by_cases c20 : a2 = 5
                · rw [if_pos c20] at H
                  have c20b0 : (a2 == 5) = true := beq_iff_eq.mpr c20
                  have c20b1 : (a2 != 5) = false := bne_eq_false_iff_eq.mpr c20
                  clear c20
                  replace H := bnd H
                  obtain ⟨t134, A21, H⟩ := H
                  by_cases c22 : t134 = true
                  · subst c22
                    replace H := ifp rfl H
                    replace H := ifs H
                    obtain ⟨c23, H⟩ := H
                    have c23b0 := decide_eq_true c23
                    have c23b1 : decide (0 ≤ l5.length) = true := decide_eq_true (by omega)
                    clear c23
                    replace H := ifs H
                    obtain ⟨c24, H⟩ := H
                    have c24b0 := decide_eq_true c24
                    have c24b1 : decide (l5.length < y128.length) = true := decide_eq_true (Int.ofNat_lt.mp c24)
                    clear c24
                    obtain ⟨y135, hy135⟩ : ∃ y_ : List (S40), y_ = (y128.set ((l5.length : Int) : Int).toNat (⟨(rd_T40 y128 (l5.length : Int)).f0, (rd_T40 y128 (l5.length : Int)).f1, t131, (rd_T40 y128 (l5.length : Int)).f3, (rd_T40 y128 (l5.length : Int)).f4⟩ : S40)) := ⟨_, rfl⟩
                    replace H : (some (y135, t132, 0)) = some (r1, r2, r3) := by first | (rw [hy135]; with_reducible exact H) | (rw [hy135]; exact H) | exact H
                    have Ny135 := Aside0.mk hy135
                    clear hy135
                    simp only [Option.some.injEq, Prod.mk.injEq] at H
                    obtain ⟨rfl, rfl, rfl⟩ := H
                    go_wp2_with (first | ((with_reducible refine gate_callee (f := 17) rfl ?_); refine gl_ (some 56) Try.func17 #[.slice A0 l0.length c0, .int .i64 a1] rfl ?_; (with_reducible refine (spec_ZigGet.calls kj12 _ _ l0 a1 t131 t132 true _ ?side1 ?side2 A18.out).mono ?_); (case side1 => exact Kd.C_kept_now HR0.out (by repeat (first | (with_reducible first | exact HK.out | apply Kept.alloc | apply Kept.drewN | apply Kept.drew) | exact HK.out))); (case side2 => exact HC0.out); rintro e w' ⟨rfl, ⟨nd, rfl⟩⟩; refine ⟨_, rfl, ?_⟩; (try (rw [drewN_self wc]; generalize hq_ : World.drewN wc _ = wc; have n0_ : Aside0 (Kd.R k40 40 wc w0.heap.size (fun k_ => (P5_ k_ ∨ w.heap.size ≤ k_)) v129 y128) := ⟨by rw [← hq_]; exact (R_later HO_5.out)⟩; have n1_ : Aside0 (Kept w wc (fun k_ => P5_ k_)) := ⟨by rw [← hq_]; exact (by repeat (first | (with_reducible first | exact HK.out | apply Kept.alloc | apply Kept.drewN | apply Kept.drew) | exact HK.out))⟩; have n2_ : Aside0 (Below w0.heap.size w0 wc) := ⟨by rw [← hq_]; exact (below_later HB.out)⟩; clear HO_5 HK HB hq_; have HO_5 := n0_; have HK := n1_; have HB := n2_; clear n0_ n1_ n2_))) | (go_at_call 18; (with_reducible refine (spec_l4Int.calls t131 true _ A21.out).mono ?_); rintro e w' ⟨rfl, ⟨nd, rfl⟩⟩; (try (rw [drewN_self wc]; generalize hq_ : World.drewN wc _ = wc; have n0_ : Aside0 (Kd.R k40 40 wc w0.heap.size (fun k_ => (P5_ k_ ∨ w.heap.size ≤ k_)) v129 y128) := ⟨by rw [← hq_]; exact (R_later HO_5.out)⟩; have n1_ : Aside0 (Kept w wc (fun k_ => P5_ k_)) := ⟨by rw [← hq_]; exact (by repeat (first | (with_reducible first | exact HK.out | apply Kept.alloc | apply Kept.drewN | apply Kept.drew) | exact HK.out))⟩; have n2_ : Aside0 (Below w0.heap.size w0 wc) := ⟨by rw [← hq_]; exact (below_later HB.out)⟩; clear HO_5 HK HB hq_; have HO_5 := n0_; have HK := n1_; have HB := n2_; clear n0_ n1_ n2_)); have p25 : 0 ≤ ((l5.length : Int) : Int) := dcd; have q25 : ((l5.length : Int) : Int) < ((y128.length : Int) : Int) := dcd; obtain ⟨go25, co25, eo25, gb25, gl25, cl25, HG25⟩ := Kd.R_form HO_5.out (by omega); (first | cases eo25 | (injection eo25 with ea_ en_ ec_; (first | subst ea_ | (injection ea_ with ea_; subst ea_)); subst ec_; clear en_)); have GB25 := Aside0.mk gb25; have GG25 := Aside0.mk HG25; clear gb25 gl25 HG25; have HMgo25 := Aside0.mk (show (P5_ go25 ∨ w.heap.size ≤ go25) from (HO_5.out.1 _ rfl)); obtain ⟨ce25, hcl25, hM25, hcc25, hfr25⟩ := Kd.R_elem HO_5.out z40 ((l5.length : Int) : Int) p25 q25; obtain rfl := k40_openM hM25; have hx25_0 : wc.cell? ⟨go25, ((l5.length : Int) : Int).toNat * 5, none⟩ = some (.int .i64 ((rd_T40 y128 (l5.length : Int)).f0)) := hcc25 0 _ rfl; have hx25_1 : wc.cell? ⟨go25, ((l5.length : Int) : Int).toNat * 5 + 1, none⟩ = some (.int .i64 ((rd_T40 y128 (l5.length : Int)).f1)) := hcc25 1 _ rfl; have hx25_2 : wc.cell? ⟨go25, ((l5.length : Int) : Int).toNat * 5 + 2, none⟩ = some (.int .i64 ((rd_T40 y128 (l5.length : Int)).f2)) := hcc25 2 _ rfl; have hx25_3 : wc.cell? ⟨go25, ((l5.length : Int) : Int).toNat * 5 + 3, none⟩ = some (.string ((rd_T40 y128 (l5.length : Int)).f3)) := hcc25 3 _ rfl; have hx25_4 : wc.cell? ⟨go25, ((l5.length : Int) : Int).toNat * 5 + 4, none⟩ = some (.int .i64 ((rd_T40 y128 (l5.length : Int)).f4)) := hcc25 4 _ rfl; have hf25_0 : wc.frozen? ⟨go25, ((l5.length : Int) : Int).toNat * 5, none⟩ = false := hfr25 0; have hf25_1 : wc.frozen? ⟨go25, ((l5.length : Int) : Int).toNat * 5 + 1, none⟩ = false := hfr25 1; have hf25_2 : wc.frozen? ⟨go25, ((l5.length : Int) : Int).toNat * 5 + 2, none⟩ = false := hfr25 2; have hf25_3 : wc.frozen? ⟨go25, ((l5.length : Int) : Int).toNat * 5 + 3, none⟩ = false := hfr25 3; have hf25_4 : wc.frozen? ⟨go25, ((l5.length : Int) : Int).toNat * 5 + 4, none⟩ = false := hfr25 4; clear hcl25 hcc25 hfr25 hM25; replace p25 := eq_true p25; replace q25 := eq_true q25; have HX26 := Aside0.mk (show Kd.R k40 40 wc w0.heap.size (fun k_ => (P5_ k_ ∨ w.heap.size ≤ k_)) (.slice (some ⟨go25, 0, none⟩) y128.length co25) y128 from (R_later HO_5.out)); obtain ⟨ce26, hcl26, hM26, hcc26, hfr26⟩ := Kd.R_elem HX26.out z40 ((l5.length : Int) : Int) (dcd) (by have h_ : ((l5.length : Int) : Int) < ((y128.length : Int) : Int) := dcd; first | exact h_ | (have e_ := (Kd.R_reads' HO_5.out).1; omega) | simpa using h_); obtain rfl := k40_openM hM26; have HP26 := Kd.R_seg HX26.out ((l5.length : Int) : Int) (dcd) (by have h_ : ((l5.length : Int) : Int) < ((y128.length : Int) : Int) := dcd; first | exact h_ | (have e_ := (Kd.R_reads' HO_5.out).1; omega) | simpa using h_) (seg := [.int .i64 t131]) (j := 2) hcl26 hcc26 (show 3 ≤ 5 from by decide) (x' := (⟨(rd_T40 y128 (l5.length : Int)).f0, (rd_T40 y128 (l5.length : Int)).f1, t131, (rd_T40 y128 (l5.length : Int)).f3, (rd_T40 y128 (l5.length : Int)).f4⟩ : S40)) (k40_mkM _ _ _ (⟨(rd_T40 y128 (l5.length : Int)).f0, (rd_T40 y128 (l5.length : Int)).f1, t131, (rd_T40 y128 (l5.length : Int)).f3, (rd_T40 y128 (l5.length : Int)).f4⟩ : S40) ) (fun _ hk => hk); have hx26_2 := hcc26 2 _ rfl; (try simp only [show (k40).sz = 5 from rfl, Nat.mul_one, Nat.add_zero, Int.toNat_natCast] at hx26_2); have hf26_2 := hfr26 2; (try simp only [show (k40).sz = 5 from rfl, Nat.mul_one, Nat.add_zero, Int.toNat_natCast] at hf26_2); clear hcl26 hcc26 hfr26 hM26) | ((with_reducible refine gate_store (t := 3) (p := 75) rfl ?_); refine st_ 3 75 (wc.setCell ⟨go25, ((l5.length : Int) : Int).toNat * 5 + 2, none⟩ (.int .i64 t131)) ?_; intro w27 hw; have hg : wc.grownBy w27 (some go25) := (by rw [hw]; exact HP26.2); have hp_ : Kd.R k40 40 w27 w0.heap.size (fun k_ => (P5_ k_ ∨ w.heap.size ≤ k_)) (.slice (some ⟨go25, 0, none⟩) y128.length co25) y135 := (by rw [hw, Ny135.out]; exact HP26.1); clear HP26; replace HB := Aside0.mk ((by rw [hw]; exact below_set (HB.out) GB25.out : Below w0.heap.size w0 w27)); replace HK := Aside0.mk (Kept.of_grown (S := (fun k_ => P5_ k_)) hg (by repeat (first | (with_reducible first | exact HK.out | apply Kept.alloc | apply Kept.drewN | apply Kept.drew) | exact HK.out)) (fun k_ e_ => (HO_5.out.1 k_ e_))); replace HO_5 := Aside0.mk (hp_); clear hg hw hp_))
                    go_ret3
                    exact ⟨_, by first | rfl | (simp [errW_none, errW_some] <;> rfl) | (simp [*, errW_none, errW_some] <;> rfl), by (with_reducible repeat (first | apply Kd.R_alloc | apply Kd.R_drewN | apply Kd.R_drew)); exact HO_5.out, below_later HB.out, by repeat (first | (with_reducible first | exact HK.out | apply Kept.alloc | apply Kept.drewN | apply Kept.drew) | exact HK.out)⟩
                  · replace c22 := Bool.eq_false_iff.mpr c22
                    subst c22
                    replace H := ifn Bool.false_ne_true H
                    simp only [Option.some.injEq, Prod.mk.injEq] at H
                    obtain ⟨rfl, rfl, rfl⟩ := H
                    go_wp2_with (first | ((with_reducible refine gate_callee (f := 17) rfl ?_); refine gl_ (some 56) Try.func17 #[.slice A0 l0.length c0, .int .i64 a1] rfl ?_; (with_reducible refine (spec_ZigGet.calls kj12 _ _ l0 a1 t131 t132 true _ ?side1 ?side2 A18.out).mono ?_); (case side1 => exact Kd.C_kept_now HR0.out (by repeat (first | (with_reducible first | exact HK.out | apply Kept.alloc | apply Kept.drewN | apply Kept.drew) | exact HK.out))); (case side2 => exact HC0.out); rintro e w' ⟨rfl, ⟨nd, rfl⟩⟩; refine ⟨_, rfl, ?_⟩) | (go_at_call 18; (with_reducible refine (spec_l4Int.calls t131 false _ A21.out).mono ?_); rintro e w' ⟨rfl, ⟨nd, rfl⟩⟩))
                    go_ret3
                    exact ⟨_, by first | rfl | (simp [errW_none, errW_some] <;> rfl) | (simp [*, errW_none, errW_some] <;> rfl), by (with_reducible repeat (first | apply Kd.R_alloc | apply Kd.R_drewN | apply Kd.R_drew)); exact HO_5.out, below_later HB.out, by repeat (first | (with_reducible first | exact HK.out | apply Kept.alloc | apply Kept.drewN | apply Kept.drew) | exact HK.out)⟩
                · rw [if_neg c20] at H
                  have c20b0 : (a2 == 5) = false := beq_eq_false_iff_ne.mpr c20
                  have c20b1 : (a2 != 5) = true := bne_iff_ne.mpr c20
                  replace H := ifs H
                  obtain ⟨c28, H⟩ := H
                  have c28b0 := decide_eq_true c28
                  have c28b1 : decide (0 ≤ l5.length) = true := decide_eq_true (by omega)
                  clear c28
                  replace H := ifs H
                  obtain ⟨c29, H⟩ := H
                  have c29b0 := decide_eq_true c29
                  have c29b1 : decide (l5.length < y128.length) = true := decide_eq_true (Int.ofNat_lt.mp c29)
                  clear c29
                  obtain ⟨y136, hy136⟩ : ∃ y_ : List (S40), y_ = (y128.set ((l5.length : Int) : Int).toNat (⟨(rd_T40 y128 (l5.length : Int)).f0, (rd_T40 y128 (l5.length : Int)).f1, t131, (rd_T40 y128 (l5.length : Int)).f3, (rd_T40 y128 (l5.length : Int)).f4⟩ : S40)) := ⟨_, rfl⟩
                  replace H : (some (y136, t132, 0)) = some (r1, r2, r3) := by first | (rw [hy136]; with_reducible exact H) | (rw [hy136]; exact H) | exact H
                  have Ny136 := Aside0.mk hy136
                  clear hy136
                  simp only [Option.some.injEq, Prod.mk.injEq] at H
                  obtain ⟨rfl, rfl, rfl⟩ := H
                  go_wp2_with (first | ((with_reducible refine gate_callee (f := 17) rfl ?_); refine gl_ (some 56) Try.func17 #[.slice A0 l0.length c0, .int .i64 a1] rfl ?_; (with_reducible refine (spec_ZigGet.calls kj12 _ _ l0 a1 t131 t132 true _ ?side1 ?side2 A18.out).mono ?_); (case side1 => exact Kd.C_kept_now HR0.out (by repeat (first | (with_reducible first | exact HK.out | apply Kept.alloc | apply Kept.drewN | apply Kept.drew) | exact HK.out))); (case side2 => exact HC0.out); rintro e w' ⟨rfl, ⟨nd, rfl⟩⟩; refine ⟨_, rfl, ?_⟩; (try (rw [drewN_self wc]; generalize hq_ : World.drewN wc _ = wc; have n0_ : Aside0 (Kd.R k40 40 wc w0.heap.size (fun k_ => (P5_ k_ ∨ w.heap.size ≤ k_)) v129 y128) := ⟨by rw [← hq_]; exact (R_later HO_5.out)⟩; have n1_ : Aside0 (Kept w wc (fun k_ => P5_ k_)) := ⟨by rw [← hq_]; exact (by repeat (first | (with_reducible first | exact HK.out | apply Kept.alloc | apply Kept.drewN | apply Kept.drew) | exact HK.out))⟩; have n2_ : Aside0 (Below w0.heap.size w0 wc) := ⟨by rw [← hq_]; exact (below_later HB.out)⟩; clear HO_5 HK HB hq_; have HO_5 := n0_; have HK := n1_; have HB := n2_; clear n0_ n1_ n2_)); have p30 : 0 ≤ ((l5.length : Int) : Int) := dcd; have q30 : ((l5.length : Int) : Int) < ((y128.length : Int) : Int) := dcd; obtain ⟨go30, co30, eo30, gb30, gl30, cl30, HG30⟩ := Kd.R_form HO_5.out (by omega); (first | cases eo30 | (injection eo30 with ea_ en_ ec_; (first | subst ea_ | (injection ea_ with ea_; subst ea_)); subst ec_; clear en_)); have GB30 := Aside0.mk gb30; have GG30 := Aside0.mk HG30; clear gb30 gl30 HG30; have HMgo30 := Aside0.mk (show (P5_ go30 ∨ w.heap.size ≤ go30) from (HO_5.out.1 _ rfl)); obtain ⟨ce30, hcl30, hM30, hcc30, hfr30⟩ := Kd.R_elem HO_5.out z40 ((l5.length : Int) : Int) p30 q30; obtain rfl := k40_openM hM30; have hx30_0 : wc.cell? ⟨go30, ((l5.length : Int) : Int).toNat * 5, none⟩ = some (.int .i64 ((rd_T40 y128 (l5.length : Int)).f0)) := hcc30 0 _ rfl; have hx30_1 : wc.cell? ⟨go30, ((l5.length : Int) : Int).toNat * 5 + 1, none⟩ = some (.int .i64 ((rd_T40 y128 (l5.length : Int)).f1)) := hcc30 1 _ rfl; have hx30_2 : wc.cell? ⟨go30, ((l5.length : Int) : Int).toNat * 5 + 2, none⟩ = some (.int .i64 ((rd_T40 y128 (l5.length : Int)).f2)) := hcc30 2 _ rfl; have hx30_3 : wc.cell? ⟨go30, ((l5.length : Int) : Int).toNat * 5 + 3, none⟩ = some (.string ((rd_T40 y128 (l5.length : Int)).f3)) := hcc30 3 _ rfl; have hx30_4 : wc.cell? ⟨go30, ((l5.length : Int) : Int).toNat * 5 + 4, none⟩ = some (.int .i64 ((rd_T40 y128 (l5.length : Int)).f4)) := hcc30 4 _ rfl; have hf30_0 : wc.frozen? ⟨go30, ((l5.length : Int) : Int).toNat * 5, none⟩ = false := hfr30 0; have hf30_1 : wc.frozen? ⟨go30, ((l5.length : Int) : Int).toNat * 5 + 1, none⟩ = false := hfr30 1; have hf30_2 : wc.frozen? ⟨go30, ((l5.length : Int) : Int).toNat * 5 + 2, none⟩ = false := hfr30 2; have hf30_3 : wc.frozen? ⟨go30, ((l5.length : Int) : Int).toNat * 5 + 3, none⟩ = false := hfr30 3; have hf30_4 : wc.frozen? ⟨go30, ((l5.length : Int) : Int).toNat * 5 + 4, none⟩ = false := hfr30 4; clear hcl30 hcc30 hfr30 hM30; replace p30 := eq_true p30; replace q30 := eq_true q30; have HX31 := Aside0.mk (show Kd.R k40 40 wc w0.heap.size (fun k_ => (P5_ k_ ∨ w.heap.size ≤ k_)) (.slice (some ⟨go30, 0, none⟩) y128.length co30) y128 from (R_later HO_5.out)); obtain ⟨ce31, hcl31, hM31, hcc31, hfr31⟩ := Kd.R_elem HX31.out z40 ((l5.length : Int) : Int) (dcd) (by have h_ : ((l5.length : Int) : Int) < ((y128.length : Int) : Int) := dcd; first | exact h_ | (have e_ := (Kd.R_reads' HO_5.out).1; omega) | simpa using h_); obtain rfl := k40_openM hM31; have HP31 := Kd.R_seg HX31.out ((l5.length : Int) : Int) (dcd) (by have h_ : ((l5.length : Int) : Int) < ((y128.length : Int) : Int) := dcd; first | exact h_ | (have e_ := (Kd.R_reads' HO_5.out).1; omega) | simpa using h_) (seg := [.int .i64 t131]) (j := 2) hcl31 hcc31 (show 3 ≤ 5 from by decide) (x' := (⟨(rd_T40 y128 (l5.length : Int)).f0, (rd_T40 y128 (l5.length : Int)).f1, t131, (rd_T40 y128 (l5.length : Int)).f3, (rd_T40 y128 (l5.length : Int)).f4⟩ : S40)) (k40_mkM _ _ _ (⟨(rd_T40 y128 (l5.length : Int)).f0, (rd_T40 y128 (l5.length : Int)).f1, t131, (rd_T40 y128 (l5.length : Int)).f3, (rd_T40 y128 (l5.length : Int)).f4⟩ : S40) ) (fun _ hk => hk); have hx31_2 := hcc31 2 _ rfl; (try simp only [show (k40).sz = 5 from rfl, Nat.mul_one, Nat.add_zero, Int.toNat_natCast] at hx31_2); have hf31_2 := hfr31 2; (try simp only [show (k40).sz = 5 from rfl, Nat.mul_one, Nat.add_zero, Int.toNat_natCast] at hf31_2); clear hcl31 hcc31 hfr31 hM31) | ((with_reducible refine gate_store (t := 3) (p := 75) rfl ?_); refine st_ 3 75 (wc.setCell ⟨go30, ((l5.length : Int) : Int).toNat * 5 + 2, none⟩ (.int .i64 t131)) ?_; intro w32 hw; have hg : wc.grownBy w32 (some go30) := (by rw [hw]; exact HP31.2); have hp_ : Kd.R k40 40 w32 w0.heap.size (fun k_ => (P5_ k_ ∨ w.heap.size ≤ k_)) (.slice (some ⟨go30, 0, none⟩) y128.length co30) y136 := (by rw [hw, Ny136.out]; exact HP31.1); clear HP31; replace HB := Aside0.mk ((by rw [hw]; exact below_set (HB.out) GB30.out : Below w0.heap.size w0 w32)); replace HK := Aside0.mk (Kept.of_grown (S := (fun k_ => P5_ k_)) hg (by repeat (first | (with_reducible first | exact HK.out | apply Kept.alloc | apply Kept.drewN | apply Kept.drew) | exact HK.out)) (fun k_ e_ => (HO_5.out.1 k_ e_))); replace HO_5 := Aside0.mk (hp_); clear hg hw hp_))
                  go_ret3
                  exact ⟨_, by first | rfl | (simp [errW_none, errW_some] <;> rfl) | (simp [*, errW_none, errW_some] <;> rfl), by (with_reducible repeat (first | apply Kd.R_alloc | apply Kd.R_drewN | apply Kd.R_drew)); exact HO_5.out, below_later HB.out, by repeat (first | (with_reducible first | exact HK.out | apply Kept.alloc | apply Kept.drewN | apply Kept.drew) | exact HK.out)⟩
              · replace c19 := Bool.eq_false_iff.mpr c19
                subst c19
                replace H := ifn Bool.false_ne_true H
                simp only [Option.some.injEq, Prod.mk.injEq] at H
                obtain ⟨rfl, rfl, rfl⟩ := H
                go_wp2_with (first | ((with_reducible refine gate_callee (f := 17) rfl ?_); refine gl_ (some 56) Try.func17 #[.slice A0 l0.length c0, .int .i64 a1] rfl ?_; (with_reducible refine (spec_ZigGet.calls kj12 _ _ l0 a1 t131 t132 false _ ?side1 ?side2 A18.out).mono ?_); (case side1 => exact Kd.C_kept_now HR0.out (by repeat (first | (with_reducible first | exact HK.out | apply Kept.alloc | apply Kept.drewN | apply Kept.drew) | exact HK.out))); (case side2 => exact HC0.out); rintro e w' ⟨rfl, ⟨nd, rfl⟩⟩; refine ⟨_, rfl, ?_⟩))
                go_ret3
                exact ⟨_, by first | rfl | (simp [errW_none, errW_some] <;> rfl) | (simp [*, errW_none, errW_some] <;> rfl), by (with_reducible repeat (first | apply Kd.R_alloc | apply Kd.R_drewN | apply Kd.R_drew)); exact HO_5.out, below_later HB.out, by repeat (first | (with_reducible first | exact HK.out | apply Kept.alloc | apply Kept.drewN | apply Kept.drew) | exact HK.out)⟩
            · replace c17 := Bool.eq_false_iff.mpr c17
              subst c17
              replace H := ifn Bool.false_ne_true H
              by_cases c33 : a2 = 8
              · rw [if_pos c33] at H
                have c33b0 : (a2 == 8) = true := beq_iff_eq.mpr c33
                have c33b1 : (a2 != 8) = false := bne_eq_false_iff_eq.mpr c33
                clear c33
                replace H := Option.bind_eq_some_iff.mp H
                obtain ⟨⟨t137, t138, t139⟩, A340, H⟩ := H
                replace H : (if 0 ≤ (l5.length : Int) then (if (l5.length : Int) < (y128.length : Int) then (some ((y128.set ((l5.length : Int) : Int).toNat (⟨(rd_T40 y128 (l5.length : Int)).f0, (rd_T40 y128 (l5.length : Int)).f1, (rd_T40 y128 (l5.length : Int)).f2, t137, (rd_T40 y128 (l5.length : Int)).f4⟩ : S40)), t138, t139)) else (none)) else (none)) = some (r1, r2, r3) := H
                have A34 := Aside0.mk A340
                clear A340
                replace H := ifs H
                obtain ⟨c35, H⟩ := H
                have c35b0 := decide_eq_true c35
                have c35b1 : decide (0 ≤ l5.length) = true := decide_eq_true (by omega)
                clear c35
                replace H := ifs H
                obtain ⟨c36, H⟩ := H
                have c36b0 := decide_eq_true c36
                have c36b1 : decide (l5.length < y128.length) = true := decide_eq_true (Int.ofNat_lt.mp c36)
                clear c36
                obtain ⟨y140, hy140⟩ : ∃ y_ : List (S40), y_ = (y128.set ((l5.length : Int) : Int).toNat (⟨(rd_T40 y128 (l5.length : Int)).f0, (rd_T40 y128 (l5.length : Int)).f1, (rd_T40 y128 (l5.length : Int)).f2, t137, (rd_T40 y128 (l5.length : Int)).f4⟩ : S40)) := ⟨_, rfl⟩
                replace H : (some (y140, t138, t139)) = some (r1, r2, r3) := by first | (rw [hy140]; with_reducible exact H) | (rw [hy140]; exact H) | exact H
                have Ny140 := Aside0.mk hy140
                clear hy140
                simp only [Option.some.injEq, Prod.mk.injEq] at H
                obtain ⟨rfl, rfl, rfl⟩ := H
                go_wp2_with (first | ((with_reducible refine gate_callee (f := 19) rfl ?_); refine gl_ (some 83) Try.func19 #[.slice A0 l0.length c0, .int .i64 a1] rfl ?_; (with_reducible refine (spec_l4Text.calls kj12 _ _ l0 a1 t137 t138 t139 _ ?side1 ?side2 A34.out).mono ?_); (case side1 => exact Kd.C_kept_now HR0.out (by repeat (first | (with_reducible first | exact HK.out | apply Kept.alloc | apply Kept.drewN | apply Kept.drew) | exact HK.out))); (case side2 => exact HC0.out); rintro e w' ⟨rfl, ⟨nd, rfl⟩⟩; refine ⟨_, rfl, ?_⟩; (try (rw [drewN_self wc]; generalize hq_ : World.drewN wc _ = wc; have n0_ : Aside0 (Kd.R k40 40 wc w0.heap.size (fun k_ => (P5_ k_ ∨ w.heap.size ≤ k_)) v129 y128) := ⟨by rw [← hq_]; exact (R_later HO_5.out)⟩; have n1_ : Aside0 (Kept w wc (fun k_ => P5_ k_)) := ⟨by rw [← hq_]; exact (by repeat (first | (with_reducible first | exact HK.out | apply Kept.alloc | apply Kept.drewN | apply Kept.drew) | exact HK.out))⟩; have n2_ : Aside0 (Below w0.heap.size w0 wc) := ⟨by rw [← hq_]; exact (below_later HB.out)⟩; clear HO_5 HK HB hq_; have HO_5 := n0_; have HK := n1_; have HB := n2_; clear n0_ n1_ n2_)); have p37 : 0 ≤ ((l5.length : Int) : Int) := dcd; have q37 : ((l5.length : Int) : Int) < ((y128.length : Int) : Int) := dcd; obtain ⟨go37, co37, eo37, gb37, gl37, cl37, HG37⟩ := Kd.R_form HO_5.out (by omega); (first | cases eo37 | (injection eo37 with ea_ en_ ec_; (first | subst ea_ | (injection ea_ with ea_; subst ea_)); subst ec_; clear en_)); have GB37 := Aside0.mk gb37; have GG37 := Aside0.mk HG37; clear gb37 gl37 HG37; have HMgo37 := Aside0.mk (show (P5_ go37 ∨ w.heap.size ≤ go37) from (HO_5.out.1 _ rfl)); obtain ⟨ce37, hcl37, hM37, hcc37, hfr37⟩ := Kd.R_elem HO_5.out z40 ((l5.length : Int) : Int) p37 q37; obtain rfl := k40_openM hM37; have hx37_0 : wc.cell? ⟨go37, ((l5.length : Int) : Int).toNat * 5, none⟩ = some (.int .i64 ((rd_T40 y128 (l5.length : Int)).f0)) := hcc37 0 _ rfl; have hx37_1 : wc.cell? ⟨go37, ((l5.length : Int) : Int).toNat * 5 + 1, none⟩ = some (.int .i64 ((rd_T40 y128 (l5.length : Int)).f1)) := hcc37 1 _ rfl; have hx37_2 : wc.cell? ⟨go37, ((l5.length : Int) : Int).toNat * 5 + 2, none⟩ = some (.int .i64 ((rd_T40 y128 (l5.length : Int)).f2)) := hcc37 2 _ rfl; have hx37_3 : wc.cell? ⟨go37, ((l5.length : Int) : Int).toNat * 5 + 3, none⟩ = some (.string ((rd_T40 y128 (l5.length : Int)).f3)) := hcc37 3 _ rfl; have hx37_4 : wc.cell? ⟨go37, ((l5.length : Int) : Int).toNat * 5 + 4, none⟩ = some (.int .i64 ((rd_T40 y128 (l5.length : Int)).f4)) := hcc37 4 _ rfl; have hf37_0 : wc.frozen? ⟨go37, ((l5.length : Int) : Int).toNat * 5, none⟩ = false := hfr37 0; have hf37_1 : wc.frozen? ⟨go37, ((l5.length : Int) : Int).toNat * 5 + 1, none⟩ = false := hfr37 1; have hf37_2 : wc.frozen? ⟨go37, ((l5.length : Int) : Int).toNat * 5 + 2, none⟩ = false := hfr37 2; have hf37_3 : wc.frozen? ⟨go37, ((l5.length : Int) : Int).toNat * 5 + 3, none⟩ = false := hfr37 3; have hf37_4 : wc.frozen? ⟨go37, ((l5.length : Int) : Int).toNat * 5 + 4, none⟩ = false := hfr37 4; clear hcl37 hcc37 hfr37 hM37; replace p37 := eq_true p37; replace q37 := eq_true q37; have HX38 := Aside0.mk (show Kd.R k40 40 wc w0.heap.size (fun k_ => (P5_ k_ ∨ w.heap.size ≤ k_)) (.slice (some ⟨go37, 0, none⟩) y128.length co37) y128 from (R_later HO_5.out)); obtain ⟨ce38, hcl38, hM38, hcc38, hfr38⟩ := Kd.R_elem HX38.out z40 ((l5.length : Int) : Int) (dcd) (by have h_ : ((l5.length : Int) : Int) < ((y128.length : Int) : Int) := dcd; first | exact h_ | (have e_ := (Kd.R_reads' HO_5.out).1; omega) | simpa using h_); obtain rfl := k40_openM hM38; have HP38 := Kd.R_seg HX38.out ((l5.length : Int) : Int) (dcd) (by have h_ : ((l5.length : Int) : Int) < ((y128.length : Int) : Int) := dcd; first | exact h_ | (have e_ := (Kd.R_reads' HO_5.out).1; omega) | simpa using h_) (seg := [.string t137]) (j := 3) hcl38 hcc38 (show 4 ≤ 5 from by decide) (x' := (⟨(rd_T40 y128 (l5.length : Int)).f0, (rd_T40 y128 (l5.length : Int)).f1, (rd_T40 y128 (l5.length : Int)).f2, t137, (rd_T40 y128 (l5.length : Int)).f4⟩ : S40)) (k40_mkM _ _ _ (⟨(rd_T40 y128 (l5.length : Int)).f0, (rd_T40 y128 (l5.length : Int)).f1, (rd_T40 y128 (l5.length : Int)).f2, t137, (rd_T40 y128 (l5.length : Int)).f4⟩ : S40) ) (fun _ hk => hk); have hx38_3 := hcc38 3 _ rfl; (try simp only [show (k40).sz = 5 from rfl, Nat.mul_one, Nat.add_zero, Int.toNat_natCast] at hx38_3); have hf38_3 := hfr38 3; (try simp only [show (k40).sz = 5 from rfl, Nat.mul_one, Nat.add_zero, Int.toNat_natCast] at hf38_3); clear hcl38 hcc38 hfr38 hM38) | ((with_reducible refine gate_store (t := 9) (p := 91) rfl ?_); refine st_ 9 91 (wc.setCell ⟨go37, ((l5.length : Int) : Int).toNat * 5 + 3, none⟩ (.string t137)) ?_; intro w39 hw; have hg : wc.grownBy w39 (some go37) := (by rw [hw]; exact HP38.2); have hp_ : Kd.R k40 40 w39 w0.heap.size (fun k_ => (P5_ k_ ∨ w.heap.size ≤ k_)) (.slice (some ⟨go37, 0, none⟩) y128.length co37) y140 := (by rw [hw, Ny140.out]; exact HP38.1); clear HP38; replace HB := Aside0.mk ((by rw [hw]; exact below_set (HB.out) GB37.out : Below w0.heap.size w0 w39)); replace HK := Aside0.mk (Kept.of_grown (S := (fun k_ => P5_ k_)) hg (by repeat (first | (with_reducible first | exact HK.out | apply Kept.alloc | apply Kept.drewN | apply Kept.drew) | exact HK.out)) (fun k_ e_ => (HO_5.out.1 k_ e_))); replace HO_5 := Aside0.mk (hp_); clear hg hw hp_))
                go_ret3
                exact ⟨_, by first | rfl | (simp [errW_none, errW_some] <;> rfl) | (simp [*, errW_none, errW_some] <;> rfl), by (with_reducible repeat (first | apply Kd.R_alloc | apply Kd.R_drewN | apply Kd.R_drew)); exact HO_5.out, below_later HB.out, by repeat (first | (with_reducible first | exact HK.out | apply Kept.alloc | apply Kept.drewN | apply Kept.drew) | exact HK.out)⟩
              · rw [if_neg c33] at H
                have c33b0 : (a2 == 8) = false := beq_eq_false_iff_ne.mpr c33
                have c33b1 : (a2 != 8) = true := bne_iff_ne.mpr c33
                by_cases c40 : a2 = 9
                · rw [if_pos c40] at H
                  have c40b0 : (a2 == 9) = true := beq_iff_eq.mpr c40
                  have c40b1 : (a2 != 9) = false := bne_eq_false_iff_eq.mpr c40
                  clear c40
                  replace H := Option.bind_eq_some_iff.mp H
                  obtain ⟨⟨t141, t142, t143, t144⟩, A410, H⟩ := H
                  replace H : (if 0 ≤ (l5.length : Int) then (if (l5.length : Int) < (y128.length : Int) then ((some (y128.set ((l5.length : Int) : Int).toNat (⟨(rd_T40 y128 (l5.length : Int)).f0, (rd_T40 y128 (l5.length : Int)).f1, (rd_T40 y128 (l5.length : Int)).f2, (rd_T40 y128 (l5.length : Int)).f3, t141⟩ : S40) : List (S40))).bind fun y145 => (spec_l4Read.l0 kj12 l0 a4 (y145.set ((l5.length : Int) : Int).toNat (⟨(rd_T40 y145 (l5.length : Int)).f0, (rd_T40 y145 (l5.length : Int)).f1, t142, (rd_T40 y145 (l5.length : Int)).f3, (rd_T40 y145 (l5.length : Int)).f4⟩ : S40)) t141 t142 t143 t144 0)) else (none)) else (none)) = some (r1, r2, r3) := H
                  have A41 := Aside0.mk A410
                  clear A410
                  replace H := ifs H
                  obtain ⟨c42, H⟩ := H
                  have c42b0 := decide_eq_true c42
                  have c42b1 : decide (0 ≤ l5.length) = true := decide_eq_true (by omega)
                  clear c42
                  replace H := ifs H
                  obtain ⟨c43, H⟩ := H
                  have c43b0 := decide_eq_true c43
                  have c43b1 : decide (l5.length < y128.length) = true := decide_eq_true (Int.ofNat_lt.mp c43)
                  clear c43
                  replace H := bsm H
                  obtain ⟨y145, Ny145, H⟩ := H
                  obtain ⟨y146, hy146⟩ : ∃ y_ : List (S40), y_ = (y145.set ((l5.length : Int) : Int).toNat (⟨(rd_T40 y145 (l5.length : Int)).f0, (rd_T40 y145 (l5.length : Int)).f1, t142, (rd_T40 y145 (l5.length : Int)).f3, (rd_T40 y145 (l5.length : Int)).f4⟩ : S40)) := ⟨_, rfl⟩
                  replace H : (spec_l4Read.l0 kj12 l0 a4 y146 t141 t142 t143 t144 0) = some (r1, r2, r3) := by first | (rw [hy146]; with_reducible exact H) | (rw [hy146]; exact H) | exact H
                  have Ny146 := Aside0.mk hy146
                  clear hy146
                  have H' := Aside0.mk H
                  clear H
                  go_wp2_with (first | ((with_reducible refine gate_callee (f := 20) rfl ?_); refine gl_ (some 100) Try.func20 #[.slice A0 l0.length c0, .int .i64 a1] rfl ?_; (with_reducible refine (spec_l4Many.calls kj12 _ _ l0 a1 t141 t142 t143 t144 _ ?side1 ?side2 A41.out).mono ?_); (case side1 => exact Kd.C_kept_now HR0.out (by repeat (first | (with_reducible first | exact HK.out | apply Kept.alloc | apply Kept.drewN | apply Kept.drew) | exact HK.out))); (case side2 => exact HC0.out); rintro e w' ⟨rfl, ⟨nd, rfl⟩⟩; refine ⟨_, rfl, ?_⟩; (try (rw [drewN_self wc]; generalize hq_ : World.drewN wc _ = wc; have n0_ : Aside0 (Kd.R k40 40 wc w0.heap.size (fun k_ => (P5_ k_ ∨ w.heap.size ≤ k_)) v129 y128) := ⟨by rw [← hq_]; exact (R_later HO_5.out)⟩; have n1_ : Aside0 (Kept w wc (fun k_ => P5_ k_)) := ⟨by rw [← hq_]; exact (by repeat (first | (with_reducible first | exact HK.out | apply Kept.alloc | apply Kept.drewN | apply Kept.drew) | exact HK.out))⟩; have n2_ : Aside0 (Below w0.heap.size w0 wc) := ⟨by rw [← hq_]; exact (below_later HB.out)⟩; clear HO_5 HK HB hq_; have HO_5 := n0_; have HK := n1_; have HB := n2_; clear n0_ n1_ n2_)); have p44 : 0 ≤ ((l5.length : Int) : Int) := dcd; have q44 : ((l5.length : Int) : Int) < ((y128.length : Int) : Int) := dcd; obtain ⟨go44, co44, eo44, gb44, gl44, cl44, HG44⟩ := Kd.R_form HO_5.out (by omega); (first | cases eo44 | (injection eo44 with ea_ en_ ec_; (first | subst ea_ | (injection ea_ with ea_; subst ea_)); subst ec_; clear en_)); have GB44 := Aside0.mk gb44; have GG44 := Aside0.mk HG44; clear gb44 gl44 HG44; have HMgo44 := Aside0.mk (show (P5_ go44 ∨ w.heap.size ≤ go44) from (HO_5.out.1 _ rfl)); obtain ⟨ce44, hcl44, hM44, hcc44, hfr44⟩ := Kd.R_elem HO_5.out z40 ((l5.length : Int) : Int) p44 q44; obtain rfl := k40_openM hM44; have hx44_0 : wc.cell? ⟨go44, ((l5.length : Int) : Int).toNat * 5, none⟩ = some (.int .i64 ((rd_T40 y128 (l5.length : Int)).f0)) := hcc44 0 _ rfl; have hx44_1 : wc.cell? ⟨go44, ((l5.length : Int) : Int).toNat * 5 + 1, none⟩ = some (.int .i64 ((rd_T40 y128 (l5.length : Int)).f1)) := hcc44 1 _ rfl; have hx44_2 : wc.cell? ⟨go44, ((l5.length : Int) : Int).toNat * 5 + 2, none⟩ = some (.int .i64 ((rd_T40 y128 (l5.length : Int)).f2)) := hcc44 2 _ rfl; have hx44_3 : wc.cell? ⟨go44, ((l5.length : Int) : Int).toNat * 5 + 3, none⟩ = some (.string ((rd_T40 y128 (l5.length : Int)).f3)) := hcc44 3 _ rfl; have hx44_4 : wc.cell? ⟨go44, ((l5.length : Int) : Int).toNat * 5 + 4, none⟩ = some (.int .i64 ((rd_T40 y128 (l5.length : Int)).f4)) := hcc44 4 _ rfl; have hf44_0 : wc.frozen? ⟨go44, ((l5.length : Int) : Int).toNat * 5, none⟩ = false := hfr44 0; have hf44_1 : wc.frozen? ⟨go44, ((l5.length : Int) : Int).toNat * 5 + 1, none⟩ = false := hfr44 1; have hf44_2 : wc.frozen? ⟨go44, ((l5.length : Int) : Int).toNat * 5 + 2, none⟩ = false := hfr44 2; have hf44_3 : wc.frozen? ⟨go44, ((l5.length : Int) : Int).toNat * 5 + 3, none⟩ = false := hfr44 3; have hf44_4 : wc.frozen? ⟨go44, ((l5.length : Int) : Int).toNat * 5 + 4, none⟩ = false := hfr44 4; clear hcl44 hcc44 hfr44 hM44; replace p44 := eq_true p44; replace q44 := eq_true q44; have HX46 := Aside0.mk (show Kd.R k40 40 wc w0.heap.size (fun k_ => (P5_ k_ ∨ w.heap.size ≤ k_)) (.slice (some ⟨go44, 0, none⟩) y128.length co44) y128 from (R_later HO_5.out)); obtain ⟨ce46, hcl46, hM46, hcc46, hfr46⟩ := Kd.R_elem HX46.out z40 ((l5.length : Int) : Int) (dcd) (by have h_ : ((l5.length : Int) : Int) < ((y128.length : Int) : Int) := dcd; first | exact h_ | (have e_ := (Kd.R_reads' HO_5.out).1; omega) | simpa using h_); obtain rfl := k40_openM hM46; have HP46 := Kd.R_seg HX46.out ((l5.length : Int) : Int) (dcd) (by have h_ : ((l5.length : Int) : Int) < ((y128.length : Int) : Int) := dcd; first | exact h_ | (have e_ := (Kd.R_reads' HO_5.out).1; omega) | simpa using h_) (seg := [.int .i64 t141]) (j := 4) hcl46 hcc46 (show 5 ≤ 5 from by decide) (x' := (⟨(rd_T40 y128 (l5.length : Int)).f0, (rd_T40 y128 (l5.length : Int)).f1, (rd_T40 y128 (l5.length : Int)).f2, (rd_T40 y128 (l5.length : Int)).f3, t141⟩ : S40)) (k40_mkM _ _ _ (⟨(rd_T40 y128 (l5.length : Int)).f0, (rd_T40 y128 (l5.length : Int)).f1, (rd_T40 y128 (l5.length : Int)).f2, (rd_T40 y128 (l5.length : Int)).f3, t141⟩ : S40) ) (fun _ hk => hk); have hx46_4 := hcc46 4 _ rfl; (try simp only [show (k40).sz = 5 from rfl, Nat.mul_one, Nat.add_zero, Int.toNat_natCast] at hx46_4); have hf46_4 := hfr46 4; (try simp only [show (k40).sz = 5 from rfl, Nat.mul_one, Nat.add_zero, Int.toNat_natCast] at hf46_4); clear hcl46 hcc46 hfr46 hM46) | ((with_reducible refine gate_store (t := 3) (p := 109) rfl ?_); refine st_ 3 109 (wc.setCell ⟨go44, ((l5.length : Int) : Int).toNat * 5 + 4, none⟩ (.int .i64 t141)) ?_; intro w47 hw; have hg : wc.grownBy w47 (some go44) := (by rw [hw]; exact HP46.2); have hp_ : Kd.R k40 40 w47 w0.heap.size (fun k_ => (P5_ k_ ∨ w.heap.size ≤ k_)) (.slice (some ⟨go44, 0, none⟩) y128.length co44) y145 := (by rw [hw, Ny145.out]; exact HP46.1); clear HP46; replace HB := Aside0.mk ((by rw [hw]; exact below_set (HB.out) GB44.out : Below w0.heap.size w0 w47)); replace HK := Aside0.mk (Kept.of_grown (S := (fun k_ => P5_ k_)) hg (by repeat (first | (with_reducible first | exact HK.out | apply Kept.alloc | apply Kept.drewN | apply Kept.drew) | exact HK.out)) (fun k_ e_ => (HO_5.out.1 k_ e_))); replace HO_5 := Aside0.mk (hp_); clear hg hw hp_; have p45 : 0 ≤ ((l5.length : Int) : Int) := dcd; have q45 : ((l5.length : Int) : Int) < ((y128.length : Int) : Int) := dcd; obtain ⟨ce45, hcl45, hM45, hcc45, hfr45⟩ := Kd.R_elem HO_5.out z40 ((l5.length : Int) : Int) p45 q45; obtain rfl := k40_openM hM45; have hx45_0 : w47.cell? ⟨go44, ((l5.length : Int) : Int).toNat * 5, none⟩ = some (.int .i64 ((rd_T40 y145 (l5.length : Int)).f0)) := hcc45 0 _ rfl; have hx45_1 : w47.cell? ⟨go44, ((l5.length : Int) : Int).toNat * 5 + 1, none⟩ = some (.int .i64 ((rd_T40 y145 (l5.length : Int)).f1)) := hcc45 1 _ rfl; have hx45_2 : w47.cell? ⟨go44, ((l5.length : Int) : Int).toNat * 5 + 2, none⟩ = some (.int .i64 ((rd_T40 y145 (l5.length : Int)).f2)) := hcc45 2 _ rfl; have hx45_3 : w47.cell? ⟨go44, ((l5.length : Int) : Int).toNat * 5 + 3, none⟩ = some (.string ((rd_T40 y145 (l5.length : Int)).f3)) := hcc45 3 _ rfl; have hx45_4 : w47.cell? ⟨go44, ((l5.length : Int) : Int).toNat * 5 + 4, none⟩ = some (.int .i64 ((rd_T40 y145 (l5.length : Int)).f4)) := hcc45 4 _ rfl; have hf45_0 : w47.frozen? ⟨go44, ((l5.length : Int) : Int).toNat * 5, none⟩ = false := hfr45 0; have hf45_1 : w47.frozen? ⟨go44, ((l5.length : Int) : Int).toNat * 5 + 1, none⟩ = false := hfr45 1; have hf45_2 : w47.frozen? ⟨go44, ((l5.length : Int) : Int).toNat * 5 + 2, none⟩ = false := hfr45 2; have hf45_3 : w47.frozen? ⟨go44, ((l5.length : Int) : Int).toNat * 5 + 3, none⟩ = false := hfr45 3; have hf45_4 : w47.frozen? ⟨go44, ((l5.length : Int) : Int).toNat * 5 + 4, none⟩ = false := hfr45 4; clear hcl45 hcc45 hfr45 hM45; replace p45 := eq_true p45; replace q45 := eq_true q45; have HX48 := Aside0.mk (show Kd.R k40 40 w47 w0.heap.size (fun k_ => (P5_ k_ ∨ w.heap.size ≤ k_)) (.slice (some ⟨go44, 0, none⟩) y128.length co44) y145 from (R_later HO_5.out)); obtain ⟨ce48, hcl48, hM48, hcc48, hfr48⟩ := Kd.R_elem HX48.out z40 ((l5.length : Int) : Int) (dcd) (by have h_ : ((l5.length : Int) : Int) < ((y128.length : Int) : Int) := dcd; first | exact h_ | (have e_ := (Kd.R_reads' HO_5.out).1; omega) | simpa using h_); obtain rfl := k40_openM hM48; have HP48 := Kd.R_seg HX48.out ((l5.length : Int) : Int) (dcd) (by have h_ : ((l5.length : Int) : Int) < ((y128.length : Int) : Int) := dcd; first | exact h_ | (have e_ := (Kd.R_reads' HO_5.out).1; omega) | simpa using h_) (seg := [.int .i64 t142]) (j := 2) hcl48 hcc48 (show 3 ≤ 5 from by decide) (x' := (⟨(rd_T40 y145 (l5.length : Int)).f0, (rd_T40 y145 (l5.length : Int)).f1, t142, (rd_T40 y145 (l5.length : Int)).f3, (rd_T40 y145 (l5.length : Int)).f4⟩ : S40)) (k40_mkM _ _ _ (⟨(rd_T40 y145 (l5.length : Int)).f0, (rd_T40 y145 (l5.length : Int)).f1, t142, (rd_T40 y145 (l5.length : Int)).f3, (rd_T40 y145 (l5.length : Int)).f4⟩ : S40) ) (fun _ hk => hk); have hx48_2 := hcc48 2 _ rfl; (try simp only [show (k40).sz = 5 from rfl, Nat.mul_one, Nat.add_zero, Int.toNat_natCast] at hx48_2); have hf48_2 := hfr48 2; (try simp only [show (k40).sz = 5 from rfl, Nat.mul_one, Nat.add_zero, Int.toNat_natCast] at hf48_2); clear hcl48 hcc48 hfr48 hM48) | ((with_reducible refine gate_store (t := 3) (p := 114) rfl ?_); refine st_ 3 114 (w47.setCell ⟨go44, ((l5.length : Int) : Int).toNat * 5 + 2, none⟩ (.int .i64 t142)) ?_; intro w49 hw; have hg : w47.grownBy w49 (some go44) := (by rw [hw]; exact HP48.2); have hp_ : Kd.R k40 40 w49 w0.heap.size (fun k_ => (P5_ k_ ∨ w.heap.size ≤ k_)) (.slice (some ⟨go44, 0, none⟩) y128.length co44) y146 := (by rw [hw, Ny146.out]; exact HP48.1); clear HP48; replace HB := Aside0.mk ((by rw [hw]; exact below_set (HB.out) GB44.out : Below w0.heap.size w0 w49)); replace HK := Aside0.mk (Kept.of_grown (S := (fun k_ => P5_ k_)) hg (by repeat (first | (with_reducible first | exact HK.out | apply Kept.alloc | apply Kept.drewN | apply Kept.drew) | exact HK.out)) (fun k_ e_ => (HO_5.out.1 k_ e_))); replace HO_5 := Aside0.mk (hp_); clear hg hw hp_))
                  go_loopg [5, 24, 25, 26] kj12 (fun kq v5 v24 v25 v26 w' => ∃ (x5_3 : List (S40)) (x24_3 : Int) (x25_3 : Int) (x26_3 : Int), v24 = .int .i64 x24_3 ∧ v25 = .int .i64 x25_3 ∧ v26 = .int .i64 x26_3 ∧ Aside0 (spec_l4Read.l0 kq l0 a4 x5_3 t141 t142 x24_3 x25_3 x26_3 = some (r1, r2, r3)) ∧ Aside0 (kq ≤ kj12) ∧ Aside0 (Kd.R k40 40 w' w0.heap.size (fun k_ => (P5_ k_ ∨ w.heap.size ≤ k_)) v5 x5_3) ∧ Aside0 (Kept w w' (fun k_ => P5_ k_)) ∧ Aside0 (Below w0.heap.size w0 w'))
                  case atStart => exact ⟨(y146), (t143), (t144), (0), sr, sr, sr, H', ⟨Nat.le_refl _⟩, ⟨R_later HO_5.out⟩, ⟨by repeat (first | (with_reducible first | exact HK.out | apply Kept.alloc | apply Kept.drewN | apply Kept.drew) | exact HK.out)⟩, ⟨below_later HB.out⟩⟩
                  case round =>
                    clear H'
                    try clear c11
                    try clear c12
                    try clear c17
                    try clear c33
                    try clear c33b0
                    try clear c33b1
                    try clear c40
                    try clear c40b0
                    try clear c40b1
                    try clear c42
                    try clear c42b0
                    try clear c42b1
                    try clear c43
                    try clear c43b0
                    try clear c43b1
                    try clear p44
                    try clear q44
                    try clear p45
                    try clear q45
                    try clear hx44_0
                    try clear hx44_1
                    try clear hx44_2
                    try clear hx44_3
                    try clear hx44_4
                    try clear hx45_0
                    try clear hx45_1
                    try clear hx45_2
                    try clear hx45_3
                    try clear hx45_4
                    try clear hx46_4
                    try clear hx48_2
                    try clear p44
                    try clear p45
                    try clear q44
                    try clear q45
                    obtain ⟨x5_3, x24_3, x25_3, x26_3, rfl, rfl, rfl, HA, HK3, HO_5, HK, HB⟩ := hrel
                    cases gk with
                    | zero => exact absurd HA.out (by simp [spec_l4Read.l0])
                    | succ k3 =>
                      have H := HA.out
                      clear HA
                      simp only [spec_l4Read.l0] at H
                      by_cases c50 : x26_3 < t141
                      · rw [if_pos c50] at H
                        have c50b0 := decide_eq_true c50
                        clear c50
                        by_cases c51 : x25_3 = 0
                        · rw [if_pos c51] at H
                          have c51b0 : (x25_3 == 0) = true := beq_iff_eq.mpr c51
                          have c51b1 : (x25_3 != 0) = false := bne_eq_false_iff_eq.mpr c51
                          clear c51
                          replace H := Option.bind_eq_some_iff.mp H
                          obtain ⟨⟨t147, t150, t151⟩, A520, H⟩ := H
                          replace H : (spec_l4Read.l0 k3 l0 a4 t147 t141 t142 t150 t151 (wrap64 (x26_3 + 1))) = some (r1, r2, r3) := H
                          have A52 := Aside0.mk A520
                          clear A520
                          have H' := Aside0.mk H
                          clear H
                          obtain ⟨Ao53, co53, eo53⟩ := Kd.R_slice HO_5.out
                          subst eo53
                          go_wp2_with (first | ((with_reducible refine gate_callee (f := 12) rfl ?_); refine gl_ (some 131) Try.func12 #[.slice A0 l0.length c0, .int .i64 x24_3, .int .i64 t142, .int .i64 0, .int .i64 (wrap64 (a4 + 1)), .slice Ao53 x5_3.length co53] rfl ?_; (with_reducible refine (ih k3 (by have := HJ6.out; have := HJ12.out; have := HK3.out; omega) _ _ l0 x24_3 t142 0 (wrap64 (a4 + 1)) (fun k_ => some k_ = (.slice Ao53 x5_3.length co53 : Value).ownBlock) (.slice Ao53 x5_3.length co53) x5_3 t147 t150 t151 w0 _ ?side1 ?side2 ?side3 ?side4 A52.out).mono ?_); (case side1 => repeat (first | (with_reducible first | exact HB.out | apply below_alloc | apply pw_below_drewN | apply below_drew1) | exact HB.out)); (case side2 => exact Kd.C_kept_call HR0.out (by repeat (first | (with_reducible first | exact HK.out | apply Kept.alloc | apply Kept.drewN | apply Kept.drew) | exact HK.out)) (fun k_ hs_ => (fun e_ => (HO_5.out.1 k_ e_.symm)) hs_)); (case side3 => exact HC0.out); (case side4 => exact Kd.R_tight rfl HO_5.out); rintro e w54 ⟨v148, rfl, ho0, hb, hkp⟩; refine ⟨_, rfl, ?_⟩; have n0_ := Aside0.mk (Kd.R_mono (ok' := fun k_ => (P5_ k_ ∨ w.heap.size ≤ k_)) ho0 (fun k_ hk_ => Or.elim hk_ (fun hs_ => (HO_5.out.1 k_ (hs_).symm)) (fun hn_ => (.inr (Nat.le_trans (by first | exact HK.out.1 | exact (show Kept w _ (fun k_ => P5_ k_) from by repeat (first | (with_reducible first | exact HK.out | apply Kept.alloc | apply Kept.drewN | apply Kept.drew) | exact HK.out)).1) hn_))))); have n1_ := Aside0.mk (Kept.then_ (S := (fun k_ => P5_ k_)) (by repeat (first | (with_reducible first | exact HK.out | apply Kept.alloc | apply Kept.drewN | apply Kept.drew) | exact HK.out)) hkp (fun k_ hs_ => (fun e_ => (HO_5.out.1 k_ e_.symm)) hs_)); have n2_ := Aside0.mk (hb); clear HK; clear HB; clear HO_5; have HO149 := n0_; have HK := n1_; have HB := n2_; clear n0_ n1_ n2_; (try clear hb); (try clear hkp); (try clear ho0)))
                          go_roundg k3
                          case measure => have := HJ6.out; have := HJ12.out; have := HK3.out; omega
                          case rel => exact ⟨(t147), (t150), (t151), (wrap64 (x26_3 + 1)), sr, sr, sr, H', ⟨by have := HJ6.out; have := HJ12.out; have := HK3.out; omega⟩, ⟨R_later HO149.out⟩, ⟨by repeat (first | (with_reducible first | exact HK.out | apply Kept.alloc | apply Kept.drewN | apply Kept.drew) | exact HK.out)⟩, ⟨below_later HB.out⟩⟩
                        · rw [if_neg c51] at H
                          have c51b0 : (x25_3 == 0) = false := beq_eq_false_iff_ne.mpr c51
                          have c51b1 : (x25_3 != 0) = true := bne_iff_ne.mpr c51
                          simp only [Option.some.injEq, Prod.mk.injEq] at H
                          obtain ⟨rfl, rfl, rfl⟩ := H
                          go_wp2
                          go_ret3
                          exact ⟨_, by first | rfl | (simp [errW_none, errW_some] <;> rfl) | (simp [*, errW_none, errW_some] <;> rfl), by (with_reducible repeat (first | apply Kd.R_alloc | apply Kd.R_drewN | apply Kd.R_drew)); exact HO_5.out, below_later HB.out, by repeat (first | (with_reducible first | exact HK.out | apply Kept.alloc | apply Kept.drewN | apply Kept.drew) | exact HK.out)⟩
                      · rw [if_neg c50] at H
                        have c50b0 := decide_eq_false c50
                        clear c50
                        simp only [Option.some.injEq, Prod.mk.injEq] at H
                        obtain ⟨rfl, rfl, rfl⟩ := H
                        go_wp2
                        go_ret3
                        exact ⟨_, by first | rfl | (simp [errW_none, errW_some] <;> rfl) | (simp [*, errW_none, errW_some] <;> rfl), by (with_reducible repeat (first | apply Kd.R_alloc | apply Kd.R_drewN | apply Kd.R_drew)); exact HO_5.out, below_later HB.out, by repeat (first | (with_reducible first | exact HK.out | apply Kept.alloc | apply Kept.drewN | apply Kept.drew) | exact HK.out)⟩
                · rw [if_neg c40] at H
                  have c40b0 : (a2 == 9) = false := beq_eq_false_iff_ne.mpr c40
                  have c40b1 : (a2 != 9) = true := bne_iff_ne.mpr c40
                  by_cases c55 : a2 = 12
                  · rw [if_pos c55] at H
                    have c55b0 : (a2 == 12) = true := beq_iff_eq.mpr c55
                    have c55b1 : (a2 != 12) = false := bne_eq_false_iff_eq.mpr c55
                    clear c55
                    have H' := Aside0.mk H
                    clear H
                    go_wp2
                    go_loopg [1, 5, 27, 28] kj12 (fun kq v1 v5 v27 v28 w' => ∃ (x1_3 : Int) (x5_3 : List (S40)) (x27_3 : Int) (x28_3 : Int), v1 = .int .i64 x1_3 ∧ v27 = .int .i64 x27_3 ∧ v28 = .int .i64 x28_3 ∧ Aside0 (spec_l4Read.l1 kq l0 x1_3 a4 x5_3 (l5.length : Int) x27_3 x28_3 = some (r1, r2, r3)) ∧ Aside0 (kq ≤ kj12) ∧ Aside0 (Kd.R k40 40 w' w0.heap.size (fun k_ => (P5_ k_ ∨ w.heap.size ≤ k_)) v5 x5_3) ∧ Aside0 (Kept w w' (fun k_ => P5_ k_)) ∧ Aside0 (Below w0.heap.size w0 w'))
                    case atStart => exact ⟨(a1), (y128), (0), (0), sr, sr, sr, H', ⟨Nat.le_refl _⟩, ⟨R_later HO_5.out⟩, ⟨by repeat (first | (with_reducible first | exact HK.out | apply Kept.alloc | apply Kept.drewN | apply Kept.drew) | exact HK.out)⟩, ⟨below_later HB.out⟩⟩
                    case round =>
                      clear H'
                      try clear c11
                      try clear c12
                      try clear c17
                      try clear c33
                      try clear c33b0
                      try clear c33b1
                      try clear c40
                      try clear c40b0
                      try clear c40b1
                      try clear c55
                      try clear c55b0
                      try clear c55b1
                      obtain ⟨x1_3, x5_3, x27_3, x28_3, rfl, rfl, rfl, HA, HK3, HO_5, HK, HB⟩ := hrel
                      cases gk with
                      | zero => exact absurd HA.out (by simp [spec_l4Read.l1])
                      | succ k3 =>
                        have H := HA.out
                        clear HA
                        simp only [spec_l4Read.l1] at H
                        replace H := Option.bind_eq_some_iff.mp H
                        obtain ⟨⟨t152, t153, t154, t155⟩, A560, H⟩ := H
                        replace H : (if t155 = 0 then (if t152 = 0 then (if 0 ≤ (l5.length : Int) then (if (l5.length : Int) < (x5_3.length : Int) then (some ((x5_3.set ((l5.length : Int) : Int).toNat (⟨(rd_T40 x5_3 (l5.length : Int)).f0, (rd_T40 x5_3 (l5.length : Int)).f1, (rd_T40 x5_3 (l5.length : Int)).f2, (rd_T40 x5_3 (l5.length : Int)).f3, x28_3⟩ : S40)), t154, 0)) else (none)) else (none)) else ((spec_l4Read.f k3 l0 t154 t152 t153 (wrap64 (a4 + 1)) x5_3).bind fun bt157 => (if bt157.2.2 = 0 then (spec_l4Read.l1 k3 l0 bt157.2.1 a4 bt157.1 (l5.length : Int) t153 (wrap64 (x28_3 + 1))) else (some (bt157.1, 0, bt157.2.2))))) else (some (x5_3, 0, t155))) = some (r1, r2, r3) := H
                        have A56 := Aside0.mk A560
                        clear A560
                        by_cases c57 : t155 = 0
                        · rw [if_pos c57] at H
                          have c57b0 : (t155 == 0) = true := beq_iff_eq.mpr c57
                          have c57b1 : (t155 != 0) = false := bne_eq_false_iff_eq.mpr c57
                          clear c57
                          by_cases c58 : t152 = 0
                          · rw [if_pos c58] at H
                            have c58b0 : (t152 == 0) = true := beq_iff_eq.mpr c58
                            have c58b1 : (t152 != 0) = false := bne_eq_false_iff_eq.mpr c58
                            clear c58
                            replace H := ifs H
                            obtain ⟨c59, H⟩ := H
                            have c59b0 := decide_eq_true c59
                            have c59b1 : decide (0 ≤ l5.length) = true := decide_eq_true (by omega)
                            clear c59
                            replace H := ifs H
                            obtain ⟨c60, H⟩ := H
                            have c60b0 := decide_eq_true c60
                            have c60b1 : decide (l5.length < x5_3.length) = true := decide_eq_true (Int.ofNat_lt.mp c60)
                            clear c60
                            obtain ⟨y156, hy156⟩ : ∃ y_ : List (S40), y_ = (x5_3.set ((l5.length : Int) : Int).toNat (⟨(rd_T40 x5_3 (l5.length : Int)).f0, (rd_T40 x5_3 (l5.length : Int)).f1, (rd_T40 x5_3 (l5.length : Int)).f2, (rd_T40 x5_3 (l5.length : Int)).f3, x28_3⟩ : S40)) := ⟨_, rfl⟩
                            replace H : (some (y156, t154, 0)) = some (r1, r2, r3) := by first | (rw [hy156]; with_reducible exact H) | (rw [hy156]; exact H) | exact H
                            have Ny156 := Aside0.mk hy156
                            clear hy156
                            simp only [Option.some.injEq, Prod.mk.injEq] at H
                            obtain ⟨rfl, rfl, rfl⟩ := H
                            go_wp2_with (first | ((with_reducible refine gate_callee (f := 21) rfl ?_); refine gl_ (some 144) Try.func21 #[.slice A0 l0.length c0, .int .i64 x1_3, .int .i64 x27_3] rfl ?_; (with_reducible refine (spec_l4Head.calls k3 _ _ l0 x1_3 x27_3 t152 t153 t154 t155 _ ?side1 ?side2 A56.out).mono ?_); (case side1 => exact Kd.C_kept_now HR0.out (by repeat (first | (with_reducible first | exact HK.out | apply Kept.alloc | apply Kept.drewN | apply Kept.drew) | exact HK.out))); (case side2 => exact HC0.out); rintro e w' ⟨rfl, ⟨nd, rfl⟩⟩; refine ⟨_, rfl, ?_⟩; (try (rw [drewN_self wr]; generalize hq_ : World.drewN wr _ = wr; have n0_ : Aside0 (Kd.R k40 40 wr w0.heap.size (fun k_ => (P5_ k_ ∨ w.heap.size ≤ k_)) u5 x5_3) := ⟨by rw [← hq_]; exact (R_later HO_5.out)⟩; have n1_ : Aside0 (Kept w wr (fun k_ => P5_ k_)) := ⟨by rw [← hq_]; exact (by repeat (first | (with_reducible first | exact HK.out | apply Kept.alloc | apply Kept.drewN | apply Kept.drew) | exact HK.out))⟩; have n2_ : Aside0 (Below w0.heap.size w0 wr) := ⟨by rw [← hq_]; exact (below_later HB.out)⟩; clear HO_5 HK HB hq_; have HO_5 := n0_; have HK := n1_; have HB := n2_; clear n0_ n1_ n2_)); have p61 : 0 ≤ ((l5.length : Int) : Int) := dcd; have q61 : ((l5.length : Int) : Int) < ((x5_3.length : Int) : Int) := dcd; obtain ⟨go61, co61, eo61, gb61, gl61, cl61, HG61⟩ := Kd.R_form HO_5.out (by omega); (first | cases eo61 | (injection eo61 with ea_ en_ ec_; (first | subst ea_ | (injection ea_ with ea_; subst ea_)); subst ec_; clear en_)); have GB61 := Aside0.mk gb61; have GG61 := Aside0.mk HG61; clear gb61 gl61 HG61; have HMgo61 := Aside0.mk (show (P5_ go61 ∨ w.heap.size ≤ go61) from (HO_5.out.1 _ rfl)); obtain ⟨ce61, hcl61, hM61, hcc61, hfr61⟩ := Kd.R_elem HO_5.out z40 ((l5.length : Int) : Int) p61 q61; obtain rfl := k40_openM hM61; have hx61_0 : wr.cell? ⟨go61, ((l5.length : Int) : Int).toNat * 5, none⟩ = some (.int .i64 ((rd_T40 x5_3 (l5.length : Int)).f0)) := hcc61 0 _ rfl; have hx61_1 : wr.cell? ⟨go61, ((l5.length : Int) : Int).toNat * 5 + 1, none⟩ = some (.int .i64 ((rd_T40 x5_3 (l5.length : Int)).f1)) := hcc61 1 _ rfl; have hx61_2 : wr.cell? ⟨go61, ((l5.length : Int) : Int).toNat * 5 + 2, none⟩ = some (.int .i64 ((rd_T40 x5_3 (l5.length : Int)).f2)) := hcc61 2 _ rfl; have hx61_3 : wr.cell? ⟨go61, ((l5.length : Int) : Int).toNat * 5 + 3, none⟩ = some (.string ((rd_T40 x5_3 (l5.length : Int)).f3)) := hcc61 3 _ rfl; have hx61_4 : wr.cell? ⟨go61, ((l5.length : Int) : Int).toNat * 5 + 4, none⟩ = some (.int .i64 ((rd_T40 x5_3 (l5.length : Int)).f4)) := hcc61 4 _ rfl; have hf61_0 : wr.frozen? ⟨go61, ((l5.length : Int) : Int).toNat * 5, none⟩ = false := hfr61 0; have hf61_1 : wr.frozen? ⟨go61, ((l5.length : Int) : Int).toNat * 5 + 1, none⟩ = false := hfr61 1; have hf61_2 : wr.frozen? ⟨go61, ((l5.length : Int) : Int).toNat * 5 + 2, none⟩ = false := hfr61 2; have hf61_3 : wr.frozen? ⟨go61, ((l5.length : Int) : Int).toNat * 5 + 3, none⟩ = false := hfr61 3; have hf61_4 : wr.frozen? ⟨go61, ((l5.length : Int) : Int).toNat * 5 + 4, none⟩ = false := hfr61 4; clear hcl61 hcc61 hfr61 hM61; replace p61 := eq_true p61; replace q61 := eq_true q61; have HX62 := Aside0.mk (show Kd.R k40 40 wr w0.heap.size (fun k_ => (P5_ k_ ∨ w.heap.size ≤ k_)) (.slice (some ⟨go61, 0, none⟩) x5_3.length co61) x5_3 from (R_later HO_5.out)); obtain ⟨ce62, hcl62, hM62, hcc62, hfr62⟩ := Kd.R_elem HX62.out z40 ((l5.length : Int) : Int) (dcd) (by have h_ : ((l5.length : Int) : Int) < ((x5_3.length : Int) : Int) := dcd; first | exact h_ | (have e_ := (Kd.R_reads' HO_5.out).1; omega) | simpa using h_); obtain rfl := k40_openM hM62; have HP62 := Kd.R_seg HX62.out ((l5.length : Int) : Int) (dcd) (by have h_ : ((l5.length : Int) : Int) < ((x5_3.length : Int) : Int) := dcd; first | exact h_ | (have e_ := (Kd.R_reads' HO_5.out).1; omega) | simpa using h_) (seg := [.int .i64 x28_3]) (j := 4) hcl62 hcc62 (show 5 ≤ 5 from by decide) (x' := (⟨(rd_T40 x5_3 (l5.length : Int)).f0, (rd_T40 x5_3 (l5.length : Int)).f1, (rd_T40 x5_3 (l5.length : Int)).f2, (rd_T40 x5_3 (l5.length : Int)).f3, x28_3⟩ : S40)) (k40_mkM _ _ _ (⟨(rd_T40 x5_3 (l5.length : Int)).f0, (rd_T40 x5_3 (l5.length : Int)).f1, (rd_T40 x5_3 (l5.length : Int)).f2, (rd_T40 x5_3 (l5.length : Int)).f3, x28_3⟩ : S40) ) (fun _ hk => hk); have hx62_4 := hcc62 4 _ rfl; (try simp only [show (k40).sz = 5 from rfl, Nat.mul_one, Nat.add_zero, Int.toNat_natCast] at hx62_4); have hf62_4 := hfr62 4; (try simp only [show (k40).sz = 5 from rfl, Nat.mul_one, Nat.add_zero, Int.toNat_natCast] at hf62_4); clear hcl62 hcc62 hfr62 hM62) | ((with_reducible refine gate_store (t := 3) (p := 159) rfl ?_); refine st_ 3 159 (wr.setCell ⟨go61, ((l5.length : Int) : Int).toNat * 5 + 4, none⟩ (.int .i64 x28_3)) ?_; intro w63 hw; have hg : wr.grownBy w63 (some go61) := (by rw [hw]; exact HP62.2); have hp_ : Kd.R k40 40 w63 w0.heap.size (fun k_ => (P5_ k_ ∨ w.heap.size ≤ k_)) (.slice (some ⟨go61, 0, none⟩) x5_3.length co61) y156 := (by rw [hw, Ny156.out]; exact HP62.1); clear HP62; replace HB := Aside0.mk ((by rw [hw]; exact below_set (HB.out) GB61.out : Below w0.heap.size w0 w63)); replace HK := Aside0.mk (Kept.of_grown (S := (fun k_ => P5_ k_)) hg (by repeat (first | (with_reducible first | exact HK.out | apply Kept.alloc | apply Kept.drewN | apply Kept.drew) | exact HK.out)) (fun k_ e_ => (HO_5.out.1 k_ e_))); replace HO_5 := Aside0.mk (hp_); clear hg hw hp_))
                            go_ret3
                            exact ⟨_, by first | rfl | (simp [errW_none, errW_some] <;> rfl) | (simp [*, errW_none, errW_some] <;> rfl), by (with_reducible repeat (first | apply Kd.R_alloc | apply Kd.R_drewN | apply Kd.R_drew)); exact HO_5.out, below_later HB.out, by repeat (first | (with_reducible first | exact HK.out | apply Kept.alloc | apply Kept.drewN | apply Kept.drew) | exact HK.out)⟩
                          · rw [if_neg c58] at H
                            have c58b0 : (t152 == 0) = false := beq_eq_false_iff_ne.mpr c58
                            have c58b1 : (t152 != 0) = true := bne_iff_ne.mpr c58
                            replace H := Option.bind_eq_some_iff.mp H
                            obtain ⟨⟨t157, t160, t161⟩, A640, H⟩ := H
                            replace H : (if t161 = 0 then (spec_l4Read.l1 k3 l0 t160 a4 t157 (l5.length : Int) t153 (wrap64 (x28_3 + 1))) else (some (t157, 0, t161))) = some (r1, r2, r3) := H
                            have A64 := Aside0.mk A640
                            clear A640
                            by_cases c65 : t161 = 0
                            · rw [if_pos c65] at H
                              have c65b0 : (t161 == 0) = true := beq_iff_eq.mpr c65
                              have c65b1 : (t161 != 0) = false := bne_eq_false_iff_eq.mpr c65
                              clear c65
                              have H' := Aside0.mk H
                              clear H
                              go_wp2_with (first | ((with_reducible refine gate_callee (f := 21) rfl ?_); refine gl_ (some 144) Try.func21 #[.slice A0 l0.length c0, .int .i64 x1_3, .int .i64 x27_3] rfl ?_; (with_reducible refine (spec_l4Head.calls k3 _ _ l0 x1_3 x27_3 t152 t153 t154 t155 _ ?side1 ?side2 A56.out).mono ?_); (case side1 => exact Kd.C_kept_now HR0.out (by repeat (first | (with_reducible first | exact HK.out | apply Kept.alloc | apply Kept.drewN | apply Kept.drew) | exact HK.out))); (case side2 => exact HC0.out); rintro e w' ⟨rfl, ⟨nd, rfl⟩⟩; refine ⟨_, rfl, ?_⟩; obtain ⟨Ao66, co66, eo66⟩ := Kd.R_slice HO_5.out; subst eo66) | ((with_reducible refine gate_callee (f := 12) rfl ?_); refine gl_ (some 170) Try.func12 #[.slice A0 l0.length c0, .int .i64 t154, .int .i64 t152, .int .i64 t153, .int .i64 (wrap64 (a4 + 1)), .slice Ao66 x5_3.length co66] rfl ?_; (with_reducible refine (ih k3 (by have := HJ6.out; have := HJ12.out; have := HK3.out; omega) _ _ l0 t154 t152 t153 (wrap64 (a4 + 1)) (fun k_ => some k_ = (.slice Ao66 x5_3.length co66 : Value).ownBlock) (.slice Ao66 x5_3.length co66) x5_3 t157 t160 t161 w0 _ ?side1 ?side2 ?side3 ?side4 A64.out).mono ?_); (case side1 => repeat (first | (with_reducible first | exact HB.out | apply below_alloc | apply pw_below_drewN | apply below_drew1) | exact HB.out)); (case side2 => exact Kd.C_kept_call HR0.out (by repeat (first | (with_reducible first | exact HK.out | apply Kept.alloc | apply Kept.drewN | apply Kept.drew) | exact HK.out)) (fun k_ hs_ => (fun e_ => (HO_5.out.1 k_ e_.symm)) hs_)); (case side3 => exact HC0.out); (case side4 => exact Kd.R_tight rfl HO_5.out); rintro e w67 ⟨v158, rfl, ho0, hb, hkp⟩; refine ⟨_, rfl, ?_⟩; have n0_ := Aside0.mk (Kd.R_mono (ok' := fun k_ => (P5_ k_ ∨ w.heap.size ≤ k_)) ho0 (fun k_ hk_ => Or.elim hk_ (fun hs_ => (HO_5.out.1 k_ (hs_).symm)) (fun hn_ => (.inr (Nat.le_trans (by first | exact HK.out.1 | exact (show Kept w _ (fun k_ => P5_ k_) from by repeat (first | (with_reducible first | exact HK.out | apply Kept.alloc | apply Kept.drewN | apply Kept.drew) | exact HK.out)).1) hn_))))); have n1_ := Aside0.mk (Kept.then_ (S := (fun k_ => P5_ k_)) (by repeat (first | (with_reducible first | exact HK.out | apply Kept.alloc | apply Kept.drewN | apply Kept.drew) | exact HK.out)) hkp (fun k_ hs_ => (fun e_ => (HO_5.out.1 k_ e_.symm)) hs_)); have n2_ := Aside0.mk (hb); clear HK; clear HB; clear HO_5; have HO159 := n0_; have HK := n1_; have HB := n2_; clear n0_ n1_ n2_; (try clear hb); (try clear hkp); (try clear ho0)))
                              go_roundg k3
                              case measure => have := HJ6.out; have := HJ12.out; have := HK3.out; omega
                              case rel => exact ⟨(t160), (t157), (t153), (wrap64 (x28_3 + 1)), sr, sr, sr, H', ⟨by have := HJ6.out; have := HJ12.out; have := HK3.out; omega⟩, ⟨R_later HO159.out⟩, ⟨by repeat (first | (with_reducible first | exact HK.out | apply Kept.alloc | apply Kept.drewN | apply Kept.drew) | exact HK.out)⟩, ⟨below_later HB.out⟩⟩
                            · rw [if_neg c65] at H
                              have c65b0 : (t161 == 0) = false := beq_eq_false_iff_ne.mpr c65
                              have c65b1 : (t161 != 0) = true := bne_iff_ne.mpr c65
                              simp only [Option.some.injEq, Prod.mk.injEq] at H
                              obtain ⟨rfl, rfl, rfl⟩ := H
                              go_wp2_with (first | ((with_reducible refine gate_callee (f := 21) rfl ?_); refine gl_ (some 144) Try.func21 #[.slice A0 l0.length c0, .int .i64 x1_3, .int .i64 x27_3] rfl ?_; (with_reducible refine (spec_l4Head.calls k3 _ _ l0 x1_3 x27_3 t152 t153 t154 t155 _ ?side1 ?side2 A56.out).mono ?_); (case side1 => exact Kd.C_kept_now HR0.out (by repeat (first | (with_reducible first | exact HK.out | apply Kept.alloc | apply Kept.drewN | apply Kept.drew) | exact HK.out))); (case side2 => exact HC0.out); rintro e w' ⟨rfl, ⟨nd, rfl⟩⟩; refine ⟨_, rfl, ?_⟩; obtain ⟨Ao68, co68, eo68⟩ := Kd.R_slice HO_5.out; subst eo68) | ((with_reducible refine gate_callee (f := 12) rfl ?_); refine gl_ (some 170) Try.func12 #[.slice A0 l0.length c0, .int .i64 t154, .int .i64 t152, .int .i64 t153, .int .i64 (wrap64 (a4 + 1)), .slice Ao68 x5_3.length co68] rfl ?_; (with_reducible refine (ih k3 (by have := HJ6.out; have := HJ12.out; have := HK3.out; omega) _ _ l0 t154 t152 t153 (wrap64 (a4 + 1)) (fun k_ => some k_ = (.slice Ao68 x5_3.length co68 : Value).ownBlock) (.slice Ao68 x5_3.length co68) x5_3 t157 t160 t161 w0 _ ?side1 ?side2 ?side3 ?side4 A64.out).mono ?_); (case side1 => repeat (first | (with_reducible first | exact HB.out | apply below_alloc | apply pw_below_drewN | apply below_drew1) | exact HB.out)); (case side2 => exact Kd.C_kept_call HR0.out (by repeat (first | (with_reducible first | exact HK.out | apply Kept.alloc | apply Kept.drewN | apply Kept.drew) | exact HK.out)) (fun k_ hs_ => (fun e_ => (HO_5.out.1 k_ e_.symm)) hs_)); (case side3 => exact HC0.out); (case side4 => exact Kd.R_tight rfl HO_5.out); rintro e w69 ⟨v158, rfl, ho0, hb, hkp⟩; refine ⟨_, rfl, ?_⟩; have n0_ := Aside0.mk (Kd.R_mono (ok' := fun k_ => (P5_ k_ ∨ w.heap.size ≤ k_)) ho0 (fun k_ hk_ => Or.elim hk_ (fun hs_ => (HO_5.out.1 k_ (hs_).symm)) (fun hn_ => (.inr (Nat.le_trans (by first | exact HK.out.1 | exact (show Kept w _ (fun k_ => P5_ k_) from by repeat (first | (with_reducible first | exact HK.out | apply Kept.alloc | apply Kept.drewN | apply Kept.drew) | exact HK.out)).1) hn_))))); have n1_ := Aside0.mk (Kept.then_ (S := (fun k_ => P5_ k_)) (by repeat (first | (with_reducible first | exact HK.out | apply Kept.alloc | apply Kept.drewN | apply Kept.drew) | exact HK.out)) hkp (fun k_ hs_ => (fun e_ => (HO_5.out.1 k_ e_.symm)) hs_)); have n2_ := Aside0.mk (hb); clear HK; clear HB; clear HO_5; have HO159 := n0_; have HK := n1_; have HB := n2_; clear n0_ n1_ n2_; (try clear hb); (try clear hkp); (try clear ho0)))
                              go_ret3
                              exact ⟨_, by first | rfl | (simp [errW_none, errW_some] <;> rfl) | (simp [*, errW_none, errW_some] <;> rfl), by (with_reducible repeat (first | apply Kd.R_alloc | apply Kd.R_drewN | apply Kd.R_drew)); exact HO159.out, below_later HB.out, by repeat (first | (with_reducible first | exact HK.out | apply Kept.alloc | apply Kept.drewN | apply Kept.drew) | exact HK.out)⟩
                        · rw [if_neg c57] at H
                          have c57b0 : (t155 == 0) = false := beq_eq_false_iff_ne.mpr c57
                          have c57b1 : (t155 != 0) = true := bne_iff_ne.mpr c57
                          simp only [Option.some.injEq, Prod.mk.injEq] at H
                          obtain ⟨rfl, rfl, rfl⟩ := H
                          go_wp2_with (first | ((with_reducible refine gate_callee (f := 21) rfl ?_); refine gl_ (some 144) Try.func21 #[.slice A0 l0.length c0, .int .i64 x1_3, .int .i64 x27_3] rfl ?_; (with_reducible refine (spec_l4Head.calls k3 _ _ l0 x1_3 x27_3 t152 t153 t154 t155 _ ?side1 ?side2 A56.out).mono ?_); (case side1 => exact Kd.C_kept_now HR0.out (by repeat (first | (with_reducible first | exact HK.out | apply Kept.alloc | apply Kept.drewN | apply Kept.drew) | exact HK.out))); (case side2 => exact HC0.out); rintro e w' ⟨rfl, ⟨nd, rfl⟩⟩; refine ⟨_, rfl, ?_⟩))
                          go_ret3
                          exact ⟨_, by first | rfl | (simp [errW_none, errW_some] <;> rfl) | (simp [*, errW_none, errW_some] <;> rfl), by (with_reducible repeat (first | apply Kd.R_alloc | apply Kd.R_drewN | apply Kd.R_drew)); exact HO_5.out, below_later HB.out, by repeat (first | (with_reducible first | exact HK.out | apply Kept.alloc | apply Kept.drewN | apply Kept.drew) | exact HK.out)⟩
                  · rw [if_neg c55] at H
                    have c55b0 : (a2 == 12) = false := beq_eq_false_iff_ne.mpr c55
                    have c55b1 : (a2 != 12) = true := bne_iff_ne.mpr c55
                    simp only [Option.some.injEq, Prod.mk.injEq] at H
                    obtain ⟨rfl, rfl, rfl⟩ := H
                    go_wp2
                    go_ret3
                    exact ⟨_, by first | rfl | (simp [errW_none, errW_some] <;> rfl) | (simp [*, errW_none, errW_some] <;> rfl), by (with_reducible repeat (first | apply Kd.R_alloc | apply Kd.R_drewN | apply Kd.R_drew)); exact HO_5.out, below_later HB.out, by repeat (first | (with_reducible first | exact HK.out | apply Kept.alloc | apply Kept.drewN | apply Kept.drew) | exact HK.out)⟩
/-! ### spec_TreeRead: function 4 -/
def spec_TreeRead.j0 : Nat → List Int → Int → Bool → Option ((List (S40)) × Int × Int)
  | 0, _, _, _ => none
  | k + 1, x0, x1, x17 => if x17 = true then (some ((([] : List (S40))), 0, 1)) else ((spec_l4Read.f k x0 x1 12 0 1 (([] : List (S40)))).bind fun bt168 => (if bt168.2.2 = 0 then (some (bt168.1, bt168.2.1, bt168.2.2)) else (some ((([] : List (S40))), 0, bt168.2.2))))
def spec_TreeRead.f (k : Nat) (l0 : List Int) (a1 : Int) : Option ((List (S40)) × Int × Int) := if a1 < 0 then (spec_TreeRead.j0 k l0 a1 true) else (spec_TreeRead.j0 k l0 a1 (decide (a1 ≥ (l0.length : Int))))
set_option maxHeartbeats 8000000 in
set_option maxRecDepth 100000 in
theorem spec_TreeRead.calls (k : Nat) (A0 : Option Addr) (c0 : Nat) (l0 : List Int) (a1 : Int) (r1 : List (S40)) (r2 : Int) (r3 : Int) (w : World) (hr0 : Kd.C (Kd.int .u8) w A0 l0.length l0) (hc0 : l0.length ≤ c0) (h : spec_TreeRead.f k l0 a1 = some (r1, r2, r3)) :
    Calls Try.prog 4 #[.slice A0 l0.length c0, .int .i64 a1] w fun e w' => ∃ v0_ : Value, e = .returned (.tuple #[v0_, .int .i64 r2, .int .i64 r3]) ∧ Kd.R k40 40 w' w.heap.size (fun _ => True) v0_ r1 ∧ Below w.heap.size w w' := by
  have HR0 := Aside0.mk hr0
  have HC0 := Aside0.mk hc0
  clear hr0 hc0
  have HB := Aside0.mk (Below.refl w.heap.size w)
  have H : (if a1 < 0 then (spec_TreeRead.j0 k l0 a1 true) else (spec_TreeRead.j0 k l0 a1 (decide (a1 ≥ (l0.length : Int))))) = some (r1, r2, r3) := h
  clear h
  have HC3 := Aside0.mk H
  clear H
  go_enter Try.func4, Try.ntmps4
  go_upto_region 1 with (fail)
  go_cut [17] (fun v17 wc => ∃ (kq : Nat) (x17_2 : Bool), v17 = .bool x17_2 ∧ Aside0 (spec_TreeRead.j0 kq l0 a1 x17_2 = some (r1, r2, r3)) ∧ Aside0 (kq ≤ k) ∧ Aside0 (Below w.heap.size w wc))
  case first =>
    have H := HC3.out
    clear HC3
    by_cases c4 : a1 < 0
    · rw [if_pos c4] at H
      have c4b0 := decide_eq_true c4
      clear c4
      (first | rw [c4b0] | (simp only [i64_w, i32_w]; rw [c4b0]) | skip)
      have H' := Aside0.mk H
      clear H
      go_wp2
      go_meet
      case rel => exact ⟨_, (true), sr, H', ⟨by first | omega | exact Nat.le_refl _⟩, ⟨below_later HB.out⟩⟩
    · rw [if_neg c4] at H
      have c4b0 := decide_eq_false c4
      clear c4
      (first | rw [c4b0] | (simp only [i64_w, i32_w]; rw [c4b0]) | skip)
      have H' := Aside0.mk H
      clear H
      go_wp2
      go_meet
      case rel => exact ⟨_, (decide (a1 ≥ (l0.length : Int))), sr, H', ⟨by first | omega | exact Nat.le_refl _⟩, ⟨below_later HB.out⟩⟩
  case rest =>
    clear HC3
    obtain ⟨kq, x17_2, rfl, HA, HJ2, HB⟩ := hcut
    cases kq with
    | zero => exact absurd HA.out (by simp [spec_TreeRead.j0])
    | succ kj2 =>
      have H := HA.out
      clear HA
      simp only [spec_TreeRead.j0] at H
      by_cases c5 : x17_2 = true
      · subst c5
        replace H := ifp rfl H
        obtain ⟨y162, hy162⟩ : ∃ y_ : List (S40), y_ = (([] : List (S40))) := ⟨_, rfl⟩
        replace H : (some (y162, 0, 1)) = some (r1, r2, r3) := by first | (rw [hy162]; with_reducible exact H) | (rw [hy162]; exact H) | exact H
        have Ny162 := Aside0.mk hy162
        clear hy162
        simp only [Option.some.injEq, Prod.mk.injEq] at H
        obtain ⟨rfl, rfl, rfl⟩ := H
        go_wp2_with (first | ((with_reducible refine gate_dst (N := 18) rfl ?_); (try (refine gate_guard (by rfl) ?_; dsimp only)); refine Kd.R_lit k40 _ 40 ?hg (N := 18) ?hd (xs := ([] : List (S40))) (inner := []) (ok := fun _ => True) (okp := fun _ => True) ?hr ?hp (fun _ hk => hk) trivial (Below.refl _ _) (Nat.le_refl _) (by simp) ?_; (case hd => rfl); (case hg => rfl); (case hr => first | (go_simp; done) | (go_simp; rfl)); (case hp => exact (Reps.none _ _)); intro v163 w6 ho7 hb hg_ hnew_; clear hg_ hnew_; (first | rw [← Ny162.out] at ho7 | (simp only [Int.reduceToNat] at ho7; rw [← Ny162.out] at ho7)); have HO164 := Aside0.mk (Kd.R_lower ho7 (below_size (below_later HB.out))); replace HB := bst HB hb; clear hb ho7))
        go_ret3
        exact ⟨_, by first | rfl | (simp [errW_none, errW_some] <;> rfl) | (simp [*, errW_none, errW_some] <;> rfl), by (with_reducible repeat (first | apply Kd.R_alloc | apply Kd.R_drewN | apply Kd.R_drew)); exact HO164.out, below_later HB.out⟩
      · replace c5 := Bool.eq_false_iff.mpr c5
        subst c5
        replace H := ifn Bool.false_ne_true H
        obtain ⟨y165, hy165⟩ : ∃ y_ : List (S40), y_ = (([] : List (S40))) := ⟨_, rfl⟩
        replace H : ((spec_l4Read.f kj2 l0 a1 12 0 1 y165).bind fun bt168 => (if bt168.2.2 = 0 then (some (bt168.1, bt168.2.1, bt168.2.2)) else (some ((([] : List (S40))), 0, bt168.2.2)))) = some (r1, r2, r3) := by first | (rw [hy165]; with_reducible exact H) | (rw [hy165]; exact H) | exact H
        have Ny165 := Aside0.mk hy165
        clear hy165
        replace H := Option.bind_eq_some_iff.mp H
        obtain ⟨⟨t168, t171, t172⟩, A80, H⟩ := H
        replace H : (if t172 = 0 then (some (t168, t171, t172)) else (some ((([] : List (S40))), 0, t172))) = some (r1, r2, r3) := H
        have A8 := Aside0.mk A80
        clear A80
        by_cases c9 : t172 = 0
        · rw [if_pos c9] at H
          have c9b0 : (t172 == 0) = true := beq_iff_eq.mpr c9
          have c9b1 : (t172 != 0) = false := bne_eq_false_iff_eq.mpr c9
          clear c9
          simp only [Option.some.injEq, Prod.mk.injEq] at H
          obtain ⟨rfl, rfl, rfl⟩ := H
          go_wp2_with (first | ((with_reducible refine gate_dst (N := 22) rfl ?_); (try (refine gate_guard (by rfl) ?_; dsimp only)); refine Kd.R_lit k40 _ 40 ?hg (N := 22) ?hd (xs := ([] : List (S40))) (inner := []) (ok := fun _ => True) (okp := fun _ => True) ?hr ?hp (fun _ hk => hk) trivial (Below.refl _ _) (Nat.le_refl _) (by simp) ?_; (case hd => rfl); (case hg => rfl); (case hr => first | (go_simp; done) | (go_simp; rfl)); (case hp => exact (Reps.none _ _)); intro v166 w10 ho11 hb hg_ hnew_; clear hg_ hnew_; (first | rw [← Ny165.out] at ho11 | (simp only [Int.reduceToNat] at ho11; rw [← Ny165.out] at ho11)); have HO167 := Aside0.mk (Kd.R_lower ho11 (below_size (below_later HB.out))); replace HB := bst HB hb; clear hb ho11; obtain ⟨Ao12, co12, eo12⟩ := Kd.R_slice HO167.out; subst eo12) | ((with_reducible refine gate_callee (f := 12) rfl ?_); refine gl_ (some 23) Try.func12 #[.slice A0 l0.length c0, .int .i64 a1, .int .i64 12, .int .i64 0, .int .i64 1, .slice Ao12 y165.length co12] rfl ?_; (with_reducible refine (spec_l4Read.calls kj2 _ _ l0 a1 12 0 1 (fun k_ => some k_ = (.slice Ao12 y165.length co12 : Value).ownBlock) (.slice Ao12 y165.length co12) y165 t168 t171 t172 w _ ?side1 ?side2 ?side3 ?side4 A8.out).mono ?_); (case side1 => repeat (first | (with_reducible first | exact HB.out | apply below_alloc | apply pw_below_drewN | apply below_drew1) | exact HB.out)); (case side2 => exact Kd.C_kept_came (Kd.heap_int .u8) HR0.out (below_later HB.out) (fun k_ hs_ => (fun e_ => Kd.R_base HO167.out k_ e_.symm) hs_)); (case side3 => exact HC0.out); (case side4 => exact Kd.R_tight rfl HO167.out); rintro e w13 ⟨v169, rfl, ho0, hb, hkp⟩; refine ⟨_, rfl, ?_⟩; have n0_ := Aside0.mk (Kd.R_mono (ok' := fun k_ => True) ho0 (fun k_ hk_ => trivial)); have n1_ := Aside0.mk (hb); clear HB; clear HO167; have HO170 := n0_; have HB := n1_; clear n0_ n1_; (try clear hb); (try clear hkp); (try clear ho0)))
          go_ret3
          exact ⟨_, by first | rfl | (simp [errW_none, errW_some] <;> rfl) | (simp [*, errW_none, errW_some] <;> rfl), by (with_reducible repeat (first | apply Kd.R_alloc | apply Kd.R_drewN | apply Kd.R_drew)); exact HO170.out, below_later HB.out⟩
        · rw [if_neg c9] at H
          have c9b0 : (t172 == 0) = false := beq_eq_false_iff_ne.mpr c9
          have c9b1 : (t172 != 0) = true := bne_iff_ne.mpr c9
          obtain ⟨y173, hy173⟩ : ∃ y_ : List (S40), y_ = (([] : List (S40))) := ⟨_, rfl⟩
          replace H : (some (y173, 0, t172)) = some (r1, r2, r3) := by first | (rw [hy173]; with_reducible exact H) | (rw [hy173]; exact H) | exact H
          have Ny173 := Aside0.mk hy173
          clear hy173
          simp only [Option.some.injEq, Prod.mk.injEq] at H
          obtain ⟨rfl, rfl, rfl⟩ := H
          go_wp2_with (first | ((with_reducible refine gate_dst (N := 22) rfl ?_); (try (refine gate_guard (by rfl) ?_; dsimp only)); refine Kd.R_lit k40 _ 40 ?hg (N := 22) ?hd (xs := ([] : List (S40))) (inner := []) (ok := fun _ => True) (okp := fun _ => True) ?hr ?hp (fun _ hk => hk) trivial (Below.refl _ _) (Nat.le_refl _) (by simp) ?_; (case hd => rfl); (case hg => rfl); (case hr => first | (go_simp; done) | (go_simp; rfl)); (case hp => exact (Reps.none _ _)); intro v166 w14 ho15 hb hg_ hnew_; clear hg_ hnew_; (first | rw [← Ny165.out] at ho15 | (simp only [Int.reduceToNat] at ho15; rw [← Ny165.out] at ho15)); have HO167 := Aside0.mk (Kd.R_lower ho15 (below_size (below_later HB.out))); replace HB := bst HB hb; clear hb ho15; obtain ⟨Ao16, co16, eo16⟩ := Kd.R_slice HO167.out; subst eo16) | ((with_reducible refine gate_callee (f := 12) rfl ?_); refine gl_ (some 23) Try.func12 #[.slice A0 l0.length c0, .int .i64 a1, .int .i64 12, .int .i64 0, .int .i64 1, .slice Ao16 y165.length co16] rfl ?_; (with_reducible refine (spec_l4Read.calls kj2 _ _ l0 a1 12 0 1 (fun k_ => some k_ = (.slice Ao16 y165.length co16 : Value).ownBlock) (.slice Ao16 y165.length co16) y165 t168 t171 t172 w _ ?side1 ?side2 ?side3 ?side4 A8.out).mono ?_); (case side1 => repeat (first | (with_reducible first | exact HB.out | apply below_alloc | apply pw_below_drewN | apply below_drew1) | exact HB.out)); (case side2 => exact Kd.C_kept_came (Kd.heap_int .u8) HR0.out (below_later HB.out) (fun k_ hs_ => (fun e_ => Kd.R_base HO167.out k_ e_.symm) hs_)); (case side3 => exact HC0.out); (case side4 => exact Kd.R_tight rfl HO167.out); rintro e w17 ⟨v169, rfl, ho0, hb, hkp⟩; refine ⟨_, rfl, ?_⟩; have n0_ := Aside0.mk (Kd.R_mono (ok' := fun k_ => True) ho0 (fun k_ hk_ => trivial)); have n1_ := Aside0.mk (hb); clear HB; clear HO167; have HO170 := n0_; have HB := n1_; clear n0_ n1_; (try clear hb); (try clear hkp); (try clear ho0)) | ((with_reducible refine gate_dst (N := 29) rfl ?_); (try (refine gate_guard (by rfl) ?_; dsimp only)); refine Kd.R_lit k40 _ 40 ?hg (N := 29) ?hd (xs := ([] : List (S40))) (inner := []) (ok := fun _ => True) (okp := fun _ => True) ?hr ?hp (fun _ hk => hk) trivial (Below.refl _ _) (Nat.le_refl _) (by simp) ?_; (case hd => rfl); (case hg => rfl); (case hr => first | (go_simp; done) | (go_simp; rfl)); (case hp => exact (Reps.none _ _)); intro v174 w18 ho19 hb hg_ hnew_; clear hg_ hnew_; (first | rw [← Ny173.out] at ho19 | (simp only [Int.reduceToNat] at ho19; rw [← Ny173.out] at ho19)); have HO175 := Aside0.mk (Kd.R_lower (Kd.R_new' ho19 (Kd.R_lt (R_later HO170.out))) (below_size (below_later HB.out))); replace HO170 := Aside0.mk (Kd.R_elder' (R_later HO170.out) (Kd.R_base ho19) hb); replace HB := bst HB hb; clear hb ho19))
          go_ret3
          exact ⟨_, by first | rfl | (simp [errW_none, errW_some] <;> rfl) | (simp [*, errW_none, errW_some] <;> rfl), by (with_reducible repeat (first | apply Kd.R_alloc | apply Kd.R_drewN | apply Kd.R_drew)); exact Kd.R_mono HO175.out (fun _ hk => trivial), below_later HB.out⟩

/-! ### laws_toByteS: function 5 -/
def laws_toByteS.l0 : Nat → List Int → List Int → Int → Option (List Int)
  | 0, _, _, _ => none
  | k + 1, x0, x3, x4 => if x4 < (x0.length : Int) then (if 0 ≤ x4 then (if x4 < (x3.length : Int) then (laws_toByteS.l0 k x0 (x3.set (x4 : Int).toNat (rd x0 x4)) (wrap64 (x4 + 1))) else (none)) else (none)) else (some x3)
def laws_toByteS.f (k : Nat) (l0 : List Int) : Option (List Int) := if 0 ≤ (l0.length : Int) then (if ((l0.length : Int) : Int).toNat ≤ 281474976710656 then (laws_toByteS.l0 k l0 (List.replicate ((l0.length : Int) : Int).toNat 0) 0) else (none)) else (none)
set_option maxHeartbeats 8000000 in
set_option maxRecDepth 100000 in
theorem laws_toByteS.calls (k : Nat) (A0 : Option Addr) (c0 : Nat) (l0 : List Int) (r : List Int) (w : World) (hr0 : Kd.C (Kd.int .u8) w A0 l0.length l0) (hc0 : l0.length ≤ c0) (h : laws_toByteS.f k l0 = some r) :
    Calls Try.prog 5 #[.slice A0 l0.length c0] w fun e w' => ∃ v0_ : Value, e = .returned (v0_) ∧ Kd.R (Kd.int .u8) 5 w' w.heap.size (fun _ => True) v0_ r ∧ Below w.heap.size w w' := by
  have HR0 := Aside0.mk hr0
  have HC0 := Aside0.mk hc0
  clear hr0 hc0
  have HB := Aside0.mk (Below.refl w.heap.size w)
  have H : (if 0 ≤ (l0.length : Int) then (if ((l0.length : Int) : Int).toNat ≤ 281474976710656 then (laws_toByteS.l0 k l0 (List.replicate ((l0.length : Int) : Int).toNat 0) 0) else (none)) else (none)) = some r := h
  clear h
  replace H := ifs H
  obtain ⟨c2, H⟩ := H
  have c2b0 := eq_true c2
  have c2b1 := decide_eq_true c2
  clear c2
  replace H := ifs H
  obtain ⟨c3, H⟩ := H
  have c3b0 := eq_true c3
  have c3b1 := decide_eq_true c3
  clear c3
  obtain ⟨y176, hy176⟩ : ∃ y_ : List Int, y_ = (List.replicate ((l0.length : Int) : Int).toNat 0) := ⟨_, rfl⟩
  replace H : (laws_toByteS.l0 k l0 y176 0) = some r := by first | (rw [hy176]; with_reducible exact H) | (rw [hy176]; exact H) | exact H
  have Ny176 := Aside0.mk hy176
  clear hy176
  have H' := Aside0.mk H
  clear H
  go_enter Try.func5, Try.ntmps5
  go_wp2_with (first | ((with_reducible refine gate_dst (N := 7) rfl ?_); refine Kd.R_make (Kd.int .u8) _ 5 rfl (N := 7) rfl 22 _ _ rfl (l0.length : Int) rfl rfl Try.underlying22 (.int .u8 0) 1 info5 rfl (by decide) (by omega) 0 (ok := fun _ => True) (okp := fun _ => True) rfl (fun _ hk => hk) trivial (dcd) (Nat.le_trans (Nat.mul_le_mul_right _ (dcd : (l0.length : Int).toNat ≤ 281474976710656)) (by omega)) (Below.refl _ _) (Nat.le_refl _) ?_; intro v177 w4 ho5 hb hg_ hnew_; clear hg_ hnew_; (first | rw [← Ny176.out] at ho5 | (simp only [Int.reduceToNat] at ho5; rw [← Ny176.out] at ho5)); have HO178 := Aside0.mk (Kd.R_lower ho5 (below_size (below_later HB.out))); replace HB := bst HB hb; clear hb ho5))
  go_loopg [4] k (fun kq v4 w' => ∃ (x3_1 : List Int) (x4_1 : Int), v4 = .int .i64 x4_1 ∧ Aside0 (laws_toByteS.l0 kq l0 x3_1 x4_1 = some r) ∧ Aside0 (kq ≤ k) ∧ Aside0 (Kd.R (Kd.int .u8) 5 w' w.heap.size (fun _ => True) v177 x3_1) ∧ Aside0 (Below w.heap.size w w'))
  case atStart => exact ⟨(y176), (0), sr, H', ⟨Nat.le_refl _⟩, ⟨R_later HO178.out⟩, ⟨below_later HB.out⟩⟩
  case round =>
    clear H'
    try clear c2
    try clear c2b0
    try clear c2b1
    try clear c3
    try clear c3b0
    try clear c3b1
    obtain ⟨x3_1, x4_1, rfl, HA, HK1, HO_3, HB⟩ := hrel
    cases gk with
    | zero => exact absurd HA.out (by simp [laws_toByteS.l0])
    | succ k1 =>
      have H := HA.out
      clear HA
      simp only [laws_toByteS.l0] at H
      by_cases c6 : x4_1 < (l0.length : Int)
      · rw [if_pos c6] at H
        have c6b0 := decide_eq_true c6
        clear c6
        replace H := ifd H
        obtain ⟨c7b0, H⟩ := H
        replace H := ifd H
        obtain ⟨c8b0, H⟩ := H
        obtain ⟨y180, hy180⟩ : ∃ y_ : List Int, y_ = (x3_1.set (x4_1 : Int).toNat (rd l0 x4_1)) := ⟨_, rfl⟩
        replace H : (laws_toByteS.l0 k1 l0 y180 (wrap64 (x4_1 + 1))) = some r := by first | (rw [hy180]; with_reducible exact H) | (rw [hy180]; exact H) | exact H
        have Ny180 := Aside0.mk hy180
        clear hy180
        have H' := Aside0.mk H
        clear H
        have p179 : 0 ≤ (x4_1 : Int) := dcd
        have q179 : x4_1 < (l0.length : Int) := dcd
        obtain ⟨ad179, e179, hx179_0⟩ := Kd.at_int HR0.out x4_1 p179 q179
        cases e179
        replace hx179_0 := crd HB hx179_0
        replace p179 := eq_true p179
        replace q179 := eq_true q179
        have p9 : 0 ≤ (x4_1 : Int) := dcd
        have q9 : (x4_1 : Int) < ((x3_1.length : Int) : Int) := dcd
        obtain ⟨go9, co9, eo9, gb9, gl9, cl9, HG9⟩ := Kd.R_form HO_3.out (by omega)
        (first | cases eo9 | (injection eo9 with ea_ en_ ec_; (first | subst ea_ | (injection ea_ with ea_; subst ea_)); subst ec_; clear en_))
        have GB9 := Aside0.mk gb9
        have GG9 := Aside0.mk HG9
        clear gb9 gl9 HG9
        obtain ⟨hx9_0, hf9_0⟩ := Kd.R_celln 0 HO_3.out (x4_1 : Int) p9 q9
        replace p9 := eq_true p9
        replace q9 := eq_true q9
        have HP10 := Kd.R_putg HO_3.out (x4_1 : Int) (rd l0 x4_1)
        go_wp2_with (first | ((with_reducible refine gate_store (t := 5) (p := 20) rfl ?_); refine st_ 5 20 (wr.setCell ⟨go9, (x4_1 : Int).toNat, none⟩ (.int .u8 (rd l0 x4_1))) ?_; intro w11 hw; have hg : wr.grownBy w11 (some go9) := (by rw [hw]; exact HP10.2); have hp_ : Kd.R (Kd.int .u8) 5 w11 w.heap.size (fun _ => True) (.slice (some ⟨go9, 0, none⟩) x3_1.length co9) y180 := (by rw [hw, Ny180.out]; exact HP10.1); clear HP10; replace HO_3 := Aside0.mk (hp_); replace HB := Aside0.mk ((by rw [hw]; exact below_set (HB.out) GB9.out : Below w.heap.size w w11)); clear hg hw hp_))
        go_roundg k1
        case measure => have := HK1.out; omega
        case rel => exact ⟨(y180), (wrap64 (x4_1 + 1)), sr, H', ⟨by have := HK1.out; omega⟩, ⟨R_later HO_3.out⟩, ⟨below_later HB.out⟩⟩
      · rw [if_neg c6] at H
        have c6b0 := decide_eq_false c6
        clear c6
        obtain rfl := Option.some.inj H
        go_wp2
        go_ret
        exact ⟨_, by first | rfl | (simp [errW_none, errW_some] <;> rfl) | (simp [*, errW_none, errW_some] <;> rfl), by (with_reducible repeat (first | apply Kd.R_alloc | apply Kd.R_drewN | apply Kd.R_drew)); exact HO_3.out, below_later HB.out⟩
end Go.Proofs.Ytgnelblghdfgiaa.PFnExactTreeRead
