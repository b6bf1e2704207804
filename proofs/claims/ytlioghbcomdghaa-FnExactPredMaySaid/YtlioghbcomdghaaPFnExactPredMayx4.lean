/- The machine's side of FnExactPredMay, written by wip/tools/hyb.py of this repo: each Go function as a plain Lean function, and the proof that the call comes to just its answer. No condition. -/
import Derived.Test.YtlioghbcomdghaaPFnExactPredMayx0
import Derived.Test.YtlioghbcomdghaaPFnExactPredMayx3
namespace Go.Proofs.Ytlioghbcomdghaa.PFnExactPredMay
open Go.RowKit Go.Proofs.YtlioghbcomdghaaW.PrintWords Go.Proofs.YtlioghbcomdghaaW.PrintLast Go.Proofs.YtlioghbcomdghaaW.PrintMore Go.Proofs.YtlioghbcomdghaaW.PrintMore2
attribute [local go_sem] max2_int min2_int max_two min_two max_three min_three max_four min_four   -- for this text's walks alone
set_option linter.unusedVariables false
set_option linter.unusedSimpArgs false

/-! ### spec_l5Check: function 50 -/
mutual
def spec_l5Check.j0 : Nat → List (S57) → Int → Int → Bool → Option (Int)
  | 0, _, _, _, _ => none
  | k + 1, x0, x1, x2, x19 => if x19 = true then (some (-1)) else (if 0 ≤ x1 then (if x1 < (x0.length : Int) then (if x1 = 0 then (if ((rd_T57 x0 x1).f0).toList = ([] : List UInt8) then (if ((rd_T57 x0 x1).f2) = 0 then (if ((rd_T57 x0 x1).f1) = 7 then (if x1 > 0 then ((spec_l5Name.f k ((rd_T57 x0 x1).f0)).bind fun t119 => (if t119 = true then ((spec_l1In.f ((rd_T57 x0 x1).f2) 0 2).bind fun t120 => (spec_l5Check.j1 k x0 x1 x2 (!t120) ((rd_T57 x0 x1).f0) ((rd_T57 x0 x1).f1) ((rd_T57 x0 x1).f2) ((rd_T57 x0 x1).f3))) else (spec_l5Check.j1 k x0 x1 x2 true ((rd_T57 x0 x1).f0) ((rd_T57 x0 x1).f1) ((rd_T57 x0 x1).f2) ((rd_T57 x0 x1).f3)))) else ((spec_l1In.f ((rd_T57 x0 x1).f2) 0 2).bind fun t121 => (spec_l5Check.j1 k x0 x1 x2 (!t121) ((rd_T57 x0 x1).f0) ((rd_T57 x0 x1).f1) ((rd_T57 x0 x1).f2) ((rd_T57 x0 x1).f3)))) else (spec_l5Check.j1 k x0 x1 x2 true ((rd_T57 x0 x1).f0) ((rd_T57 x0 x1).f1) ((rd_T57 x0 x1).f2) ((rd_T57 x0 x1).f3))) else (spec_l5Check.j1 k x0 x1 x2 true ((rd_T57 x0 x1).f0) ((rd_T57 x0 x1).f1) ((rd_T57 x0 x1).f2) ((rd_T57 x0 x1).f3))) else (spec_l5Check.j1 k x0 x1 x2 true ((rd_T57 x0 x1).f0) ((rd_T57 x0 x1).f1) ((rd_T57 x0 x1).f2) ((rd_T57 x0 x1).f3))) else (if x1 > 0 then ((spec_l5Name.f k ((rd_T57 x0 x1).f0)).bind fun t122 => (if t122 = true then ((spec_l1In.f ((rd_T57 x0 x1).f2) 0 2).bind fun t123 => (spec_l5Check.j1 k x0 x1 x2 (!t123) ((rd_T57 x0 x1).f0) ((rd_T57 x0 x1).f1) ((rd_T57 x0 x1).f2) ((rd_T57 x0 x1).f3))) else (spec_l5Check.j1 k x0 x1 x2 true ((rd_T57 x0 x1).f0) ((rd_T57 x0 x1).f1) ((rd_T57 x0 x1).f2) ((rd_T57 x0 x1).f3)))) else ((spec_l1In.f ((rd_T57 x0 x1).f2) 0 2).bind fun t124 => (spec_l5Check.j1 k x0 x1 x2 (!t124) ((rd_T57 x0 x1).f0) ((rd_T57 x0 x1).f1) ((rd_T57 x0 x1).f2) ((rd_T57 x0 x1).f3))))) else (none)) else (none))
def spec_l5Check.j1 : Nat → List (S57) → Int → Int → Bool → ByteArray → Int → Int → Int → Option (Int)
  | 0, _, _, _, _, _, _, _, _ => none
  | k + 1, x0, x1, x2, x56, x119000, x119001, x119002, x119003 => if x56 = true then (some (-1)) else (if x119001 = 7 then (if x119003 < 1 then (some (-1)) else (spec_l5Check.l0 k x0 x2 (wrap64 (x1 + 1)) (([] : List ByteArray)) 0 x119000 x119001 x119002 x119003)) else ((spec_l5Type.f x119001).bind fun t125 => (if t125 = true then (if x119003 = 0 then (some (wrap64 (x1 + 1))) else (some (-1))) else (some (-1)))))
def spec_l5Check.l0 : Nat → List (S57) → Int → Int → List ByteArray → Int → ByteArray → Int → Int → Int → Option (Int)
  | 0, _, _, _, _, _, _, _, _, _ => none
  | k + 1, x0, x2, x8, x9, x10, x119000, x119001, x119002, x119003 => if x10 < x119003 then (if x8 ≥ (x0.length : Int) then (some (-1)) else (spec_l5Check.l1 k x0 x2 x8 x9 x10 0 x119000 x119001 x119002 x119003)) else (some x8)
def spec_l5Check.l1 : Nat → List (S57) → Int → Int → List ByteArray → Int → Int → ByteArray → Int → Int → Int → Option (Int)
  | 0, _, _, _, _, _, _, _, _, _, _ => none
  | k + 1, x0, x2, x8, x9, x10, x11, x119000, x119001, x119002, x119003 => if x11 < (x9.length : Int) then (if 0 ≤ x11 then (if 0 ≤ x8 then (if x8 < (x0.length : Int) then (if (rdOf ByteArray.empty x9 x11).toList = ((rd_T57 x0 x8).f0).toList then (some (-1)) else (spec_l5Check.l1 k x0 x2 x8 x9 x10 (wrap64 (x11 + 1)) x119000 x119001 x119002 x119003)) else (none)) else (none)) else (none)) else (if 0 ≤ x8 then (if x8 < (x0.length : Int) then (if x9.length < 8796093022208 then ((spec_l5Check.f k x0 x8 (wrap64 (x2 + 1))).bind fun t135 => (if t135 < 0 then (some (-1)) else (spec_l5Check.l0 k x0 x2 t135 (x9 ++ [(rd_T57 x0 x8).f0]) (wrap64 (x10 + 1)) x119000 x119001 x119002 x119003))) else (none)) else (none)) else (none))
def spec_l5Check.f : Nat → List (S57) → Int → Int → Option (Int)
  | 0, _, _, _ => none
  | k + 1, l0, a1, a2 => if a1 ≥ (l0.length : Int) then (spec_l5Check.j0 k l0 a1 a2 true) else (spec_l5Check.j0 k l0 a1 a2 (decide (a2 > 6)))
end
set_option maxHeartbeats 8000000 in
set_option maxRecDepth 100000 in
theorem spec_l5Check.calls (k : Nat) : ∀ (A0 : Option Addr) (c0 : Nat) (l0 : List (S57)) (a1 : Int) (a2 : Int) (r : Int) (w : World) (hr0 : Kd.C k57 w A0 l0.length l0) (hc0 : l0.length ≤ c0) (h : spec_l5Check.f k l0 a1 a2 = some r),
    Calls Try.prog 50 #[.slice A0 l0.length c0, .int .i64 a1, .int .i64 a2] w fun e w' => e = .returned (.int .i64 r) ∧ Below w.heap.size w w' := by
  induction k using Nat.strongRecOn with
  | _ k ih =>
  intro A0 c0 l0 a1 a2 r w hr0 hc0 h
  cases k with
  | zero => exact absurd h (by simp [spec_l5Check.f])
  | succ k =>
  simp only [spec_l5Check.f] at h
  have hu57 := Try.underlying57
  have HR0 := Aside0.mk hr0
  have HC0 := Aside0.mk hc0
  clear hr0 hc0
  have HB := Aside0.mk (Below.refl w.heap.size w)
  have H : (if a1 ≥ (l0.length : Int) then (spec_l5Check.j0 k l0 a1 a2 true) else (spec_l5Check.j0 k l0 a1 a2 (decide (a2 > 6)))) = some r := h
  clear h
  have HC4 := Aside0.mk H
  clear H
  go_enter Try.func50, Try.ntmps50
  go_upto_region 1 with (fail)
  repeat (go_quiet (fail); go_upto_region 1 with (fail))
  go_cut [19] (fun v19 wc => ∃ (kq : Nat) (x19_3 : Bool), v19 = .bool x19_3 ∧ Aside0 (spec_l5Check.j0 kq l0 a1 a2 x19_3 = some r) ∧ Aside0 (kq ≤ k) ∧ Aside0 (Below w.heap.size w wc))
  case first =>
    have H := HC4.out
    clear HC4
    by_cases c5 : a1 ≥ (l0.length : Int)
    · rw [if_pos c5] at H
      have c5b0 : decide ((l0.length : Int) ≤ a1) = true := decide_eq_true c5
      clear c5
      (first | rw [c5b0] | (simp only [i64_w, i32_w]; rw [c5b0]) | skip)
      have H' := Aside0.mk H
      clear H
      go_wp2
      repeat (go_quiet (fail); try go_wp2)
      go_meet
      case rel => exact ⟨_, (true), sr, H', ⟨by first | omega | exact Nat.le_refl _⟩, ⟨below_later HB.out⟩⟩
    · rw [if_neg c5] at H
      have c5b0 : decide ((l0.length : Int) ≤ a1) = false := decide_eq_false c5
      clear c5
      (first | rw [c5b0] | (simp only [i64_w, i32_w]; rw [c5b0]) | skip)
      have H' := Aside0.mk H
      clear H
      go_wp2
      repeat (go_quiet (fail); try go_wp2)
      go_meet
      case rel => exact ⟨_, (decide (a2 > 6)), sr, H', ⟨by first | omega | exact Nat.le_refl _⟩, ⟨below_later HB.out⟩⟩
  case rest =>
    clear HC4
    obtain ⟨kq, x19_3, rfl, HA, HJ3, HB⟩ := hcut
    cases kq with
    | zero => exact absurd HA.out (by simp [spec_l5Check.j0])
    | succ kj3 =>
      have H := HA.out
      clear HA
      simp only [spec_l5Check.j0] at H
      by_cases c6 : x19_3 = true
      · subst c6
        replace H := ifp rfl H
        obtain rfl := Option.some.inj H
        go_wp2
        repeat (go_quiet (fail); try go_wp2)
        go_ret
        exact fin_ (below_later HB.out)
      · replace c6 := Bool.eq_false_iff.mpr c6
        subst c6
        replace H := ifn Bool.false_ne_true H
        replace H := ifd H
        obtain ⟨c7b0, H⟩ := H
        replace H := ifd H
        obtain ⟨c8b0, H⟩ := H
        have HC9 := Aside0.mk H
        clear H
        have p117 : 0 ≤ (a1 : Int) := dcd
        have q117 : a1 < (l0.length : Int) := dcd
        obtain ⟨ad117, e117, hx117_0, hx117_1, hx117_2, hx117_3⟩ := at_T57 HR0.out a1 p117 q117
        cases e117
        replace hx117_0 := crd HB hx117_0
        replace hx117_1 := crd HB hx117_1
        replace hx117_2 := crd HB hx117_2
        replace hx117_3 := crd HB hx117_3
        replace p117 := eq_true p117
        replace q117 := eq_true q117
        go_upto_region 4 with (first | ((with_reducible refine gate_dst (N := 7) rfl ?_); refine bx_ 7 #[.string (⟨#[]⟩ : ByteArray), .int .i64 0, .int .i64 0, .int .i64 0] 57 ?_; intro gb118 hg w10 hbox hb; have BK118 := Aside0.mk (hbox); have GW118 := gwe HB hg; have GE118 := GW118; replace HB := bst HB hb; clear hb hbox hg; obtain ⟨hcz11_0, hcz11_1, hcz11_2, hcz11_3, hfz11_0, hfz11_1, hfz11_2, hfz11_3⟩ := cl4 BK118))
        repeat (go_quiet (fail); go_upto_region 4 with (first | ((with_reducible refine gate_dst (N := 7) rfl ?_); refine bx_ 7 #[.string (⟨#[]⟩ : ByteArray), .int .i64 0, .int .i64 0, .int .i64 0] 57 ?_; intro gb118 hg w10 hbox hb; have BK118 := Aside0.mk (hbox); have GW118 := gwe HB hg; have GE118 := GW118; replace HB := bst HB hb; clear hb hbox hg; obtain ⟨hcz11_0, hcz11_1, hcz11_2, hcz11_3, hfz11_0, hfz11_1, hfz11_2, hfz11_3⟩ := cl4 BK118)))
        (try simp only [Act.put, List.setIfInBounds_toArray, List.set_cons_zero, List.set_cons_succ])
        go_cut [56] (fun v56 wc => ∃ (kq : Nat) (x56_8 : Bool), v56 = .bool x56_8 ∧ Aside0 (spec_l5Check.j1 kq l0 a1 a2 x56_8 ((rd_T57 l0 a1).f0) ((rd_T57 l0 a1).f1) ((rd_T57 l0 a1).f2) ((rd_T57 l0 a1).f3) = some r) ∧ Aside0 (kq ≤ kj3) ∧ Aside0 (wc.heap[gb118]? = some (.cells #[.string ((rd_T57 l0 a1).f0), .int .i64 ((rd_T57 l0 a1).f1), .int .i64 ((rd_T57 l0 a1).f2), .int .i64 ((rd_T57 l0 a1).f3)] 57 (0, 0))) ∧ Aside0 (Below w.heap.size w wc))
        case first =>
          have H := HC9.out
          clear HC9
          by_cases c12 : a1 = 0
          · rw [if_pos c12] at H
            have c12b0 : (a1 == 0) = true := beq_iff_eq.mpr c12
            have c12b1 : (a1 != 0) = false := bne_eq_false_iff_eq.mpr c12
            clear c12
            (first | rw [c12b0] | rw [c12b1] | (simp only [i64_w, i32_w]; rw [c12b0]) | skip)
            by_cases c13 : ((rd_T57 l0 a1).f0).toList = ([] : List UInt8)
            · rw [if_pos c13] at H
              have c13b0 : (((rd_T57 l0 a1).f0).toList == ([] : List UInt8)) = true := beq_iff_eq.mpr c13
              have c13b1 : (((rd_T57 l0 a1).f0).toList != ([] : List UInt8)) = false := bne_eq_false_iff_eq.mpr c13
              clear c13
              by_cases c14 : ((rd_T57 l0 a1).f2) = 0
              · rw [if_pos c14] at H
                have c14b0 : (((rd_T57 l0 a1).f2) == 0) = true := beq_iff_eq.mpr c14
                have c14b1 : (((rd_T57 l0 a1).f2) != 0) = false := bne_eq_false_iff_eq.mpr c14
                clear c14
                by_cases c15 : ((rd_T57 l0 a1).f1) = 7
                · rw [if_pos c15] at H
                  have c15b0 : (((rd_T57 l0 a1).f1) == 7) = true := beq_iff_eq.mpr c15
                  have c15b1 : (((rd_T57 l0 a1).f1) != 7) = false := bne_eq_false_iff_eq.mpr c15
                  clear c15
                  by_cases c16 : a1 > 0
                  · rw [if_pos c16] at H
                    have c16b0 : decide (0 < a1) = true := decide_eq_true c16
                    clear c16
                    replace H := bnd H
                    obtain ⟨t119, A17, H⟩ := H
                    by_cases c18 : t119 = true
                    · subst c18
                      replace H := ifp rfl H
                      replace H := bnd H
                      obtain ⟨t120, A19, H⟩ := H
                      have H' := Aside0.mk H
                      clear H
                      obtain ⟨hcz20_0, hcz20_1, hcz20_2, hcz20_3, hfz20_0, hfz20_1, hfz20_2, hfz20_3⟩ := cl4 BK118
                      go_wp2_with (first | (go_at_call 59; (with_reducible refine (spec_l5Name.calls kj3 ((rd_T57 l0 a1).f0) true _ A17.out).mono ?_); rintro e w' ⟨rfl, ⟨nd, rfl⟩⟩; (try first | exact ⟨rfl, _, World.drewN_drewN _ _ _⟩ | exact ⟨rfl, _, Eq.trans (World.drewN_drewN _ _ _) (congrArg (World.drewN _) (Nat.add_assoc _ _ _))⟩)) | (go_at_call 34; (with_reducible refine (spec_l1In.calls ((rd_T57 l0 a1).f2) 0 2 t120 _ A19.out).mono ?_); rintro e w' ⟨rfl, ⟨nd, rfl⟩⟩; (try first | exact ⟨rfl, _, World.drewN_drewN _ _ _⟩ | exact ⟨rfl, _, Eq.trans (World.drewN_drewN _ _ _) (congrArg (World.drewN _) (Nat.add_assoc _ _ _))⟩)))
                      repeat (go_quiet (first | (go_at_call 59; (with_reducible refine (spec_l5Name.calls kj3 ((rd_T57 l0 a1).f0) true _ A17.out).mono ?_); rintro e w' ⟨rfl, ⟨nd, rfl⟩⟩; (try first | exact ⟨rfl, _, World.drewN_drewN _ _ _⟩ | exact ⟨rfl, _, Eq.trans (World.drewN_drewN _ _ _) (congrArg (World.drewN _) (Nat.add_assoc _ _ _))⟩)) | (go_at_call 34; (with_reducible refine (spec_l1In.calls ((rd_T57 l0 a1).f2) 0 2 t120 _ A19.out).mono ?_); rintro e w' ⟨rfl, ⟨nd, rfl⟩⟩; (try first | exact ⟨rfl, _, World.drewN_drewN _ _ _⟩ | exact ⟨rfl, _, Eq.trans (World.drewN_drewN _ _ _) (congrArg (World.drewN _) (Nat.add_assoc _ _ _))⟩))); try go_wp2_with (first | (go_at_call 59; (with_reducible refine (spec_l5Name.calls kj3 ((rd_T57 l0 a1).f0) true _ A17.out).mono ?_); rintro e w' ⟨rfl, ⟨nd, rfl⟩⟩; (try first | exact ⟨rfl, _, World.drewN_drewN _ _ _⟩ | exact ⟨rfl, _, Eq.trans (World.drewN_drewN _ _ _) (congrArg (World.drewN _) (Nat.add_assoc _ _ _))⟩)) | (go_at_call 34; (with_reducible refine (spec_l1In.calls ((rd_T57 l0 a1).f2) 0 2 t120 _ A19.out).mono ?_); rintro e w' ⟨rfl, ⟨nd, rfl⟩⟩; (try first | exact ⟨rfl, _, World.drewN_drewN _ _ _⟩ | exact ⟨rfl, _, Eq.trans (World.drewN_drewN _ _ _) (congrArg (World.drewN _) (Nat.add_assoc _ _ _))⟩))))
                      go_meet
                      case rel => exact ⟨_, (!t120), sr, H', ⟨by have := HJ3.out; first | omega | exact Nat.le_refl _⟩, ⟨blk_later BK118.out⟩, ⟨below_later HB.out⟩⟩
                    · replace c18 := Bool.eq_false_iff.mpr c18
                      subst c18
                      replace H := ifn Bool.false_ne_true H
                      have H' := Aside0.mk H
                      clear H
                      obtain ⟨hcz21_0, hcz21_1, hcz21_2, hcz21_3, hfz21_0, hfz21_1, hfz21_2, hfz21_3⟩ := cl4 BK118
                      go_wp2_with (first | (go_at_call 59; (with_reducible refine (spec_l5Name.calls kj3 ((rd_T57 l0 a1).f0) false _ A17.out).mono ?_); rintro e w' ⟨rfl, ⟨nd, rfl⟩⟩; (try first | exact ⟨rfl, _, World.drewN_drewN _ _ _⟩ | exact ⟨rfl, _, Eq.trans (World.drewN_drewN _ _ _) (congrArg (World.drewN _) (Nat.add_assoc _ _ _))⟩)))
                      repeat (go_quiet (first | (go_at_call 59; (with_reducible refine (spec_l5Name.calls kj3 ((rd_T57 l0 a1).f0) false _ A17.out).mono ?_); rintro e w' ⟨rfl, ⟨nd, rfl⟩⟩; (try first | exact ⟨rfl, _, World.drewN_drewN _ _ _⟩ | exact ⟨rfl, _, Eq.trans (World.drewN_drewN _ _ _) (congrArg (World.drewN _) (Nat.add_assoc _ _ _))⟩))); try go_wp2_with (first | (go_at_call 59; (with_reducible refine (spec_l5Name.calls kj3 ((rd_T57 l0 a1).f0) false _ A17.out).mono ?_); rintro e w' ⟨rfl, ⟨nd, rfl⟩⟩; (try first | exact ⟨rfl, _, World.drewN_drewN _ _ _⟩ | exact ⟨rfl, _, Eq.trans (World.drewN_drewN _ _ _) (congrArg (World.drewN _) (Nat.add_assoc _ _ _))⟩))))
                      go_meet
                      case rel => exact ⟨_, (true), sr, H', ⟨by have := HJ3.out; first | omega | exact Nat.le_refl _⟩, ⟨blk_later BK118.out⟩, ⟨below_later HB.out⟩⟩
                  · rw [if_neg c16] at H
                    have c16b0 : decide (0 < a1) = false := decide_eq_false c16
                    clear c16
                    replace H := bnd H
                    obtain ⟨t121, A22, H⟩ := H
                    have H' := Aside0.mk H
                    clear H
                    obtain ⟨hcz23_0, hcz23_1, hcz23_2, hcz23_3, hfz23_0, hfz23_1, hfz23_2, hfz23_3⟩ := cl4 BK118
                    go_wp2_with (first | (go_at_call 34; (with_reducible refine (spec_l1In.calls ((rd_T57 l0 a1).f2) 0 2 t121 _ A22.out).mono ?_); rintro e w' ⟨rfl, ⟨nd, rfl⟩⟩; (try first | exact ⟨rfl, _, World.drewN_drewN _ _ _⟩ | exact ⟨rfl, _, Eq.trans (World.drewN_drewN _ _ _) (congrArg (World.drewN _) (Nat.add_assoc _ _ _))⟩)))
                    repeat (go_quiet (first | (go_at_call 34; (with_reducible refine (spec_l1In.calls ((rd_T57 l0 a1).f2) 0 2 t121 _ A22.out).mono ?_); rintro e w' ⟨rfl, ⟨nd, rfl⟩⟩; (try first | exact ⟨rfl, _, World.drewN_drewN _ _ _⟩ | exact ⟨rfl, _, Eq.trans (World.drewN_drewN _ _ _) (congrArg (World.drewN _) (Nat.add_assoc _ _ _))⟩))); try go_wp2_with (first | (go_at_call 34; (with_reducible refine (spec_l1In.calls ((rd_T57 l0 a1).f2) 0 2 t121 _ A22.out).mono ?_); rintro e w' ⟨rfl, ⟨nd, rfl⟩⟩; (try first | exact ⟨rfl, _, World.drewN_drewN _ _ _⟩ | exact ⟨rfl, _, Eq.trans (World.drewN_drewN _ _ _) (congrArg (World.drewN _) (Nat.add_assoc _ _ _))⟩))))
                    go_meet
                    case rel => exact ⟨_, (!t121), sr, H', ⟨by have := HJ3.out; first | omega | exact Nat.le_refl _⟩, ⟨blk_later BK118.out⟩, ⟨below_later HB.out⟩⟩
                · rw [if_neg c15] at H
                  have c15b0 : (((rd_T57 l0 a1).f1) == 7) = false := beq_eq_false_iff_ne.mpr c15
                  have c15b1 : (((rd_T57 l0 a1).f1) != 7) = true := bne_iff_ne.mpr c15
                  have H' := Aside0.mk H
                  clear H
                  obtain ⟨hcz24_0, hcz24_1, hcz24_2, hcz24_3, hfz24_0, hfz24_1, hfz24_2, hfz24_3⟩ := cl4 BK118
                  go_wp2
                  repeat (go_quiet (fail); try go_wp2)
                  go_meet
                  case rel => exact ⟨_, (true), sr, H', ⟨by have := HJ3.out; first | omega | exact Nat.le_refl _⟩, ⟨blk_later BK118.out⟩, ⟨below_later HB.out⟩⟩
              · rw [if_neg c14] at H
                have c14b0 : (((rd_T57 l0 a1).f2) == 0) = false := beq_eq_false_iff_ne.mpr c14
                have c14b1 : (((rd_T57 l0 a1).f2) != 0) = true := bne_iff_ne.mpr c14
                have H' := Aside0.mk H
                clear H
                obtain ⟨hcz25_0, hcz25_1, hcz25_2, hcz25_3, hfz25_0, hfz25_1, hfz25_2, hfz25_3⟩ := cl4 BK118
                go_wp2
                repeat (go_quiet (fail); try go_wp2)
                go_meet
                case rel => exact ⟨_, (true), sr, H', ⟨by have := HJ3.out; first | omega | exact Nat.le_refl _⟩, ⟨blk_later BK118.out⟩, ⟨below_later HB.out⟩⟩
            · rw [if_neg c13] at H
              have c13b0 : (((rd_T57 l0 a1).f0).toList == ([] : List UInt8)) = false := beq_eq_false_iff_ne.mpr c13
              have c13b1 : (((rd_T57 l0 a1).f0).toList != ([] : List UInt8)) = true := bne_iff_ne.mpr c13
              have H' := Aside0.mk H
              clear H
              obtain ⟨hcz26_0, hcz26_1, hcz26_2, hcz26_3, hfz26_0, hfz26_1, hfz26_2, hfz26_3⟩ := cl4 BK118
              go_wp2
              repeat (go_quiet (fail); try go_wp2)
              go_meet
              case rel => exact ⟨_, (true), sr, H', ⟨by have := HJ3.out; first | omega | exact Nat.le_refl _⟩, ⟨blk_later BK118.out⟩, ⟨below_later HB.out⟩⟩
          · rw [if_neg c12] at H
            have c12b0 : (a1 == 0) = false := beq_eq_false_iff_ne.mpr c12
            have c12b1 : (a1 != 0) = true := bne_iff_ne.mpr c12
            (first | rw [c12b0] | rw [c12b1] | (simp only [i64_w, i32_w]; rw [c12b0]) | skip)
            by_cases c27 : a1 > 0
            · rw [if_pos c27] at H
              have c27b0 : decide (0 < a1) = true := decide_eq_true c27
              clear c27
              replace H := bnd H
              obtain ⟨t122, A28, H⟩ := H
              by_cases c29 : t122 = true
              · subst c29
                replace H := ifp rfl H
                replace H := bnd H
                obtain ⟨t123, A30, H⟩ := H
                have H' := Aside0.mk H
                clear H
                obtain ⟨hcz31_0, hcz31_1, hcz31_2, hcz31_3, hfz31_0, hfz31_1, hfz31_2, hfz31_3⟩ := cl4 BK118
                go_wp2_with (first | (go_at_call 59; (with_reducible refine (spec_l5Name.calls kj3 ((rd_T57 l0 a1).f0) true _ A28.out).mono ?_); rintro e w' ⟨rfl, ⟨nd, rfl⟩⟩; (try first | exact ⟨rfl, _, World.drewN_drewN _ _ _⟩ | exact ⟨rfl, _, Eq.trans (World.drewN_drewN _ _ _) (congrArg (World.drewN _) (Nat.add_assoc _ _ _))⟩)) | (go_at_call 34; (with_reducible refine (spec_l1In.calls ((rd_T57 l0 a1).f2) 0 2 t123 _ A30.out).mono ?_); rintro e w' ⟨rfl, ⟨nd, rfl⟩⟩; (try first | exact ⟨rfl, _, World.drewN_drewN _ _ _⟩ | exact ⟨rfl, _, Eq.trans (World.drewN_drewN _ _ _) (congrArg (World.drewN _) (Nat.add_assoc _ _ _))⟩)))
                repeat (go_quiet (first | (go_at_call 59; (with_reducible refine (spec_l5Name.calls kj3 ((rd_T57 l0 a1).f0) true _ A28.out).mono ?_); rintro e w' ⟨rfl, ⟨nd, rfl⟩⟩; (try first | exact ⟨rfl, _, World.drewN_drewN _ _ _⟩ | exact ⟨rfl, _, Eq.trans (World.drewN_drewN _ _ _) (congrArg (World.drewN _) (Nat.add_assoc _ _ _))⟩)) | (go_at_call 34; (with_reducible refine (spec_l1In.calls ((rd_T57 l0 a1).f2) 0 2 t123 _ A30.out).mono ?_); rintro e w' ⟨rfl, ⟨nd, rfl⟩⟩; (try first | exact ⟨rfl, _, World.drewN_drewN _ _ _⟩ | exact ⟨rfl, _, Eq.trans (World.drewN_drewN _ _ _) (congrArg (World.drewN _) (Nat.add_assoc _ _ _))⟩))); try go_wp2_with (first | (go_at_call 59; (with_reducible refine (spec_l5Name.calls kj3 ((rd_T57 l0 a1).f0) true _ A28.out).mono ?_); rintro e w' ⟨rfl, ⟨nd, rfl⟩⟩; (try first | exact ⟨rfl, _, World.drewN_drewN _ _ _⟩ | exact ⟨rfl, _, Eq.trans (World.drewN_drewN _ _ _) (congrArg (World.drewN _) (Nat.add_assoc _ _ _))⟩)) | (go_at_call 34; (with_reducible refine (spec_l1In.calls ((rd_T57 l0 a1).f2) 0 2 t123 _ A30.out).mono ?_); rintro e w' ⟨rfl, ⟨nd, rfl⟩⟩; (try first | exact ⟨rfl, _, World.drewN_drewN _ _ _⟩ | exact ⟨rfl, _, Eq.trans (World.drewN_drewN _ _ _) (congrArg (World.drewN _) (Nat.add_assoc _ _ _))⟩))))
                go_meet
                case rel => exact ⟨_, (!t123), sr, H', ⟨by have := HJ3.out; first | omega | exact Nat.le_refl _⟩, ⟨blk_later BK118.out⟩, ⟨below_later HB.out⟩⟩
              · replace c29 := Bool.eq_false_iff.mpr c29
                subst c29
                replace H := ifn Bool.false_ne_true H
                have H' := Aside0.mk H
                clear H
                obtain ⟨hcz32_0, hcz32_1, hcz32_2, hcz32_3, hfz32_0, hfz32_1, hfz32_2, hfz32_3⟩ := cl4 BK118
                go_wp2_with (first | (go_at_call 59; (with_reducible refine (spec_l5Name.calls kj3 ((rd_T57 l0 a1).f0) false _ A28.out).mono ?_); rintro e w' ⟨rfl, ⟨nd, rfl⟩⟩; (try first | exact ⟨rfl, _, World.drewN_drewN _ _ _⟩ | exact ⟨rfl, _, Eq.trans (World.drewN_drewN _ _ _) (congrArg (World.drewN _) (Nat.add_assoc _ _ _))⟩)))
                repeat (go_quiet (first | (go_at_call 59; (with_reducible refine (spec_l5Name.calls kj3 ((rd_T57 l0 a1).f0) false _ A28.out).mono ?_); rintro e w' ⟨rfl, ⟨nd, rfl⟩⟩; (try first | exact ⟨rfl, _, World.drewN_drewN _ _ _⟩ | exact ⟨rfl, _, Eq.trans (World.drewN_drewN _ _ _) (congrArg (World.drewN _) (Nat.add_assoc _ _ _))⟩))); try go_wp2_with (first | (go_at_call 59; (with_reducible refine (spec_l5Name.calls kj3 ((rd_T57 l0 a1).f0) false _ A28.out).mono ?_); rintro e w' ⟨rfl, ⟨nd, rfl⟩⟩; (try first | exact ⟨rfl, _, World.drewN_drewN _ _ _⟩ | exact ⟨rfl, _, Eq.trans (World.drewN_drewN _ _ _) (congrArg (World.drewN _) (Nat.add_assoc _ _ _))⟩))))
                go_meet
                case rel => exact ⟨_, (true), sr, H', ⟨by have := HJ3.out; first | omega | exact Nat.le_refl _⟩, ⟨blk_later BK118.out⟩, ⟨below_later HB.out⟩⟩
            · rw [if_neg c27] at H
              have c27b0 : decide (0 < a1) = false := decide_eq_false c27
              clear c27
              replace H := bnd H
              obtain ⟨t124, A33, H⟩ := H
              have H' := Aside0.mk H
              clear H
              obtain ⟨hcz34_0, hcz34_1, hcz34_2, hcz34_3, hfz34_0, hfz34_1, hfz34_2, hfz34_3⟩ := cl4 BK118
              go_wp2_with (first | (go_at_call 34; (with_reducible refine (spec_l1In.calls ((rd_T57 l0 a1).f2) 0 2 t124 _ A33.out).mono ?_); rintro e w' ⟨rfl, ⟨nd, rfl⟩⟩; (try first | exact ⟨rfl, _, World.drewN_drewN _ _ _⟩ | exact ⟨rfl, _, Eq.trans (World.drewN_drewN _ _ _) (congrArg (World.drewN _) (Nat.add_assoc _ _ _))⟩)))
              repeat (go_quiet (first | (go_at_call 34; (with_reducible refine (spec_l1In.calls ((rd_T57 l0 a1).f2) 0 2 t124 _ A33.out).mono ?_); rintro e w' ⟨rfl, ⟨nd, rfl⟩⟩; (try first | exact ⟨rfl, _, World.drewN_drewN _ _ _⟩ | exact ⟨rfl, _, Eq.trans (World.drewN_drewN _ _ _) (congrArg (World.drewN _) (Nat.add_assoc _ _ _))⟩))); try go_wp2_with (first | (go_at_call 34; (with_reducible refine (spec_l1In.calls ((rd_T57 l0 a1).f2) 0 2 t124 _ A33.out).mono ?_); rintro e w' ⟨rfl, ⟨nd, rfl⟩⟩; (try first | exact ⟨rfl, _, World.drewN_drewN _ _ _⟩ | exact ⟨rfl, _, Eq.trans (World.drewN_drewN _ _ _) (congrArg (World.drewN _) (Nat.add_assoc _ _ _))⟩))))
              go_meet
              case rel => exact ⟨_, (!t124), sr, H', ⟨by have := HJ3.out; first | omega | exact Nat.le_refl _⟩, ⟨blk_later BK118.out⟩, ⟨below_later HB.out⟩⟩
        case rest =>
          clear HC9
          try clear c6
          try clear c7b0
          try clear c8b0
          try clear hcz11_0
          try clear hcz11_1
          try clear hcz11_2
          try clear hcz11_3
          try clear hfz11_0
          try clear hfz11_1
          try clear hfz11_2
          try clear hfz11_3
          try clear hx117_0
          try clear hx117_1
          try clear hx117_2
          try clear hx117_3
          try clear p117
          try clear q117
          obtain ⟨kq, x56_8, rfl, HA, HJ8, BK118, HB⟩ := hcut
          cases kq with
          | zero => exact absurd HA.out (by simp [spec_l5Check.j1])
          | succ kj8 =>
            have H := HA.out
            clear HA
            simp only [spec_l5Check.j1] at H
            by_cases c35 : x56_8 = true
            · subst c35
              replace H := ifp rfl H
              obtain rfl := Option.some.inj H
              go_wp2
              repeat (go_quiet (fail); try go_wp2)
              go_ret
              exact fin_ (below_later HB.out)
            · replace c35 := Bool.eq_false_iff.mpr c35
              subst c35
              replace H := ifn Bool.false_ne_true H
              by_cases c36 : ((rd_T57 l0 a1).f1) = 7
              · rw [if_pos c36] at H
                have c36b0 : (((rd_T57 l0 a1).f1) == 7) = true := beq_iff_eq.mpr c36
                have c36b1 : (((rd_T57 l0 a1).f1) != 7) = false := bne_eq_false_iff_eq.mpr c36
                clear c36
                by_cases c37 : ((rd_T57 l0 a1).f3) < 1
                · rw [if_pos c37] at H
                  have c37b0 := decide_eq_true c37
                  clear c37
                  obtain rfl := Option.some.inj H
                  obtain ⟨hcz38_0, hcz38_1, hcz38_2, hcz38_3, hfz38_0, hfz38_1, hfz38_2, hfz38_3⟩ := cl4 BK118
                  go_wp2
                  repeat (go_quiet (fail); try go_wp2)
                  go_ret
                  exact fin_ (below_later HB.out)
                · rw [if_neg c37] at H
                  have c37b0 := decide_eq_false c37
                  clear c37
                  obtain ⟨y126, hy126⟩ : ∃ y_ : List ByteArray, y_ = (([] : List ByteArray)) := ⟨_, rfl⟩
                  replace H : (spec_l5Check.l0 kj8 l0 a2 (wrap64 (a1 + 1)) y126 0 ((rd_T57 l0 a1).f0) ((rd_T57 l0 a1).f1) ((rd_T57 l0 a1).f2) ((rd_T57 l0 a1).f3)) = some r := by first | (rw [hy126]; with_reducible exact H) | (rw [hy126]; exact H) | exact H
                  have Ny126 := Aside0.mk hy126
                  clear hy126
                  have H' := Aside0.mk H
                  clear H
                  obtain ⟨hcz39_0, hcz39_1, hcz39_2, hcz39_3, hfz39_0, hfz39_1, hfz39_2, hfz39_3⟩ := cl4 BK118
                  go_wp2_with (first | ((with_reducible refine gate_dst (N := 76) rfl ?_); refine Kd.R_lit Kd.string _ 9 ?hg (N := 76) ?hd (xs := ([] : List ByteArray)) (inner := []) (ok := fun _ => True) (okp := fun _ => True) ?hr ?hp (fun _ hk => hk) trivial (Below.refl _ _) (Nat.le_refl _) (by simp) ?_; (case hd => rfl); (case hg => rfl); (case hr => first | (go_simp; done) | (go_simp; rfl)); (case hp => exact (Reps.none _ _)); intro v127 w40 ho41 hb hg_ hnew_; clear hg_ hnew_; (first | rw [← Ny126.out] at ho41 | (simp only [Int.reduceToNat] at ho41; rw [← Ny126.out] at ho41)); have HO128 := Aside0.mk (Kd.R_lower ho41 (below_size (below_later HB.out))); replace BK118 := bkb BK118 hb; replace HB := bst HB hb; clear hb ho41))
                  repeat (go_quiet (fail); try go_wp2_with (first | ((with_reducible refine gate_dst (N := 76) rfl ?_); refine Kd.R_lit Kd.string _ 9 ?hg (N := 76) ?hd (xs := ([] : List ByteArray)) (inner := []) (ok := fun _ => True) (okp := fun _ => True) ?hr ?hp (fun _ hk => hk) trivial (Below.refl _ _) (Nat.le_refl _) (by simp) ?_; (case hd => rfl); (case hg => rfl); (case hr => first | (go_simp; done) | (go_simp; rfl)); (case hp => exact (Reps.none _ _)); intro v127 w40 ho41 hb hg_ hnew_; clear hg_ hnew_; (first | rw [← Ny126.out] at ho41 | (simp only [Int.reduceToNat] at ho41; rw [← Ny126.out] at ho41)); have HO128 := Aside0.mk (Kd.R_lower ho41 (below_size (below_later HB.out))); replace BK118 := bkb BK118 hb; replace HB := bst HB hb; clear hb ho41)))
                  go_loopg [8, 9, 10] kj8 (fun kq v8 v9 v10 w' => ∃ (x8_3 : Int) (x9_3 : List ByteArray) (x10_3 : Int), v8 = .int .i64 x8_3 ∧ v10 = .int .i64 x10_3 ∧ Aside0 (spec_l5Check.l0 kq l0 a2 x8_3 x9_3 x10_3 ((rd_T57 l0 a1).f0) ((rd_T57 l0 a1).f1) ((rd_T57 l0 a1).f2) ((rd_T57 l0 a1).f3) = some r) ∧ Aside0 (kq ≤ kj8) ∧ Aside0 (Kd.R Kd.string 9 w' w.heap.size (fun _ => True) v9 x9_3) ∧ Aside0 (w'.heap[gb118]? = some (.cells #[.string ((rd_T57 l0 a1).f0), .int .i64 ((rd_T57 l0 a1).f1), .int .i64 ((rd_T57 l0 a1).f2), .int .i64 ((rd_T57 l0 a1).f3)] 57 (0, 0))) ∧ Aside0 (Below w.heap.size w w'))
                  case atStart => exact ⟨(wrap64 (a1 + 1)), (y126), (0), sr, sr, H', ⟨Nat.le_refl _⟩, ⟨R_later HO128.out⟩, ⟨blk_later BK118.out⟩, ⟨below_later HB.out⟩⟩
                  case round =>
                    clear H'
                    try clear c6
                    try clear c7b0
                    try clear c8b0
                    try clear c35
                    try clear c36
                    try clear c36b0
                    try clear c36b1
                    try clear c37
                    try clear c37b0
                    try clear hcz11_0
                    try clear hcz11_1
                    try clear hcz11_2
                    try clear hcz11_3
                    try clear hcz39_0
                    try clear hcz39_1
                    try clear hcz39_2
                    try clear hcz39_3
                    try clear hfz11_0
                    try clear hfz11_1
                    try clear hfz11_2
                    try clear hfz11_3
                    try clear hfz39_0
                    try clear hfz39_1
                    try clear hfz39_2
                    try clear hfz39_3
                    try clear hx117_0
                    try clear hx117_1
                    try clear hx117_2
                    try clear hx117_3
                    try clear p117
                    try clear q117
                    obtain ⟨x8_3, x9_3, x10_3, rfl, rfl, HA, HK3, HO_9, BK118, HB⟩ := hrel
                    cases gk with
                    | zero => exact absurd HA.out (by simp [spec_l5Check.l0])
                    | succ k3 =>
                      have H := HA.out
                      clear HA
                      simp only [spec_l5Check.l0] at H
                      by_cases c42 : x10_3 < ((rd_T57 l0 a1).f3)
                      · rw [if_pos c42] at H
                        have c42b0 := decide_eq_true c42
                        clear c42
                        by_cases c43 : x8_3 ≥ (l0.length : Int)
                        · rw [if_pos c43] at H
                          have c43b0 : decide ((l0.length : Int) ≤ x8_3) = true := decide_eq_true c43
                          clear c43
                          obtain rfl := Option.some.inj H
                          obtain ⟨hcz44_0, hcz44_1, hcz44_2, hcz44_3, hfz44_0, hfz44_1, hfz44_2, hfz44_3⟩ := cl4 BK118
                          go_wp2
                          repeat (go_quiet (fail); try go_wp2)
                          go_ret
                          exact fin_ (below_later HB.out)
                        · rw [if_neg c43] at H
                          have c43b0 : decide ((l0.length : Int) ≤ x8_3) = false := decide_eq_false c43
                          clear c43
                          have H' := Aside0.mk H
                          clear H
                          obtain ⟨hcz45_0, hcz45_1, hcz45_2, hcz45_3, hfz45_0, hfz45_1, hfz45_2, hfz45_3⟩ := cl4 BK118
                          go_wp2
                          repeat (go_quiet (fail); try go_wp2)
                          go_loopg [11] k3 (fun kq v11 w' => ∃ (x11_4 : Int), v11 = .int .i64 x11_4 ∧ Aside0 (spec_l5Check.l1 kq l0 a2 x8_3 x9_3 x10_3 x11_4 ((rd_T57 l0 a1).f0) ((rd_T57 l0 a1).f1) ((rd_T57 l0 a1).f2) ((rd_T57 l0 a1).f3) = some r) ∧ Aside0 (kq ≤ k3) ∧ Aside0 (Kd.R Kd.string 9 w' w.heap.size (fun _ => True) u9 x9_3) ∧ Aside0 (w'.heap[gb118]? = some (.cells #[.string ((rd_T57 l0 a1).f0), .int .i64 ((rd_T57 l0 a1).f1), .int .i64 ((rd_T57 l0 a1).f2), .int .i64 ((rd_T57 l0 a1).f3)] 57 (0, 0))) ∧ Aside0 (Below w.heap.size w w'))
                          case atStart => exact ⟨(0), sr, H', ⟨Nat.le_refl _⟩, ⟨R_later HO_9.out⟩, ⟨blk_later BK118.out⟩, ⟨below_later HB.out⟩⟩
                          case round =>
                            clear H'
                            try clear c6
                            try clear c7b0
                            try clear c8b0
                            try clear c35
                            try clear c36
                            try clear c36b0
                            try clear c36b1
                            try clear c37
                            try clear c37b0
                            try clear c42
                            try clear c42b0
                            try clear c43
                            try clear c43b0
                            try clear hcz11_0
                            try clear hcz11_1
                            try clear hcz11_2
                            try clear hcz11_3
                            try clear hcz39_0
                            try clear hcz39_1
                            try clear hcz39_2
                            try clear hcz39_3
                            try clear hcz45_0
                            try clear hcz45_1
                            try clear hcz45_2
                            try clear hcz45_3
                            try clear hfz11_0
                            try clear hfz11_1
                            try clear hfz11_2
                            try clear hfz11_3
                            try clear hfz39_0
                            try clear hfz39_1
                            try clear hfz39_2
                            try clear hfz39_3
                            try clear hfz45_0
                            try clear hfz45_1
                            try clear hfz45_2
                            try clear hfz45_3
                            try clear hx117_0
                            try clear hx117_1
                            try clear hx117_2
                            try clear hx117_3
                            try clear p117
                            try clear q117
                            obtain ⟨x11_4, rfl, HA, HK4, HO_9, BK118, HB⟩ := hrel
                            cases gk with
                            | zero => exact absurd HA.out (by simp [spec_l5Check.l1])
                            | succ k4 =>
                              have H := HA.out
                              clear HA
                              simp only [spec_l5Check.l1] at H
                              by_cases c46 : x11_4 < (x9_3.length : Int)
                              · rw [if_pos c46] at H
                                have c46b0 := decide_eq_true c46
                                clear c46
                                replace H := ifd H
                                obtain ⟨c47b0, H⟩ := H
                                replace H := ifd H
                                obtain ⟨c48b0, H⟩ := H
                                replace H := ifd H
                                obtain ⟨c49b0, H⟩ := H
                                by_cases c50 : (rdOf ByteArray.empty x9_3 x11_4).toList = ((rd_T57 l0 x8_3).f0).toList
                                · rw [if_pos c50] at H
                                  have c50b0 : ((rdOf ByteArray.empty x9_3 x11_4).toList == ((rd_T57 l0 x8_3).f0).toList) = true := beq_iff_eq.mpr c50
                                  have c50b1 : ((rdOf ByteArray.empty x9_3 x11_4).toList != ((rd_T57 l0 x8_3).f0).toList) = false := bne_eq_false_iff_eq.mpr c50
                                  clear c50
                                  obtain rfl := Option.some.inj H
                                  obtain ⟨Ao51, co51, eo51⟩ := Kd.R_slice HO_9.out
                                  subst eo51
                                  have p129 : 0 ≤ (x11_4 : Int) := dcd
                                  have q129 : x11_4 < (x9_3.length : Int) := dcd
                                  obtain ⟨ad129, e129, hx129_0⟩ := Kd.at_string (Kd.R_reads' HO_9.out).2.2 x11_4 p129 q129
                                  cases e129
                                  replace p129 := eq_true p129
                                  replace q129 := eq_true q129
                                  have p130 : 0 ≤ (x8_3 : Int) := dcd
                                  have q130 : x8_3 < (l0.length : Int) := dcd
                                  obtain ⟨ad130, e130, hx130_0, hx130_1, hx130_2, hx130_3⟩ := at_T57 HR0.out x8_3 p130 q130
                                  obtain rfl : ad117 = ad130 := (by injection e130)
                                  replace hx130_0 := crd HB hx130_0
                                  replace hx130_1 := crd HB hx130_1
                                  replace hx130_2 := crd HB hx130_2
                                  replace hx130_3 := crd HB hx130_3
                                  replace p130 := eq_true p130
                                  replace q130 := eq_true q130
                                  go_wp2
                                  repeat (go_quiet (fail); try go_wp2)
                                  go_ret
                                  exact fin_ (below_later HB.out)
                                · rw [if_neg c50] at H
                                  have c50b0 : ((rdOf ByteArray.empty x9_3 x11_4).toList == ((rd_T57 l0 x8_3).f0).toList) = false := beq_eq_false_iff_ne.mpr c50
                                  have c50b1 : ((rdOf ByteArray.empty x9_3 x11_4).toList != ((rd_T57 l0 x8_3).f0).toList) = true := bne_iff_ne.mpr c50
                                  have H' := Aside0.mk H
                                  clear H
                                  obtain ⟨Ao52, co52, eo52⟩ := Kd.R_slice HO_9.out
                                  subst eo52
                                  have p129 : 0 ≤ (x11_4 : Int) := dcd
                                  have q129 : x11_4 < (x9_3.length : Int) := dcd
                                  obtain ⟨ad129, e129, hx129_0⟩ := Kd.at_string (Kd.R_reads' HO_9.out).2.2 x11_4 p129 q129
                                  cases e129
                                  replace p129 := eq_true p129
                                  replace q129 := eq_true q129
                                  have p130 : 0 ≤ (x8_3 : Int) := dcd
                                  have q130 : x8_3 < (l0.length : Int) := dcd
                                  obtain ⟨ad130, e130, hx130_0, hx130_1, hx130_2, hx130_3⟩ := at_T57 HR0.out x8_3 p130 q130
                                  obtain rfl : ad117 = ad130 := (by injection e130)
                                  replace hx130_0 := crd HB hx130_0
                                  replace hx130_1 := crd HB hx130_1
                                  replace hx130_2 := crd HB hx130_2
                                  replace hx130_3 := crd HB hx130_3
                                  replace p130 := eq_true p130
                                  replace q130 := eq_true q130
                                  go_wp2
                                  repeat (go_quiet (fail); try go_wp2)
                                  go_roundg k4
                                  case measure => have := HJ3.out; have := HJ8.out; have := HK3.out; have := HK4.out; omega
                                  case rel => exact ⟨(wrap64 (x11_4 + 1)), sr, H', ⟨by have := HJ3.out; have := HJ8.out; have := HK3.out; have := HK4.out; omega⟩, ⟨R_later HO_9.out⟩, ⟨blk_later BK118.out⟩, ⟨below_later HB.out⟩⟩
                              · rw [if_neg c46] at H
                                have c46b0 := decide_eq_false c46
                                clear c46
                                replace H := ifd H
                                obtain ⟨c53b0, H⟩ := H
                                replace H := ifd H
                                obtain ⟨c54b0, H⟩ := H
                                replace H := ifs H
                                obtain ⟨c55, H⟩ := H
                                have LMc55 := Aside0.mk c55
                                clear c55
                                obtain ⟨y132, hy132⟩ : ∃ y_ : List ByteArray, y_ = (x9_3 ++ [(rd_T57 l0 x8_3).f0]) := ⟨_, rfl⟩
                                replace H : ((spec_l5Check.f k4 l0 x8_3 (wrap64 (a2 + 1))).bind fun t135 => (if t135 < 0 then (some (-1)) else (spec_l5Check.l0 k4 l0 a2 t135 y132 (wrap64 (x10_3 + 1)) ((rd_T57 l0 a1).f0) ((rd_T57 l0 a1).f1) ((rd_T57 l0 a1).f2) ((rd_T57 l0 a1).f3)))) = some r := by first | (rw [hy132]; with_reducible exact H) | (rw [hy132]; exact H) | exact H
                                have Ny132 := Aside0.mk hy132
                                clear hy132
                                replace H := bnd H
                                obtain ⟨t135, A56, H⟩ := H
                                by_cases c57 : t135 < 0
                                · rw [if_pos c57] at H
                                  have c57b0 := decide_eq_true c57
                                  clear c57
                                  obtain rfl := Option.some.inj H
                                  obtain ⟨Ao58, co58, eo58⟩ := Kd.R_slice HO_9.out
                                  subst eo58
                                  have p131 : 0 ≤ (x8_3 : Int) := dcd
                                  have q131 : x8_3 < (l0.length : Int) := dcd
                                  obtain ⟨ad131, e131, hx131_0, hx131_1, hx131_2, hx131_3⟩ := at_T57 HR0.out x8_3 p131 q131
                                  obtain rfl : ad117 = ad131 := (by injection e131)
                                  replace hx131_0 := crd HB hx131_0
                                  replace hx131_1 := crd HB hx131_1
                                  replace hx131_2 := crd HB hx131_2
                                  replace hx131_3 := crd HB hx131_3
                                  replace p131 := eq_true p131
                                  replace q131 := eq_true q131
                                  go_wp2_with (first | ((with_reducible refine gate_builtin (b := .append) (xs := #[.tmp 103, .tmp 109]) rfl ?_); at_builtin; refine Kd.R_append Kd.string (w0 := w) w.heap.size rfl (.tmp 103) (.tmp 109) 96 9 (.string ⟨#[]⟩) 16 rfl Try.underlying96 info9 rfl (by decide) (by omega) (.slice Ao58 x9_3.length co58) x9_3 ((rd_T57 l0 x8_3).f0) [.string ((rd_T57 l0 x8_3).f0)] (fun _ => True) (fun _ => False) rfl rfl ?aP (fun _ hk => hk.elim) ?aF ?aO ?aB ?aS ?aL ?_; (case aP => exact rfl); (case aB => exact (below_later HB.out)); (case aF => exact (fun _ _ => trivial)); (case aO => exact (R_later HO_9.out)); (case aS => exact (below_size (below_later HB.out))); (case aL => have := LMc55.out; omega); intro v133 w59 ho hb hg hat; rw [← Ny132.out] at ho; have n0_ := Aside0.mk (blk_grown (blk_later BK118.out) hg (Kd.R_ne HO_9.out BK118.out (by decide))); have n1_ := Aside0.mk (hb); have n2_ := Aside0.mk (ho); clear BK118; clear HB; clear HO_9; have BK118 := n0_; have HB := n1_; have HO134 := n2_; clear n0_ n1_ n2_; clear ho hb hg hat) | (go_at_call 50; (with_reducible refine (ih k4 (by have := HJ3.out; have := HJ8.out; have := HK3.out; have := HK4.out; omega) _ _ l0 x8_3 (wrap64 (a2 + 1)) t135 _ ?side1 ?side2 A56.out).mono ?_); (case side1 => repeat (first | exact (Kd.C_below HR0.out HB.out) | (with_reducible refine Kd.C_alloc ?_ _) | (with_reducible refine Kd.C_drewN ?_ _) | (with_reducible refine Kd.C_drew ?_))); (case side2 => exact HC0.out); rintro e w60 ⟨rfl, hb⟩; replace HO134 := Aside0.mk (Kd.R_below (R_later HO134.out) hb); replace BK118 := bkb BK118 hb; replace HB := bst HB hb; (try clear hb); (try clear hk)))
                                  repeat (go_quiet (fail); try go_wp2_with (first | ((with_reducible refine gate_builtin (b := .append) (xs := #[.tmp 103, .tmp 109]) rfl ?_); at_builtin; refine Kd.R_append Kd.string (w0 := w) w.heap.size rfl (.tmp 103) (.tmp 109) 96 9 (.string ⟨#[]⟩) 16 rfl Try.underlying96 info9 rfl (by decide) (by omega) (.slice Ao58 x9_3.length co58) x9_3 ((rd_T57 l0 x8_3).f0) [.string ((rd_T57 l0 x8_3).f0)] (fun _ => True) (fun _ => False) rfl rfl ?aP (fun _ hk => hk.elim) ?aF ?aO ?aB ?aS ?aL ?_; (case aP => exact rfl); (case aB => exact (below_later HB.out)); (case aF => exact (fun _ _ => trivial)); (case aO => exact (R_later HO_9.out)); (case aS => exact (below_size (below_later HB.out))); (case aL => have := LMc55.out; omega); intro v133 w59 ho hb hg hat; rw [← Ny132.out] at ho; have n0_ := Aside0.mk (blk_grown (blk_later BK118.out) hg (Kd.R_ne HO_9.out BK118.out (by decide))); have n1_ := Aside0.mk (hb); have n2_ := Aside0.mk (ho); clear BK118; clear HB; clear HO_9; have BK118 := n0_; have HB := n1_; have HO134 := n2_; clear n0_ n1_ n2_; clear ho hb hg hat) | (go_at_call 50; (with_reducible refine (ih k4 (by have := HJ3.out; have := HJ8.out; have := HK3.out; have := HK4.out; omega) _ _ l0 x8_3 (wrap64 (a2 + 1)) t135 _ ?side1 ?side2 A56.out).mono ?_); (case side1 => repeat (first | exact (Kd.C_below HR0.out HB.out) | (with_reducible refine Kd.C_alloc ?_ _) | (with_reducible refine Kd.C_drewN ?_ _) | (with_reducible refine Kd.C_drew ?_))); (case side2 => exact HC0.out); rintro e w60 ⟨rfl, hb⟩; replace HO134 := Aside0.mk (Kd.R_below (R_later HO134.out) hb); replace BK118 := bkb BK118 hb; replace HB := bst HB hb; (try clear hb); (try clear hk))))
                                  go_ret
                                  exact fin_ (below_later HB.out)
                                · rw [if_neg c57] at H
                                  have c57b0 := decide_eq_false c57
                                  clear c57
                                  have H' := Aside0.mk H
                                  clear H
                                  obtain ⟨Ao61, co61, eo61⟩ := Kd.R_slice HO_9.out
                                  subst eo61
                                  have p131 : 0 ≤ (x8_3 : Int) := dcd
                                  have q131 : x8_3 < (l0.length : Int) := dcd
                                  obtain ⟨ad131, e131, hx131_0, hx131_1, hx131_2, hx131_3⟩ := at_T57 HR0.out x8_3 p131 q131
                                  obtain rfl : ad117 = ad131 := (by injection e131)
                                  replace hx131_0 := crd HB hx131_0
                                  replace hx131_1 := crd HB hx131_1
                                  replace hx131_2 := crd HB hx131_2
                                  replace hx131_3 := crd HB hx131_3
                                  replace p131 := eq_true p131
                                  replace q131 := eq_true q131
                                  go_wp2_with (first | ((with_reducible refine gate_builtin (b := .append) (xs := #[.tmp 103, .tmp 109]) rfl ?_); at_builtin; refine Kd.R_append Kd.string (w0 := w) w.heap.size rfl (.tmp 103) (.tmp 109) 96 9 (.string ⟨#[]⟩) 16 rfl Try.underlying96 info9 rfl (by decide) (by omega) (.slice Ao61 x9_3.length co61) x9_3 ((rd_T57 l0 x8_3).f0) [.string ((rd_T57 l0 x8_3).f0)] (fun _ => True) (fun _ => False) rfl rfl ?aP (fun _ hk => hk.elim) ?aF ?aO ?aB ?aS ?aL ?_; (case aP => exact rfl); (case aB => exact (below_later HB.out)); (case aF => exact (fun _ _ => trivial)); (case aO => exact (R_later HO_9.out)); (case aS => exact (below_size (below_later HB.out))); (case aL => have := LMc55.out; omega); intro v133 w62 ho hb hg hat; rw [← Ny132.out] at ho; have n0_ := Aside0.mk (blk_grown (blk_later BK118.out) hg (Kd.R_ne HO_9.out BK118.out (by decide))); have n1_ := Aside0.mk (hb); have n2_ := Aside0.mk (ho); clear BK118; clear HB; clear HO_9; have BK118 := n0_; have HB := n1_; have HO134 := n2_; clear n0_ n1_ n2_; clear ho hb hg hat) | (go_at_call 50; (with_reducible refine (ih k4 (by have := HJ3.out; have := HJ8.out; have := HK3.out; have := HK4.out; omega) _ _ l0 x8_3 (wrap64 (a2 + 1)) t135 _ ?side1 ?side2 A56.out).mono ?_); (case side1 => repeat (first | exact (Kd.C_below HR0.out HB.out) | (with_reducible refine Kd.C_alloc ?_ _) | (with_reducible refine Kd.C_drewN ?_ _) | (with_reducible refine Kd.C_drew ?_))); (case side2 => exact HC0.out); rintro e w63 ⟨rfl, hb⟩; replace HO134 := Aside0.mk (Kd.R_below (R_later HO134.out) hb); replace BK118 := bkb BK118 hb; replace HB := bst HB hb; (try clear hb); (try clear hk)))
                                  repeat (go_quiet (fail); try go_wp2_with (first | ((with_reducible refine gate_builtin (b := .append) (xs := #[.tmp 103, .tmp 109]) rfl ?_); at_builtin; refine Kd.R_append Kd.string (w0 := w) w.heap.size rfl (.tmp 103) (.tmp 109) 96 9 (.string ⟨#[]⟩) 16 rfl Try.underlying96 info9 rfl (by decide) (by omega) (.slice Ao61 x9_3.length co61) x9_3 ((rd_T57 l0 x8_3).f0) [.string ((rd_T57 l0 x8_3).f0)] (fun _ => True) (fun _ => False) rfl rfl ?aP (fun _ hk => hk.elim) ?aF ?aO ?aB ?aS ?aL ?_; (case aP => exact rfl); (case aB => exact (below_later HB.out)); (case aF => exact (fun _ _ => trivial)); (case aO => exact (R_later HO_9.out)); (case aS => exact (below_size (below_later HB.out))); (case aL => have := LMc55.out; omega); intro v133 w62 ho hb hg hat; rw [← Ny132.out] at ho; have n0_ := Aside0.mk (blk_grown (blk_later BK118.out) hg (Kd.R_ne HO_9.out BK118.out (by decide))); have n1_ := Aside0.mk (hb); have n2_ := Aside0.mk (ho); clear BK118; clear HB; clear HO_9; have BK118 := n0_; have HB := n1_; have HO134 := n2_; clear n0_ n1_ n2_; clear ho hb hg hat) | (go_at_call 50; (with_reducible refine (ih k4 (by have := HJ3.out; have := HJ8.out; have := HK3.out; have := HK4.out; omega) _ _ l0 x8_3 (wrap64 (a2 + 1)) t135 _ ?side1 ?side2 A56.out).mono ?_); (case side1 => repeat (first | exact (Kd.C_below HR0.out HB.out) | (with_reducible refine Kd.C_alloc ?_ _) | (with_reducible refine Kd.C_drewN ?_ _) | (with_reducible refine Kd.C_drew ?_))); (case side2 => exact HC0.out); rintro e w63 ⟨rfl, hb⟩; replace HO134 := Aside0.mk (Kd.R_below (R_later HO134.out) hb); replace BK118 := bkb BK118 hb; replace HB := bst HB hb; (try clear hb); (try clear hk))))
                                  go_roundg k4
                                  case measure => have := HJ3.out; have := HJ8.out; have := HK3.out; have := HK4.out; omega
                                  case rel => exact ⟨(t135), (y132), (wrap64 (x10_3 + 1)), sr, sr, H', ⟨by have := HJ3.out; have := HJ8.out; have := HK3.out; have := HK4.out; omega⟩, ⟨R_later HO134.out⟩, ⟨blk_later BK118.out⟩, ⟨below_later HB.out⟩⟩
                      · rw [if_neg c42] at H
                        have c42b0 := decide_eq_false c42
                        clear c42
                        obtain rfl := Option.some.inj H
                        obtain ⟨hcz64_0, hcz64_1, hcz64_2, hcz64_3, hfz64_0, hfz64_1, hfz64_2, hfz64_3⟩ := cl4 BK118
                        go_wp2
                        repeat (go_quiet (fail); try go_wp2)
                        go_ret
                        exact fin_ (below_later HB.out)
              · rw [if_neg c36] at H
                have c36b0 : (((rd_T57 l0 a1).f1) == 7) = false := beq_eq_false_iff_ne.mpr c36
                have c36b1 : (((rd_T57 l0 a1).f1) != 7) = true := bne_iff_ne.mpr c36
                replace H := bnd H
                obtain ⟨t125, A65, H⟩ := H
                by_cases c66 : t125 = true
                · subst c66
                  replace H := ifp rfl H
                  by_cases c67 : ((rd_T57 l0 a1).f3) = 0
                  · rw [if_pos c67] at H
                    have c67b0 : (((rd_T57 l0 a1).f3) == 0) = true := beq_iff_eq.mpr c67
                    have c67b1 : (((rd_T57 l0 a1).f3) != 0) = false := bne_eq_false_iff_eq.mpr c67
                    clear c67
                    obtain rfl := Option.some.inj H
                    obtain ⟨hcz68_0, hcz68_1, hcz68_2, hcz68_3, hfz68_0, hfz68_1, hfz68_2, hfz68_3⟩ := cl4 BK118
                    go_wp2_with (first | (go_at_call 60; (with_reducible refine (spec_l5Type.calls ((rd_T57 l0 a1).f1) true _ A65.out).mono ?_); rintro e w' ⟨rfl, ⟨nd, rfl⟩⟩; (try first | exact ⟨rfl, _, World.drewN_drewN _ _ _⟩ | exact ⟨rfl, _, Eq.trans (World.drewN_drewN _ _ _) (congrArg (World.drewN _) (Nat.add_assoc _ _ _))⟩)))
                    repeat (go_quiet (first | (go_at_call 60; (with_reducible refine (spec_l5Type.calls ((rd_T57 l0 a1).f1) true _ A65.out).mono ?_); rintro e w' ⟨rfl, ⟨nd, rfl⟩⟩; (try first | exact ⟨rfl, _, World.drewN_drewN _ _ _⟩ | exact ⟨rfl, _, Eq.trans (World.drewN_drewN _ _ _) (congrArg (World.drewN _) (Nat.add_assoc _ _ _))⟩))); try go_wp2_with (first | (go_at_call 60; (with_reducible refine (spec_l5Type.calls ((rd_T57 l0 a1).f1) true _ A65.out).mono ?_); rintro e w' ⟨rfl, ⟨nd, rfl⟩⟩; (try first | exact ⟨rfl, _, World.drewN_drewN _ _ _⟩ | exact ⟨rfl, _, Eq.trans (World.drewN_drewN _ _ _) (congrArg (World.drewN _) (Nat.add_assoc _ _ _))⟩))))
                    go_ret
                    exact fin_ (below_later HB.out)
                  · rw [if_neg c67] at H
                    have c67b0 : (((rd_T57 l0 a1).f3) == 0) = false := beq_eq_false_iff_ne.mpr c67
                    have c67b1 : (((rd_T57 l0 a1).f3) != 0) = true := bne_iff_ne.mpr c67
                    obtain rfl := Option.some.inj H
                    obtain ⟨hcz69_0, hcz69_1, hcz69_2, hcz69_3, hfz69_0, hfz69_1, hfz69_2, hfz69_3⟩ := cl4 BK118
                    go_wp2_with (first | (go_at_call 60; (with_reducible refine (spec_l5Type.calls ((rd_T57 l0 a1).f1) true _ A65.out).mono ?_); rintro e w' ⟨rfl, ⟨nd, rfl⟩⟩; (try first | exact ⟨rfl, _, World.drewN_drewN _ _ _⟩ | exact ⟨rfl, _, Eq.trans (World.drewN_drewN _ _ _) (congrArg (World.drewN _) (Nat.add_assoc _ _ _))⟩)))
                    repeat (go_quiet (first | (go_at_call 60; (with_reducible refine (spec_l5Type.calls ((rd_T57 l0 a1).f1) true _ A65.out).mono ?_); rintro e w' ⟨rfl, ⟨nd, rfl⟩⟩; (try first | exact ⟨rfl, _, World.drewN_drewN _ _ _⟩ | exact ⟨rfl, _, Eq.trans (World.drewN_drewN _ _ _) (congrArg (World.drewN _) (Nat.add_assoc _ _ _))⟩))); try go_wp2_with (first | (go_at_call 60; (with_reducible refine (spec_l5Type.calls ((rd_T57 l0 a1).f1) true _ A65.out).mono ?_); rintro e w' ⟨rfl, ⟨nd, rfl⟩⟩; (try first | exact ⟨rfl, _, World.drewN_drewN _ _ _⟩ | exact ⟨rfl, _, Eq.trans (World.drewN_drewN _ _ _) (congrArg (World.drewN _) (Nat.add_assoc _ _ _))⟩))))
                    go_ret
                    exact fin_ (below_later HB.out)
                · replace c66 := Bool.eq_false_iff.mpr c66
                  subst c66
                  replace H := ifn Bool.false_ne_true H
                  obtain rfl := Option.some.inj H
                  obtain ⟨hcz70_0, hcz70_1, hcz70_2, hcz70_3, hfz70_0, hfz70_1, hfz70_2, hfz70_3⟩ := cl4 BK118
                  go_wp2_with (first | (go_at_call 60; (with_reducible refine (spec_l5Type.calls ((rd_T57 l0 a1).f1) false _ A65.out).mono ?_); rintro e w' ⟨rfl, ⟨nd, rfl⟩⟩; (try first | exact ⟨rfl, _, World.drewN_drewN _ _ _⟩ | exact ⟨rfl, _, Eq.trans (World.drewN_drewN _ _ _) (congrArg (World.drewN _) (Nat.add_assoc _ _ _))⟩)))
                  repeat (go_quiet (first | (go_at_call 60; (with_reducible refine (spec_l5Type.calls ((rd_T57 l0 a1).f1) false _ A65.out).mono ?_); rintro e w' ⟨rfl, ⟨nd, rfl⟩⟩; (try first | exact ⟨rfl, _, World.drewN_drewN _ _ _⟩ | exact ⟨rfl, _, Eq.trans (World.drewN_drewN _ _ _) (congrArg (World.drewN _) (Nat.add_assoc _ _ _))⟩))); try go_wp2_with (first | (go_at_call 60; (with_reducible refine (spec_l5Type.calls ((rd_T57 l0 a1).f1) false _ A65.out).mono ?_); rintro e w' ⟨rfl, ⟨nd, rfl⟩⟩; (try first | exact ⟨rfl, _, World.drewN_drewN _ _ _⟩ | exact ⟨rfl, _, Eq.trans (World.drewN_drewN _ _ _) (congrArg (World.drewN _) (Nat.add_assoc _ _ _))⟩))))
                  go_ret
                  exact fin_ (below_later HB.out)
/-! ### spec_SchemaOk: function 33 -/
def spec_SchemaOk.f (k : Nat) (l0 : List (S57)) : Option (Bool) := (spec_l1In.f (l0.length : Int) 2 20).bind fun t136 => (if t136 = true then ((spec_l5Check.f k l0 0 1).bind fun t137 => (some (t137 == (l0.length : Int)))) else (some false))
set_option maxHeartbeats 8000000 in
set_option maxRecDepth 100000 in
theorem spec_SchemaOk.calls (k : Nat) (A0 : Option Addr) (c0 : Nat) (l0 : List (S57)) (r : Bool) (w : World) (hr0 : Kd.C k57 w A0 l0.length l0) (hc0 : l0.length ≤ c0) (h : spec_SchemaOk.f k l0 = some r) :
    Calls Try.prog 33 #[.slice A0 l0.length c0] w fun e w' => e = .returned (.bool r) ∧ Below w.heap.size w w' := by
  have HR0 := Aside0.mk hr0
  have HC0 := Aside0.mk hc0
  clear hr0 hc0
  have HB := Aside0.mk (Below.refl w.heap.size w)
  have H : ((spec_l1In.f (l0.length : Int) 2 20).bind fun t136 => (if t136 = true then ((spec_l5Check.f k l0 0 1).bind fun t137 => (some (t137 == (l0.length : Int)))) else (some false))) = some r := h
  clear h
  replace H := bnd H
  obtain ⟨t136, A2, H⟩ := H
  by_cases c3 : t136 = true
  · subst c3
    replace H := ifp rfl H
    replace H := bnd H
    obtain ⟨t137, A4, H⟩ := H
    obtain rfl := Option.some.inj H
    go_enter Try.func33, Try.ntmps33
    go_wp2_with (first | ((with_reducible refine gate_callee (f := 34) rfl ?_); refine gl_ (some 5) Try.func34 #[.int .i64 (l0.length : Int), .int .i64 2, .int .i64 20] rfl ?_; (with_reducible refine (spec_l1In.calls (l0.length : Int) 2 20 true _ A2.out).mono ?_); rintro e w' ⟨rfl, ⟨nd, rfl⟩⟩; refine ⟨_, rfl, ?_⟩) | (go_at_call 50; (with_reducible refine (spec_l5Check.calls k _ _ l0 0 1 t137 _ ?side1 ?side2 A4.out).mono ?_); (case side1 => exact C_later HR0.out); (case side2 => exact HC0.out); rintro e w5 ⟨rfl, hb⟩; replace HB := bst HB hb; (try clear hb)))
    go_ret
    exact fin_ (below_later HB.out)
  · replace c3 := Bool.eq_false_iff.mpr c3
    subst c3
    replace H := ifn Bool.false_ne_true H
    obtain rfl := Option.some.inj H
    go_enter Try.func33, Try.ntmps33
    go_wp2_with (first | ((with_reducible refine gate_callee (f := 34) rfl ?_); refine gl_ (some 5) Try.func34 #[.int .i64 (l0.length : Int), .int .i64 2, .int .i64 20] rfl ?_; (with_reducible refine (spec_l1In.calls (l0.length : Int) 2 20 false _ A2.out).mono ?_); rintro e w' ⟨rfl, ⟨nd, rfl⟩⟩; refine ⟨_, rfl, ?_⟩))
    go_ret
    exact fin_ (below_later HB.out)

/-! ### spec_l5Leaves: function 19 -/
def spec_l5Leaves.l0 : Nat → List (S57) → List Int → Int → Option (List Int)
  | 0, _, _, _ => none
  | k + 1, x0, x3, x4 => if x4 < (x0.length : Int) then (if 0 ≤ x4 then (if ((rd_T57 x0 x4).f1) = 7 then (spec_l5Leaves.l0 k x0 x3 (wrap64 (x4 + 1))) else (if x3.length < 17592186044416 then (spec_l5Leaves.l0 k x0 (x3 ++ [x4]) (wrap64 (x4 + 1))) else (none))) else (none)) else (some x3)
def spec_l5Leaves.f (k : Nat) (l0 : List (S57)) : Option (List Int) := spec_l5Leaves.l0 k l0 (([] : List Int)) 0
set_option maxHeartbeats 8000000 in
set_option maxRecDepth 100000 in
theorem spec_l5Leaves.calls (k : Nat) (A0 : Option Addr) (c0 : Nat) (l0 : List (S57)) (r : List Int) (w : World) (hr0 : Kd.C k57 w A0 l0.length l0) (hc0 : l0.length ≤ c0) (h : spec_l5Leaves.f k l0 = some r) :
    Calls Try.prog 19 #[.slice A0 l0.length c0] w fun e w' => ∃ v0_ : Value, e = .returned (v0_) ∧ Kd.R (Kd.int .i64) 3 w' w.heap.size (fun _ => True) v0_ r ∧ Below w.heap.size w w' := by
  have HR0 := Aside0.mk hr0
  have HC0 := Aside0.mk hc0
  clear hr0 hc0
  have HB := Aside0.mk (Below.refl w.heap.size w)
  have H : (spec_l5Leaves.l0 k l0 (([] : List Int)) 0) = some r := h
  clear h
  obtain ⟨y138, hy138⟩ : ∃ y_ : List Int, y_ = (([] : List Int)) := ⟨_, rfl⟩
  replace H : (spec_l5Leaves.l0 k l0 y138 0) = some r := by first | (rw [hy138]; with_reducible exact H) | (rw [hy138]; exact H) | exact H
  have Ny138 := Aside0.mk hy138
  clear hy138
  have H' := Aside0.mk H
  clear H
  go_enter Try.func19, Try.ntmps19
  go_wp2_with (first | ((with_reducible refine gate_dst (N := 5) rfl ?_); refine Kd.R_lit (Kd.int .i64) _ 3 ?hg (N := 5) ?hd (xs := ([] : List Int)) (inner := []) (ok := fun _ => True) (okp := fun _ => True) ?hr ?hp (fun _ hk => hk) trivial (Below.refl _ _) (Nat.le_refl _) (by simp) ?_; (case hd => rfl); (case hg => rfl); (case hr => first | (go_simp; done) | (go_simp; rfl)); (case hp => exact (Reps.none _ _)); intro v139 w2 ho3 hb hg_ hnew_; clear hg_ hnew_; (first | rw [← Ny138.out] at ho3 | (simp only [Int.reduceToNat] at ho3; rw [← Ny138.out] at ho3)); have HO140 := Aside0.mk (Kd.R_lower ho3 (below_size (below_later HB.out))); replace HB := bst HB hb; clear hb ho3))
  go_loopg [3, 4] k (fun kq v3 v4 w' => ∃ (x3_1 : List Int) (x4_1 : Int), v4 = .int .i64 x4_1 ∧ Aside0 (spec_l5Leaves.l0 kq l0 x3_1 x4_1 = some r) ∧ Aside0 (kq ≤ k) ∧ Aside0 (Kd.R (Kd.int .i64) 3 w' w.heap.size (fun _ => True) v3 x3_1) ∧ Aside0 (Below w.heap.size w w'))
  case atStart => exact ⟨(y138), (0), sr, H', ⟨Nat.le_refl _⟩, ⟨R_later HO140.out⟩, ⟨below_later HB.out⟩⟩
  case round =>
    clear H'
    obtain ⟨x3_1, x4_1, rfl, HA, HK1, HO_3, HB⟩ := hrel
    cases gk with
    | zero => exact absurd HA.out (by simp [spec_l5Leaves.l0])
    | succ k1 =>
      have H := HA.out
      clear HA
      simp only [spec_l5Leaves.l0] at H
      by_cases c4 : x4_1 < (l0.length : Int)
      · rw [if_pos c4] at H
        have c4b0 := decide_eq_true c4
        clear c4
        replace H := ifd H
        obtain ⟨c5b0, H⟩ := H
        by_cases c6 : ((rd_T57 l0 x4_1).f1) = 7
        · rw [if_pos c6] at H
          have c6b0 : (((rd_T57 l0 x4_1).f1) == 7) = true := beq_iff_eq.mpr c6
          have c6b1 : (((rd_T57 l0 x4_1).f1) != 7) = false := bne_eq_false_iff_eq.mpr c6
          clear c6
          have H' := Aside0.mk H
          clear H
          have p141 : 0 ≤ (x4_1 : Int) := dcd
          have q141 : x4_1 < (l0.length : Int) := dcd
          obtain ⟨ad141, e141, hx141_0, hx141_1, hx141_2, hx141_3⟩ := at_T57 HR0.out x4_1 p141 q141
          cases e141
          replace hx141_0 := crd HB hx141_0
          replace hx141_1 := crd HB hx141_1
          replace hx141_2 := crd HB hx141_2
          replace hx141_3 := crd HB hx141_3
          replace p141 := eq_true p141
          replace q141 := eq_true q141
          go_wp2
          go_roundg k1
          case measure => have := HK1.out; omega
          case rel => exact ⟨(x3_1), (wrap64 (x4_1 + 1)), sr, H', ⟨by have := HK1.out; omega⟩, ⟨R_later HO_3.out⟩, ⟨below_later HB.out⟩⟩
        · rw [if_neg c6] at H
          have c6b0 : (((rd_T57 l0 x4_1).f1) == 7) = false := beq_eq_false_iff_ne.mpr c6
          have c6b1 : (((rd_T57 l0 x4_1).f1) != 7) = true := bne_iff_ne.mpr c6
          replace H := ifs H
          obtain ⟨c7, H⟩ := H
          have LMc7 := Aside0.mk c7
          clear c7
          obtain ⟨y142, hy142⟩ : ∃ y_ : List Int, y_ = (x3_1 ++ [x4_1]) := ⟨_, rfl⟩
          replace H : (spec_l5Leaves.l0 k1 l0 y142 (wrap64 (x4_1 + 1))) = some r := by first | (rw [hy142]; with_reducible exact H) | (rw [hy142]; exact H) | exact H
          have Ny142 := Aside0.mk hy142
          clear hy142
          have H' := Aside0.mk H
          clear H
          have p141 : 0 ≤ (x4_1 : Int) := dcd
          have q141 : x4_1 < (l0.length : Int) := dcd
          obtain ⟨ad141, e141, hx141_0, hx141_1, hx141_2, hx141_3⟩ := at_T57 HR0.out x4_1 p141 q141
          cases e141
          replace hx141_0 := crd HB hx141_0
          replace hx141_1 := crd HB hx141_1
          replace hx141_2 := crd HB hx141_2
          replace hx141_3 := crd HB hx141_3
          replace p141 := eq_true p141
          replace q141 := eq_true q141
          go_wp2_with (first | ((with_reducible refine gate_builtin (b := .append) (xs := #[.tmp 18, .tmp 20]) rfl ?_); at_builtin; refine Kd.R_append (Kd.int .i64) (w0 := w) w.heap.size rfl (.tmp 18) (.tmp 20) 54 3 (.int .i64 0) 8 rfl Try.underlying54 info3 rfl (by decide) (by omega) u3 x3_1 x4_1 [.int .i64 x4_1] (fun _ => True) (fun _ => False) rfl rfl ?aP (fun _ hk => hk.elim) ?aF ?aO ?aB ?aS ?aL ?_; (case aP => exact rfl); (case aB => exact (below_later HB.out)); (case aF => exact (fun _ _ => trivial)); (case aO => exact (R_later HO_3.out)); (case aS => exact (below_size (below_later HB.out))); (case aL => have := LMc7.out; omega); intro v143 w8 ho hb hg hat; rw [← Ny142.out] at ho; have n0_ := Aside0.mk (hb); have n1_ := Aside0.mk (ho); clear HB; clear HO_3; have HB := n0_; have HO144 := n1_; clear n0_ n1_; clear ho hb hg hat))
          go_roundg k1
          case measure => have := HK1.out; omega
          case rel => exact ⟨(y142), (wrap64 (x4_1 + 1)), sr, H', ⟨by have := HK1.out; omega⟩, ⟨R_later HO144.out⟩, ⟨below_later HB.out⟩⟩
      · rw [if_neg c4] at H
        have c4b0 := decide_eq_false c4
        clear c4
        obtain rfl := Option.some.inj H
        go_wp2
        go_ret
        exact ⟨_, by first | rfl | (simp [errW_none, errW_some] <;> rfl) | (simp [*, errW_none, errW_some] <;> rfl), by (with_reducible repeat (first | apply Kd.R_alloc | apply Kd.R_drewN | apply Kd.R_drew)); exact HO_3.out, below_later HB.out⟩

/-! ### spec_SchemaLeaves: function 52 -/
def spec_SchemaLeaves.f (k : Nat) (l0 : List (S57)) : Option (List Int) := (spec_SchemaOk.f k l0).bind fun t145 => (if t145 = true then ((spec_l5Leaves.f k l0).bind fun t146 => (some t146)) else (some (([] : List Int))))
set_option maxHeartbeats 8000000 in
set_option maxRecDepth 100000 in
theorem spec_SchemaLeaves.calls (k : Nat) (A0 : Option Addr) (c0 : Nat) (l0 : List (S57)) (r : List Int) (w : World) (hr0 : Kd.C k57 w A0 l0.length l0) (hc0 : l0.length ≤ c0) (h : spec_SchemaLeaves.f k l0 = some r) :
    Calls Try.prog 52 #[.slice A0 l0.length c0] w fun e w' => ∃ v0_ : Value, e = .returned (v0_) ∧ Kd.R (Kd.int .i64) 3 w' w.heap.size (fun _ => True) v0_ r ∧ Below w.heap.size w w' := by
  have HR0 := Aside0.mk hr0
  have HC0 := Aside0.mk hc0
  clear hr0 hc0
  have HB := Aside0.mk (Below.refl w.heap.size w)
  have H : ((spec_SchemaOk.f k l0).bind fun t145 => (if t145 = true then ((spec_l5Leaves.f k l0).bind fun t146 => (some t146)) else (some (([] : List Int))))) = some r := h
  clear h
  replace H := bnd H
  obtain ⟨t145, A2, H⟩ := H
  by_cases c3 : t145 = true
  · subst c3
    replace H := ifp rfl H
    replace H := bnd H
    obtain ⟨t146, A4, H⟩ := H
    obtain rfl := Option.some.inj H
    go_enter Try.func52, Try.ntmps52
    go_wp2_with (first | ((with_reducible refine gate_callee (f := 33) rfl ?_); refine gl_ (some 4) Try.func33 #[.slice A0 l0.length c0] rfl ?_; (with_reducible refine (spec_SchemaOk.calls k _ _ l0 true _ ?side1 ?side2 A2.out).mono ?_); (case side1 => exact C_later HR0.out); (case side2 => exact HC0.out); rintro e w5 ⟨rfl, hb⟩; refine ⟨_, rfl, ?_⟩; replace HB := bst HB hb; (try clear hb)) | ((with_reducible refine gate_callee (f := 19) rfl ?_); refine gl_ (some 8) Try.func19 #[.slice A0 l0.length c0] rfl ?_; (with_reducible refine (spec_l5Leaves.calls k _ _ l0 t146 _ ?side1 ?side2 A4.out).mono ?_); (case side1 => repeat (first | exact (Kd.C_below HR0.out HB.out) | (with_reducible refine Kd.C_alloc ?_ _) | (with_reducible refine Kd.C_drewN ?_ _) | (with_reducible refine Kd.C_drew ?_))); (case side2 => exact HC0.out); rintro e w6 ⟨v147, rfl, ho0, hb⟩; refine ⟨_, rfl, ?_⟩; have HO148 := Aside0.mk (Kd.R_lower ho0 (below_size (below_later HB.out))); replace HB := bst HB hb; (try clear hb); (try clear ho0)))
    go_ret
    exact ⟨_, by first | rfl | (simp [errW_none, errW_some] <;> rfl) | (simp [*, errW_none, errW_some] <;> rfl), by (with_reducible repeat (first | apply Kd.R_alloc | apply Kd.R_drewN | apply Kd.R_drew)); exact HO148.out, below_later HB.out⟩
  · replace c3 := Bool.eq_false_iff.mpr c3
    subst c3
    replace H := ifn Bool.false_ne_true H
    obtain ⟨y149, hy149⟩ : ∃ y_ : List Int, y_ = (([] : List Int)) := ⟨_, rfl⟩
    replace H : (some y149) = some r := by first | (rw [hy149]; with_reducible exact H) | (rw [hy149]; exact H) | exact H
    have Ny149 := Aside0.mk hy149
    clear hy149
    obtain rfl := Option.some.inj H
    go_enter Try.func52, Try.ntmps52
    go_wp2_with (first | ((with_reducible refine gate_callee (f := 33) rfl ?_); refine gl_ (some 4) Try.func33 #[.slice A0 l0.length c0] rfl ?_; (with_reducible refine (spec_SchemaOk.calls k _ _ l0 false _ ?side1 ?side2 A2.out).mono ?_); (case side1 => exact C_later HR0.out); (case side2 => exact HC0.out); rintro e w7 ⟨rfl, hb⟩; refine ⟨_, rfl, ?_⟩; replace HB := bst HB hb; (try clear hb); (try clear hk)) | ((with_reducible refine gate_dst (N := 6) rfl ?_); refine Kd.R_lit (Kd.int .i64) _ 3 ?hg (N := 6) ?hd (xs := ([] : List Int)) (inner := []) (ok := fun _ => True) (okp := fun _ => True) ?hr ?hp (fun _ hk => hk) trivial (Below.refl _ _) (Nat.le_refl _) (by simp) ?_; (case hd => rfl); (case hg => rfl); (case hr => first | (go_simp; done) | (go_simp; rfl)); (case hp => exact (Reps.none _ _)); intro v150 w8 ho9 hb hg_ hnew_; clear hg_ hnew_; (first | rw [← Ny149.out] at ho9 | (simp only [Int.reduceToNat] at ho9; rw [← Ny149.out] at ho9)); have HO151 := Aside0.mk (Kd.R_lower ho9 (below_size (below_later HB.out))); replace HB := bst HB hb; clear hb ho9))
    go_ret
    exact ⟨_, by first | rfl | (simp [errW_none, errW_some] <;> rfl) | (simp [*, errW_none, errW_some] <;> rfl), by (with_reducible repeat (first | apply Kd.R_alloc | apply Kd.R_drewN | apply Kd.R_drew)); exact HO151.out, below_later HB.out⟩

/-! ### spec_l5After: function 66 -/
mutual
def spec_l5After.l0 : Nat → List (S57) → Int → Int → Int → Option (Int)
  | 0, _, _, _, _ => none
  | k + 1, x0, x1, x5, x6 => if 0 ≤ x1 then (if x1 < (x0.length : Int) then (if x6 < ((rd_T57 x0 x1).f3) then ((spec_l5After.f k x0 x5).bind fun t153 => (spec_l5After.l0 k x0 x1 t153 (wrap64 (x6 + 1)))) else (some x5)) else (none)) else (none)
def spec_l5After.f : Nat → List (S57) → Int → Option (Int)
  | 0, _, _ => none
  | k + 1, l0, a1 => spec_l5After.l0 k l0 a1 (wrap64 (a1 + 1)) 0
end
set_option maxHeartbeats 8000000 in
set_option maxRecDepth 100000 in
theorem spec_l5After.calls (k : Nat) : ∀ (A0 : Option Addr) (c0 : Nat) (l0 : List (S57)) (a1 : Int) (r : Int) (w : World) (hr0 : Kd.C k57 w A0 l0.length l0) (hc0 : l0.length ≤ c0) (h : spec_l5After.f k l0 a1 = some r),
    Calls Try.prog 66 #[.slice A0 l0.length c0, .int .i64 a1] w fun e w' => e = .returned (.int .i64 r) ∧ Drawn0 w w' := by
  induction k using Nat.strongRecOn with
  | _ k ih =>
  intro A0 c0 l0 a1 r w hr0 hc0 h
  cases k with
  | zero => exact absurd h (by simp [spec_l5After.f])
  | succ k =>
  simp only [spec_l5After.f] at h
  have HR0 := Aside0.mk hr0
  have HC0 := Aside0.mk hc0
  clear hr0 hc0
  have H : (spec_l5After.l0 k l0 a1 (wrap64 (a1 + 1)) 0) = some r := h
  clear h
  have H' := Aside0.mk H
  clear H
  go_enter Try.func66, Try.ntmps66
  go_wp2
  go_loopg [5, 6] k (fun kq v5 v6 w' => ∃ (x5_1 : Int) (x6_1 : Int), v5 = .int .i64 x5_1 ∧ v6 = .int .i64 x6_1 ∧ Aside0 (spec_l5After.l0 kq l0 a1 x5_1 x6_1 = some r) ∧ Aside0 (kq ≤ k) ∧ Drawn0 w w')
  case atStart => exact ⟨(wrap64 (a1 + 1)), (0), sr, sr, H', ⟨Nat.le_refl _⟩, by repeat (first | exact Drawn0.refl _ | apply Drawn0.step)⟩
  case round =>
    clear H'
    obtain ⟨x5_1, x6_1, rfl, rfl, HA, HK1, ⟨m1, rfl⟩⟩ := hrel
    cases gk with
    | zero => exact absurd HA.out (by simp [spec_l5After.l0])
    | succ k1 =>
      have H := HA.out
      clear HA
      simp only [spec_l5After.l0] at H
      replace H := ifd H
      obtain ⟨c3b0, H⟩ := H
      replace H := ifd H
      obtain ⟨c4b0, H⟩ := H
      by_cases c5 : x6_1 < ((rd_T57 l0 a1).f3)
      · rw [if_pos c5] at H
        have c5b0 := decide_eq_true c5
        clear c5
        replace H := bnd H
        obtain ⟨t153, A6, H⟩ := H
        have H' := Aside0.mk H
        clear H
        have p152 : 0 ≤ (a1 : Int) := dcd
        have q152 : a1 < (l0.length : Int) := dcd
        obtain ⟨ad152, e152, hx152_0, hx152_1, hx152_2, hx152_3⟩ := at_T57 HR0.out a1 p152 q152
        cases e152
        replace p152 := eq_true p152
        replace q152 := eq_true q152
        go_wp2_with (first | ((with_reducible refine gate_callee (f := 66) rfl ?_); refine gl_ (some 20) Try.func66 #[.slice (some ad152) l0.length c0, .int .i64 x5_1] rfl ?_; (with_reducible refine (ih k1 (by have := HK1.out; omega) _ _ l0 x5_1 t153 _ ?side1 ?side2 A6.out).mono ?_); (case side1 => exact C_later HR0.out); (case side2 => exact HC0.out); rintro e w' ⟨rfl, ⟨nd, rfl⟩⟩; refine ⟨_, rfl, ?_⟩))
        go_roundg k1
        case measure => have := HK1.out; omega
        case rel => exact ⟨(t153), (wrap64 (x6_1 + 1)), sr, sr, H', ⟨by have := HK1.out; omega⟩, by repeat (first | exact Drawn0.refl _ | apply Drawn0.step)⟩
      · rw [if_neg c5] at H
        have c5b0 := decide_eq_false c5
        clear c5
        obtain rfl := Option.some.inj H
        have p152 : 0 ≤ (a1 : Int) := dcd
        have q152 : a1 < (l0.length : Int) := dcd
        obtain ⟨ad152, e152, hx152_0, hx152_1, hx152_2, hx152_3⟩ := at_T57 HR0.out a1 p152 q152
        cases e152
        replace p152 := eq_true p152
        replace q152 := eq_true q152
        go_wp2
        go_ret
        exact ⟨by first | rfl | (simp; done) | (simp [*]; done), by repeat (first | exact Drawn0.refl _ | apply Drawn0.step)⟩
end Go.Proofs.Ytlioghbcomdghaa.PFnExactPredMay
