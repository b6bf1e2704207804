/- The machine's side of FnExactRecOk, written by wip/tools/hyb.py of this repo: each Go function as a plain Lean function, and the proof that the call comes to just its answer. No condition. -/
import Derived.Test.YtfaaoljihmlbmaaPFnExactRecOkx0
import Derived.Test.YtfaaoljihmlbmaaPFnExactRecOkx1
namespace Go.Proofs.Ytfaaoljihmlbmaa.PFnExactRecOk
open Go.RowKit Go.Proofs.YtfaaoljihmlbmaaW.PrintWords Go.Proofs.YtfaaoljihmlbmaaW.PrintLast Go.Proofs.YtfaaoljihmlbmaaW.PrintMore Go.Proofs.YtfaaoljihmlbmaaW.PrintMore2
attribute [local go_sem] max2_int min2_int max_two min_two max_three min_three max_four min_four   -- for this text's walks alone
set_option linter.unusedVariables false
set_option linter.unusedSimpArgs false

/-! ### spec_l5Check: function 26 -/
mutual
def spec_l5Check.j0 : Nat → List (S44) → Int → Int → Bool → Option (Int)
  | 0, _, _, _, _ => none
  | k + 1, x0, x1, x2, x19 => if x19 = true then (some (-1)) else (if 0 ≤ x1 then (if x1 < (x0.length : Int) then (if x1 = 0 then (if ((rd_T44 x0 x1).f0).toList = ([] : List UInt8) then (if ((rd_T44 x0 x1).f2) = 0 then (if ((rd_T44 x0 x1).f1) = 7 then (if x1 > 0 then ((spec_l5Name.f k ((rd_T44 x0 x1).f0)).bind fun t112 => (if t112 = true then ((spec_l1In.f ((rd_T44 x0 x1).f2) 0 2).bind fun t113 => (spec_l5Check.j1 k x0 x1 x2 (!t113) ((rd_T44 x0 x1).f0) ((rd_T44 x0 x1).f1) ((rd_T44 x0 x1).f2) ((rd_T44 x0 x1).f3))) else (spec_l5Check.j1 k x0 x1 x2 true ((rd_T44 x0 x1).f0) ((rd_T44 x0 x1).f1) ((rd_T44 x0 x1).f2) ((rd_T44 x0 x1).f3)))) else ((spec_l1In.f ((rd_T44 x0 x1).f2) 0 2).bind fun t114 => (spec_l5Check.j1 k x0 x1 x2 (!t114) ((rd_T44 x0 x1).f0) ((rd_T44 x0 x1).f1) ((rd_T44 x0 x1).f2) ((rd_T44 x0 x1).f3)))) else (spec_l5Check.j1 k x0 x1 x2 true ((rd_T44 x0 x1).f0) ((rd_T44 x0 x1).f1) ((rd_T44 x0 x1).f2) ((rd_T44 x0 x1).f3))) else (spec_l5Check.j1 k x0 x1 x2 true ((rd_T44 x0 x1).f0) ((rd_T44 x0 x1).f1) ((rd_T44 x0 x1).f2) ((rd_T44 x0 x1).f3))) else (spec_l5Check.j1 k x0 x1 x2 true ((rd_T44 x0 x1).f0) ((rd_T44 x0 x1).f1) ((rd_T44 x0 x1).f2) ((rd_T44 x0 x1).f3))) else (if x1 > 0 then ((spec_l5Name.f k ((rd_T44 x0 x1).f0)).bind fun t115 => (if t115 = true then ((spec_l1In.f ((rd_T44 x0 x1).f2) 0 2).bind fun t116 => (spec_l5Check.j1 k x0 x1 x2 (!t116) ((rd_T44 x0 x1).f0) ((rd_T44 x0 x1).f1) ((rd_T44 x0 x1).f2) ((rd_T44 x0 x1).f3))) else (spec_l5Check.j1 k x0 x1 x2 true ((rd_T44 x0 x1).f0) ((rd_T44 x0 x1).f1) ((rd_T44 x0 x1).f2) ((rd_T44 x0 x1).f3)))) else ((spec_l1In.f ((rd_T44 x0 x1).f2) 0 2).bind fun t117 => (spec_l5Check.j1 k x0 x1 x2 (!t117) ((rd_T44 x0 x1).f0) ((rd_T44 x0 x1).f1) ((rd_T44 x0 x1).f2) ((rd_T44 x0 x1).f3))))) else (none)) else (none))
def spec_l5Check.j1 : Nat → List (S44) → Int → Int → Bool → ByteArray → Int → Int → Int → Option (Int)
  | 0, _, _, _, _, _, _, _, _ => none
  | k + 1, x0, x1, x2, x56, x112000, x112001, x112002, x112003 => if x56 = true then (some (-1)) else (if x112001 = 7 then (if x112003 < 1 then (some (-1)) else (spec_l5Check.l0 k x0 x2 (wrap64 (x1 + 1)) (([] : List ByteArray)) 0 x112000 x112001 x112002 x112003)) else ((spec_l5Type.f x112001).bind fun t118 => (if t118 = true then (if x112003 = 0 then (some (wrap64 (x1 + 1))) else (some (-1))) else (some (-1)))))
def spec_l5Check.l0 : Nat → List (S44) → Int → Int → List ByteArray → Int → ByteArray → Int → Int → Int → Option (Int)
  | 0, _, _, _, _, _, _, _, _, _ => none
  | k + 1, x0, x2, x8, x9, x10, x112000, x112001, x112002, x112003 => if x10 < x112003 then (if x8 ≥ (x0.length : Int) then (some (-1)) else (spec_l5Check.l1 k x0 x2 x8 x9 x10 0 x112000 x112001 x112002 x112003)) else (some x8)
def spec_l5Check.l1 : Nat → List (S44) → Int → Int → List ByteArray → Int → Int → ByteArray → Int → Int → Int → Option (Int)
  | 0, _, _, _, _, _, _, _, _, _, _ => none
  | k + 1, x0, x2, x8, x9, x10, x11, x112000, x112001, x112002, x112003 => if x11 < (x9.length : Int) then (if 0 ≤ x11 then (if 0 ≤ x8 then (if x8 < (x0.length : Int) then (if (rdOf ByteArray.empty x9 x11).toList = ((rd_T44 x0 x8).f0).toList then (some (-1)) else (spec_l5Check.l1 k x0 x2 x8 x9 x10 (wrap64 (x11 + 1)) x112000 x112001 x112002 x112003)) else (none)) else (none)) else (none)) else (if 0 ≤ x8 then (if x8 < (x0.length : Int) then (if x9.length < 8796093022208 then ((spec_l5Check.f k x0 x8 (wrap64 (x2 + 1))).bind fun t128 => (if t128 < 0 then (some (-1)) else (spec_l5Check.l0 k x0 x2 t128 (x9 ++ [(rd_T44 x0 x8).f0]) (wrap64 (x10 + 1)) x112000 x112001 x112002 x112003))) else (none)) else (none)) else (none))
def spec_l5Check.f : Nat → List (S44) → Int → Int → Option (Int)
  | 0, _, _, _ => none
  | k + 1, l0, a1, a2 => if a1 ≥ (l0.length : Int) then (spec_l5Check.j0 k l0 a1 a2 true) else (spec_l5Check.j0 k l0 a1 a2 (decide (a2 > 6)))
end
set_option maxHeartbeats 8000000 in
set_option maxRecDepth 100000 in
theorem spec_l5Check.calls (k : Nat) : ∀ (A0 : Option Addr) (c0 : Nat) (l0 : List (S44)) (a1 : Int) (a2 : Int) (r : Int) (w : World) (hr0 : Kd.C k44 w A0 l0.length l0) (hc0 : l0.length ≤ c0) (h : spec_l5Check.f k l0 a1 a2 = some r),
    Calls Try.prog 26 #[.slice A0 l0.length c0, .int .i64 a1, .int .i64 a2] w fun e w' => e = .returned (.int .i64 r) ∧ Below w.heap.size w w' := by
  induction k using Nat.strongRecOn with
  | _ k ih =>
  intro A0 c0 l0 a1 a2 r w hr0 hc0 h
  cases k with
  | zero => exact absurd h (by simp [spec_l5Check.f])
  | succ k =>
  simp only [spec_l5Check.f] at h
  have hu44 := Try.underlying44
  have HR0 := Aside0.mk hr0
  have HC0 := Aside0.mk hc0
  clear hr0 hc0
  have HB := Aside0.mk (Below.refl w.heap.size w)
  have H : (if a1 ≥ (l0.length : Int) then (spec_l5Check.j0 k l0 a1 a2 true) else (spec_l5Check.j0 k l0 a1 a2 (decide (a2 > 6)))) = some r := h
  clear h
  have HC4 := Aside0.mk H
  clear H
  go_enter Try.func26, Try.ntmps26
  go_upto_region 1 with (fail)
  repeat (go_quiet (fail); go_upto_region 1 with (fail))
  go_cut [19] (fun v19 wc => ∃ (kq : Nat) (x19_3 : Bool), v19 = .bool x19_3 ∧ Aside0 (spec_l5Check.j0 kq l0 a1 a2 x19_3 = some r) ∧ Aside0 (kq ≤ k) ∧ Aside0 (Below w.heap.size w wc))
  case first =>
    have H := HC4.out
    clear HC4
    by_cases c5 : a1 ≥ (l0.length : Int)
    · rw [if_pos c5] at H
      have c5b0 : decide ((l0.length : Int) ≤ a1) = true := decide_eq_true c5
      clear c5
      (first | rw [c5b0] | (simp only [i64_w, i32_w]; rw [c5b0]) | skip)
      have H' := Aside0.mk H
      clear H
      go_wp2
      repeat (go_quiet (fail); try go_wp2)
      go_meet
      case rel => exact ⟨_, (true), sr, H', ⟨by first | omega | exact Nat.le_refl _⟩, ⟨below_later HB.out⟩⟩
    · rw [if_neg c5] at H
      have c5b0 : decide ((l0.length : Int) ≤ a1) = false := decide_eq_false c5
      clear c5
      (first | rw [c5b0] | (simp only [i64_w, i32_w]; rw [c5b0]) | skip)
      have H' := Aside0.mk H
      clear H
      go_wp2
      repeat (go_quiet (fail); try go_wp2)
      go_meet
      case rel => exact ⟨_, (decide (a2 > 6)), sr, H', ⟨by first | omega | exact Nat.le_refl _⟩, ⟨below_later HB.out⟩⟩
  case rest =>
    clear HC4
    obtain ⟨kq, x19_3, rfl, HA, HJ3, HB⟩ := hcut
    cases kq with
    | zero => exact absurd HA.out (by simp [spec_l5Check.j0])
    | succ kj3 =>
      have H := HA.out
      clear HA
      simp only [spec_l5Check.j0] at H
      by_cases c6 : x19_3 = true
      · subst c6
        replace H := ifp rfl H
        obtain rfl := Option.some.inj H
        go_wp2
        repeat (go_quiet (fail); try go_wp2)
        go_ret
        exact fin_ (below_later HB.out)
      · replace c6 := Bool.eq_false_iff.mpr c6
        subst c6
        replace H := ifn Bool.false_ne_true H
        replace H := ifd H
        obtain ⟨c7b0, H⟩ := H
        replace H := ifd H
        obtain ⟨c8b0, H⟩ := H
        have HC9 := Aside0.mk H
        clear H
        have p110 : 0 ≤ (a1 : Int) := dcd
        have q110 : a1 < (l0.length : Int) := dcd
        obtain ⟨ad110, e110, hx110_0, hx110_1, hx110_2, hx110_3⟩ := at_T44 HR0.out a1 p110 q110
        cases e110
        replace hx110_0 := crd HB hx110_0
        replace hx110_1 := crd HB hx110_1
        replace hx110_2 := crd HB hx110_2
        replace hx110_3 := crd HB hx110_3
        replace p110 := eq_true p110
        replace q110 := eq_true q110
        go_upto_region 4 with (first | ((with_reducible refine gate_dst (N := 7) rfl ?_); refine bx_ 7 #[.string (⟨#[]⟩ : ByteArray), .int .i64 0, .int .i64 0, .int .i64 0] 44 ?_; intro gb111 hg w10 hbox hb; have BK111 := Aside0.mk (hbox); have GW111 := gwe HB hg; have GE111 := GW111; replace HB := bst HB hb; clear hb hbox hg; obtain ⟨hcz11_0, hcz11_1, hcz11_2, hcz11_3, hfz11_0, hfz11_1, hfz11_2, hfz11_3⟩ := cl4 BK111))
        repeat (go_quiet (first | ((with_reducible refine gate_dst (N := 7) rfl ?_); refine bx_ 7 #[.string (⟨#[]⟩ : ByteArray), .int .i64 0, .int .i64 0, .int .i64 0] 44 ?_; intro gb111 hg w10 hbox hb; have BK111 := Aside0.mk (hbox); have GW111 := gwe HB hg; have GE111 := GW111; replace HB := bst HB hb; clear hb hbox hg; obtain ⟨hcz11_0, hcz11_1, hcz11_2, hcz11_3, hfz11_0, hfz11_1, hfz11_2, hfz11_3⟩ := cl4 BK111)); go_upto_region 4 with (first | ((with_reducible refine gate_dst (N := 7) rfl ?_); refine bx_ 7 #[.string (⟨#[]⟩ : ByteArray), .int .i64 0, .int .i64 0, .int .i64 0] 44 ?_; intro gb111 hg w10 hbox hb; have BK111 := Aside0.mk (hbox); have GW111 := gwe HB hg; have GE111 := GW111; replace HB := bst HB hb; clear hb hbox hg; obtain ⟨hcz11_0, hcz11_1, hcz11_2, hcz11_3, hfz11_0, hfz11_1, hfz11_2, hfz11_3⟩ := cl4 BK111)))
        (try simp only [Act.put, List.setIfInBounds_toArray, List.set_cons_zero, List.set_cons_succ])
        go_cut [56] (fun v56 wc => ∃ (kq : Nat) (x56_8 : Bool), v56 = .bool x56_8 ∧ Aside0 (spec_l5Check.j1 kq l0 a1 a2 x56_8 ((rd_T44 l0 a1).f0) ((rd_T44 l0 a1).f1) ((rd_T44 l0 a1).f2) ((rd_T44 l0 a1).f3) = some r) ∧ Aside0 (kq ≤ kj3) ∧ Aside0 (wc.heap[gb111]? = some (.cells #[.string ((rd_T44 l0 a1).f0), .int .i64 ((rd_T44 l0 a1).f1), .int .i64 ((rd_T44 l0 a1).f2), .int .i64 ((rd_T44 l0 a1).f3)] 44 (0, 0))) ∧ Aside0 (Below w.heap.size w wc))
        case first =>
          have H := HC9.out
          clear HC9
          by_cases c12 : a1 = 0
          · rw [if_pos c12] at H
            have c12b0 : (a1 == 0) = true := beq_iff_eq.mpr c12
            have c12b1 : (a1 != 0) = false := bne_eq_false_iff_eq.mpr c12
            clear c12
            (first | rw [c12b0] | rw [c12b1] | (simp only [i64_w, i32_w]; rw [c12b0]) | skip)
            by_cases c13 : ((rd_T44 l0 a1).f0).toList = ([] : List UInt8)
            · rw [if_pos c13] at H
              have c13b0 : (((rd_T44 l0 a1).f0).toList == ([] : List UInt8)) = true := beq_iff_eq.mpr c13
              have c13b1 : (((rd_T44 l0 a1).f0).toList != ([] : List UInt8)) = false := bne_eq_false_iff_eq.mpr c13
              clear c13
              by_cases c14 : ((rd_T44 l0 a1).f2) = 0
              · rw [if_pos c14] at H
                have c14b0 : (((rd_T44 l0 a1).f2) == 0) = true := beq_iff_eq.mpr c14
                have c14b1 : (((rd_T44 l0 a1).f2) != 0) = false := bne_eq_false_iff_eq.mpr c14
                clear c14
                by_cases c15 : ((rd_T44 l0 a1).f1) = 7
                · rw [if_pos c15] at H
                  have c15b0 : (((rd_T44 l0 a1).f1) == 7) = true := beq_iff_eq.mpr c15
                  have c15b1 : (((rd_T44 l0 a1).f1) != 7) = false := bne_eq_false_iff_eq.mpr c15
                  clear c15
                  by_cases c16 : a1 > 0
                  · rw [if_pos c16] at H
                    have c16b0 : decide (0 < a1) = true := decide_eq_true c16
                    clear c16
                    replace H := bnd H
                    obtain ⟨t112, A17, H⟩ := H
                    by_cases c18 : t112 = true
                    · subst c18
                      replace H := ifp rfl H
                      replace H := bnd H
                      obtain ⟨t113, A19, H⟩ := H
                      have H' := Aside0.mk H
                      clear H
                      obtain ⟨hcz20_0, hcz20_1, hcz20_2, hcz20_3, hfz20_0, hfz20_1, hfz20_2, hfz20_3⟩ := cl4 BK111
                      go_wp2_with (first | (go_at_call 35; (with_reducible refine (spec_l5Name.calls kj3 ((rd_T44 l0 a1).f0) true _ A17.out).mono ?_); rintro e w' ⟨rfl, ⟨nd, rfl⟩⟩; (try first | exact ⟨rfl, _, World.drewN_drewN _ _ _⟩ | exact ⟨rfl, _, Eq.trans (World.drewN_drewN _ _ _) (congrArg (World.drewN _) (Nat.add_assoc _ _ _))⟩)) | (go_at_call 25; (with_reducible refine (spec_l1In.calls ((rd_T44 l0 a1).f2) 0 2 t113 _ A19.out).mono ?_); rintro e w' ⟨rfl, ⟨nd, rfl⟩⟩; (try first | exact ⟨rfl, _, World.drewN_drewN _ _ _⟩ | exact ⟨rfl, _, Eq.trans (World.drewN_drewN _ _ _) (congrArg (World.drewN _) (Nat.add_assoc _ _ _))⟩)))
                      repeat (go_quiet (first | (go_at_call 35; (with_reducible refine (spec_l5Name.calls kj3 ((rd_T44 l0 a1).f0) true _ A17.out).mono ?_); rintro e w' ⟨rfl, ⟨nd, rfl⟩⟩; (try first | exact ⟨rfl, _, World.drewN_drewN _ _ _⟩ | exact ⟨rfl, _, Eq.trans (World.drewN_drewN _ _ _) (congrArg (World.drewN _) (Nat.add_assoc _ _ _))⟩)) | (go_at_call 25; (with_reducible refine (spec_l1In.calls ((rd_T44 l0 a1).f2) 0 2 t113 _ A19.out).mono ?_); rintro e w' ⟨rfl, ⟨nd, rfl⟩⟩; (try first | exact ⟨rfl, _, World.drewN_drewN _ _ _⟩ | exact ⟨rfl, _, Eq.trans (World.drewN_drewN _ _ _) (congrArg (World.drewN _) (Nat.add_assoc _ _ _))⟩))); try go_wp2_with (first | (go_at_call 35; (with_reducible refine (spec_l5Name.calls kj3 ((rd_T44 l0 a1).f0) true _ A17.out).mono ?_); rintro e w' ⟨rfl, ⟨nd, rfl⟩⟩; (try first | exact ⟨rfl, _, World.drewN_drewN _ _ _⟩ | exact ⟨rfl, _, Eq.trans (World.drewN_drewN _ _ _) (congrArg (World.drewN _) (Nat.add_assoc _ _ _))⟩)) | (go_at_call 25; (with_reducible refine (spec_l1In.calls ((rd_T44 l0 a1).f2) 0 2 t113 _ A19.out).mono ?_); rintro e w' ⟨rfl, ⟨nd, rfl⟩⟩; (try first | exact ⟨rfl, _, World.drewN_drewN _ _ _⟩ | exact ⟨rfl, _, Eq.trans (World.drewN_drewN _ _ _) (congrArg (World.drewN _) (Nat.add_assoc _ _ _))⟩))))
                      go_meet
                      case rel => exact ⟨_, (!t113), sr, H', ⟨by have := HJ3.out; first | omega | exact Nat.le_refl _⟩, ⟨blk_later BK111.out⟩, ⟨below_later HB.out⟩⟩
                    · replace c18 := Bool.eq_false_iff.mpr c18
                      subst c18
                      replace H := ifn Bool.false_ne_true H
                      have H' := Aside0.mk H
                      clear H
                      obtain ⟨hcz21_0, hcz21_1, hcz21_2, hcz21_3, hfz21_0, hfz21_1, hfz21_2, hfz21_3⟩ := cl4 BK111
                      go_wp2_with (first | (go_at_call 35; (with_reducible refine (spec_l5Name.calls kj3 ((rd_T44 l0 a1).f0) false _ A17.out).mono ?_); rintro e w' ⟨rfl, ⟨nd, rfl⟩⟩; (try first | exact ⟨rfl, _, World.drewN_drewN _ _ _⟩ | exact ⟨rfl, _, Eq.trans (World.drewN_drewN _ _ _) (congrArg (World.drewN _) (Nat.add_assoc _ _ _))⟩)))
                      repeat (go_quiet (first | (go_at_call 35; (with_reducible refine (spec_l5Name.calls kj3 ((rd_T44 l0 a1).f0) false _ A17.out).mono ?_); rintro e w' ⟨rfl, ⟨nd, rfl⟩⟩; (try first | exact ⟨rfl, _, World.drewN_drewN _ _ _⟩ | exact ⟨rfl, _, Eq.trans (World.drewN_drewN _ _ _) (congrArg (World.drewN _) (Nat.add_assoc _ _ _))⟩))); try go_wp2_with (first | (go_at_call 35; (with_reducible refine (spec_l5Name.calls kj3 ((rd_T44 l0 a1).f0) false _ A17.out).mono ?_); rintro e w' ⟨rfl, ⟨nd, rfl⟩⟩; (try first | exact ⟨rfl, _, World.drewN_drewN _ _ _⟩ | exact ⟨rfl, _, Eq.trans (World.drewN_drewN _ _ _) (congrArg (World.drewN _) (Nat.add_assoc _ _ _))⟩))))
                      go_meet
                      case rel => exact ⟨_, (true), sr, H', ⟨by have := HJ3.out; first | omega | exact Nat.le_refl _⟩, ⟨blk_later BK111.out⟩, ⟨below_later HB.out⟩⟩
                  · rw [if_neg c16] at H
                    have c16b0 : decide (0 < a1) = false := decide_eq_false c16
                    clear c16
                    replace H := bnd H
                    obtain ⟨t114, A22, H⟩ := H
                    have H' := Aside0.mk H
                    clear H
                    obtain ⟨hcz23_0, hcz23_1, hcz23_2, hcz23_3, hfz23_0, hfz23_1, hfz23_2, hfz23_3⟩ := cl4 BK111
                    go_wp2_with (first | (go_at_call 25; (with_reducible refine (spec_l1In.calls ((rd_T44 l0 a1).f2) 0 2 t114 _ A22.out).mono ?_); rintro e w' ⟨rfl, ⟨nd, rfl⟩⟩; (try first | exact ⟨rfl, _, World.drewN_drewN _ _ _⟩ | exact ⟨rfl, _, Eq.trans (World.drewN_drewN _ _ _) (congrArg (World.drewN _) (Nat.add_assoc _ _ _))⟩)))
                    repeat (go_quiet (first | (go_at_call 25; (with_reducible refine (spec_l1In.calls ((rd_T44 l0 a1).f2) 0 2 t114 _ A22.out).mono ?_); rintro e w' ⟨rfl, ⟨nd, rfl⟩⟩; (try first | exact ⟨rfl, _, World.drewN_drewN _ _ _⟩ | exact ⟨rfl, _, Eq.trans (World.drewN_drewN _ _ _) (congrArg (World.drewN _) (Nat.add_assoc _ _ _))⟩))); try go_wp2_with (first | (go_at_call 25; (with_reducible refine (spec_l1In.calls ((rd_T44 l0 a1).f2) 0 2 t114 _ A22.out).mono ?_); rintro e w' ⟨rfl, ⟨nd, rfl⟩⟩; (try first | exact ⟨rfl, _, World.drewN_drewN _ _ _⟩ | exact ⟨rfl, _, Eq.trans (World.drewN_drewN _ _ _) (congrArg (World.drewN _) (Nat.add_assoc _ _ _))⟩))))
                    go_meet
                    case rel => exact ⟨_, (!t114), sr, H', ⟨by have := HJ3.out; first | omega | exact Nat.le_refl _⟩, ⟨blk_later BK111.out⟩, ⟨below_later HB.out⟩⟩
                · rw [if_neg c15] at H
                  have c15b0 : (((rd_T44 l0 a1).f1) == 7) = false := beq_eq_false_iff_ne.mpr c15
                  have c15b1 : (((rd_T44 l0 a1).f1) != 7) = true := bne_iff_ne.mpr c15
                  have H' := Aside0.mk H
                  clear H
                  obtain ⟨hcz24_0, hcz24_1, hcz24_2, hcz24_3, hfz24_0, hfz24_1, hfz24_2, hfz24_3⟩ := cl4 BK111
                  go_wp2
                  repeat (go_quiet (fail); try go_wp2)
                  go_meet
                  case rel => exact ⟨_, (true), sr, H', ⟨by have := HJ3.out; first | omega | exact Nat.le_refl _⟩, ⟨blk_later BK111.out⟩, ⟨below_later HB.out⟩⟩
              · rw [if_neg c14] at H
                have c14b0 : (((rd_T44 l0 a1).f2) == 0) = false := beq_eq_false_iff_ne.mpr c14
                have c14b1 : (((rd_T44 l0 a1).f2) != 0) = true := bne_iff_ne.mpr c14
                have H' := Aside0.mk H
                clear H
                obtain ⟨hcz25_0, hcz25_1, hcz25_2, hcz25_3, hfz25_0, hfz25_1, hfz25_2, hfz25_3⟩ := cl4 BK111
                go_wp2
                repeat (go_quiet (fail); try go_wp2)
                go_meet
                case rel => exact ⟨_, (true), sr, H', ⟨by have := HJ3.out; first | omega | exact Nat.le_refl _⟩, ⟨blk_later BK111.out⟩, ⟨below_later HB.out⟩⟩
            · rw [if_neg c13] at H
              have c13b0 : (((rd_T44 l0 a1).f0).toList == ([] : List UInt8)) = false := beq_eq_false_iff_ne.mpr c13
              have c13b1 : (((rd_T44 l0 a1).f0).toList != ([] : List UInt8)) = true := bne_iff_ne.mpr c13
              have H' := Aside0.mk H
              clear H
              obtain ⟨hcz26_0, hcz26_1, hcz26_2, hcz26_3, hfz26_0, hfz26_1, hfz26_2, hfz26_3⟩ := cl4 BK111
              go_wp2
              repeat (go_quiet (fail); try go_wp2)
              go_meet
              case rel => exact ⟨_, (true), sr, H', ⟨by have := HJ3.out; first | omega | exact Nat.le_refl _⟩, ⟨blk_later BK111.out⟩, ⟨below_later HB.out⟩⟩
          · rw [if_neg c12] at H
            have c12b0 : (a1 == 0) = false := beq_eq_false_iff_ne.mpr c12
            have c12b1 : (a1 != 0) = true := bne_iff_ne.mpr c12
            (first | rw [c12b0] | rw [c12b1] | (simp only [i64_w, i32_w]; rw [c12b0]) | skip)
            by_cases c27 : a1 > 0
            · rw [if_pos c27] at H
              have c27b0 : decide (0 < a1) = true := decide_eq_true c27
              clear c27
              replace H := bnd H
              obtain ⟨t115, A28, H⟩ := H
              by_cases c29 : t115 = true
              · subst c29
                replace H := ifp rfl H
                replace H := bnd H
                obtain ⟨t116, A30, H⟩ := H
                have H' := Aside0.mk H
                clear H
                obtain ⟨hcz31_0, hcz31_1, hcz31_2, hcz31_3, hfz31_0, hfz31_1, hfz31_2, hfz31_3⟩ := cl4 BK111
                go_wp2_with (first | (go_at_call 35; (with_reducible refine (spec_l5Name.calls kj3 ((rd_T44 l0 a1).f0) true _ A28.out).mono ?_); rintro e w' ⟨rfl, ⟨nd, rfl⟩⟩; (try first | exact ⟨rfl, _, World.drewN_drewN _ _ _⟩ | exact ⟨rfl, _, Eq.trans (World.drewN_drewN _ _ _) (congrArg (World.drewN _) (Nat.add_assoc _ _ _))⟩)) | (go_at_call 25; (with_reducible refine (spec_l1In.calls ((rd_T44 l0 a1).f2) 0 2 t116 _ A30.out).mono ?_); rintro e w' ⟨rfl, ⟨nd, rfl⟩⟩; (try first | exact ⟨rfl, _, World.drewN_drewN _ _ _⟩ | exact ⟨rfl, _, Eq.trans (World.drewN_drewN _ _ _) (congrArg (World.drewN _) (Nat.add_assoc _ _ _))⟩)))
                repeat (go_quiet (first | (go_at_call 35; (with_reducible refine (spec_l5Name.calls kj3 ((rd_T44 l0 a1).f0) true _ A28.out).mono ?_); rintro e w' ⟨rfl, ⟨nd, rfl⟩⟩; (try first | exact ⟨rfl, _, World.drewN_drewN _ _ _⟩ | exact ⟨rfl, _, Eq.trans (World.drewN_drewN _ _ _) (congrArg (World.drewN _) (Nat.add_assoc _ _ _))⟩)) | (go_at_call 25; (with_reducible refine (spec_l1In.calls ((rd_T44 l0 a1).f2) 0 2 t116 _ A30.out).mono ?_); rintro e w' ⟨rfl, ⟨nd, rfl⟩⟩; (try first | exact ⟨rfl, _, World.drewN_drewN _ _ _⟩ | exact ⟨rfl, _, Eq.trans (World.drewN_drewN _ _ _) (congrArg (World.drewN _) (Nat.add_assoc _ _ _))⟩))); try go_wp2_with (first | (go_at_call 35; (with_reducible refine (spec_l5Name.calls kj3 ((rd_T44 l0 a1).f0) true _ A28.out).mono ?_); rintro e w' ⟨rfl, ⟨nd, rfl⟩⟩; (try first | exact ⟨rfl, _, World.drewN_drewN _ _ _⟩ | exact ⟨rfl, _, Eq.trans (World.drewN_drewN _ _ _) (congrArg (World.drewN _) (Nat.add_assoc _ _ _))⟩)) | (go_at_call 25; (with_reducible refine (spec_l1In.calls ((rd_T44 l0 a1).f2) 0 2 t116 _ A30.out).mono ?_); rintro e w' ⟨rfl, ⟨nd, rfl⟩⟩; (try first | exact ⟨rfl, _, World.drewN_drewN _ _ _⟩ | exact ⟨rfl, _, Eq.trans (World.drewN_drewN _ _ _) (congrArg (World.drewN _) (Nat.add_assoc _ _ _))⟩))))
                go_meet
                case rel => exact ⟨_, (!t116), sr, H', ⟨by have := HJ3.out; first | omega | exact Nat.le_refl _⟩, ⟨blk_later BK111.out⟩, ⟨below_later HB.out⟩⟩
              · replace c29 := Bool.eq_false_iff.mpr c29
                subst c29
                replace H := ifn Bool.false_ne_true H
                have H' := Aside0.mk H
                clear H
                obtain ⟨hcz32_0, hcz32_1, hcz32_2, hcz32_3, hfz32_0, hfz32_1, hfz32_2, hfz32_3⟩ := cl4 BK111
                go_wp2_with (first | (go_at_call 35; (with_reducible refine (spec_l5Name.calls kj3 ((rd_T44 l0 a1).f0) false _ A28.out).mono ?_); rintro e w' ⟨rfl, ⟨nd, rfl⟩⟩; (try first | exact ⟨rfl, _, World.drewN_drewN _ _ _⟩ | exact ⟨rfl, _, Eq.trans (World.drewN_drewN _ _ _) (congrArg (World.drewN _) (Nat.add_assoc _ _ _))⟩)))
                repeat (go_quiet (first | (go_at_call 35; (with_reducible refine (spec_l5Name.calls kj3 ((rd_T44 l0 a1).f0) false _ A28.out).mono ?_); rintro e w' ⟨rfl, ⟨nd, rfl⟩⟩; (try first | exact ⟨rfl, _, World.drewN_drewN _ _ _⟩ | exact ⟨rfl, _, Eq.trans (World.drewN_drewN _ _ _) (congrArg (World.drewN _) (Nat.add_assoc _ _ _))⟩))); try go_wp2_with (first | (go_at_call 35; (with_reducible refine (spec_l5Name.calls kj3 ((rd_T44 l0 a1).f0) false _ A28.out).mono ?_); rintro e w' ⟨rfl, ⟨nd, rfl⟩⟩; (try first | exact ⟨rfl, _, World.drewN_drewN _ _ _⟩ | exact ⟨rfl, _, Eq.trans (World.drewN_drewN _ _ _) (congrArg (World.drewN _) (Nat.add_assoc _ _ _))⟩))))
                go_meet
                case rel => exact ⟨_, (true), sr, H', ⟨by have := HJ3.out; first | omega | exact Nat.le_refl _⟩, ⟨blk_later BK111.out⟩, ⟨below_later HB.out⟩⟩
            · rw [if_neg c27] at H
              have c27b0 : decide (0 < a1) = false := decide_eq_false c27
              clear c27
              replace H := bnd H
              obtain ⟨t117, A33, H⟩ := H
              have H' := Aside0.mk H
              clear H
              obtain ⟨hcz34_0, hcz34_1, hcz34_2, hcz34_3, hfz34_0, hfz34_1, hfz34_2, hfz34_3⟩ := cl4 BK111
              go_wp2_with (first | (go_at_call 25; (with_reducible refine (spec_l1In.calls ((rd_T44 l0 a1).f2) 0 2 t117 _ A33.out).mono ?_); rintro e w' ⟨rfl, ⟨nd, rfl⟩⟩; (try first | exact ⟨rfl, _, World.drewN_drewN _ _ _⟩ | exact ⟨rfl, _, Eq.trans (World.drewN_drewN _ _ _) (congrArg (World.drewN _) (Nat.add_assoc _ _ _))⟩)))
              repeat (go_quiet (first | (go_at_call 25; (with_reducible refine (spec_l1In.calls ((rd_T44 l0 a1).f2) 0 2 t117 _ A33.out).mono ?_); rintro e w' ⟨rfl, ⟨nd, rfl⟩⟩; (try first | exact ⟨rfl, _, World.drewN_drewN _ _ _⟩ | exact ⟨rfl, _, Eq.trans (World.drewN_drewN _ _ _) (congrArg (World.drewN _) (Nat.add_assoc _ _ _))⟩))); try go_wp2_with (first | (go_at_call 25; (with_reducible refine (spec_l1In.calls ((rd_T44 l0 a1).f2) 0 2 t117 _ A33.out).mono ?_); rintro e w' ⟨rfl, ⟨nd, rfl⟩⟩; (try first | exact ⟨rfl, _, World.drewN_drewN _ _ _⟩ | exact ⟨rfl, _, Eq.trans (World.drewN_drewN _ _ _) (congrArg (World.drewN _) (Nat.add_assoc _ _ _))⟩))))
              go_meet
              case rel => exact ⟨_, (!t117), sr, H', ⟨by have := HJ3.out; first | omega | exact Nat.le_refl _⟩, ⟨blk_later BK111.out⟩, ⟨below_later HB.out⟩⟩
        case rest =>
          clear HC9
          try clear c6
          try clear c7b0
          try clear c8b0
          try clear hcz11_0
          try clear hcz11_1
          try clear hcz11_2
          try clear hcz11_3
          try clear hfz11_0
          try clear hfz11_1
          try clear hfz11_2
          try clear hfz11_3
          try clear hx110_0
          try clear hx110_1
          try clear hx110_2
          try clear hx110_3
          try clear p110
          try clear q110
          obtain ⟨kq, x56_8, rfl, HA, HJ8, BK111, HB⟩ := hcut
          cases kq with
          | zero => exact absurd HA.out (by simp [spec_l5Check.j1])
          | succ kj8 =>
            have H := HA.out
            clear HA
            simp only [spec_l5Check.j1] at H
            by_cases c35 : x56_8 = true
            · subst c35
              replace H := ifp rfl H
              obtain rfl := Option.some.inj H
              go_wp2
              repeat (go_quiet (fail); try go_wp2)
              go_ret
              exact fin_ (below_later HB.out)
            · replace c35 := Bool.eq_false_iff.mpr c35
              subst c35
              replace H := ifn Bool.false_ne_true H
              by_cases c36 : ((rd_T44 l0 a1).f1) = 7
              · rw [if_pos c36] at H
                have c36b0 : (((rd_T44 l0 a1).f1) == 7) = true := beq_iff_eq.mpr c36
                have c36b1 : (((rd_T44 l0 a1).f1) != 7) = false := bne_eq_false_iff_eq.mpr c36
                clear c36
                by_cases c37 : ((rd_T44 l0 a1).f3) < 1
                · rw [if_pos c37] at H
                  have c37b0 := decide_eq_true c37
                  clear c37
                  obtain rfl := Option.some.inj H
                  obtain ⟨hcz38_0, hcz38_1, hcz38_2, hcz38_3, hfz38_0, hfz38_1, hfz38_2, hfz38_3⟩ := cl4 BK111
                  go_wp2
                  repeat (go_quiet (fail); try go_wp2)
                  go_ret
                  exact fin_ (below_later HB.out)
                · rw [if_neg c37] at H
                  have c37b0 := decide_eq_false c37
                  clear c37
                  obtain ⟨y119, hy119⟩ : ∃ y_ : List ByteArray, y_ = (([] : List ByteArray)) := ⟨_, rfl⟩
                  replace H : (spec_l5Check.l0 kj8 l0 a2 (wrap64 (a1 + 1)) y119 0 ((rd_T44 l0 a1).f0) ((rd_T44 l0 a1).f1) ((rd_T44 l0 a1).f2) ((rd_T44 l0 a1).f3)) = some r := by first | (rw [hy119]; with_reducible exact H) | (rw [hy119]; exact H) | exact H
                  have Ny119 := Aside0.mk hy119
                  clear hy119
                  have H' := Aside0.mk H
                  clear H
                  obtain ⟨hcz39_0, hcz39_1, hcz39_2, hcz39_3, hfz39_0, hfz39_1, hfz39_2, hfz39_3⟩ := cl4 BK111
                  go_wp2_with (first | ((with_reducible refine gate_dst (N := 76) rfl ?_); refine Kd.R_lit Kd.string _ 9 ?hg (N := 76) ?hd (xs := ([] : List ByteArray)) (inner := []) (ok := fun _ => True) (okp := fun _ => True) ?hr ?hp (fun _ hk => hk) trivial (Below.refl _ _) (Nat.le_refl _) (by simp) ?_; (case hd => rfl); (case hg => rfl); (case hr => first | (go_simp; done) | (go_simp; rfl)); (case hp => exact (Reps.none _ _)); intro v120 w40 ho41 hb hg_ hnew_; clear hg_ hnew_; (first | rw [← Ny119.out] at ho41 | (simp only [Int.reduceToNat] at ho41; rw [← Ny119.out] at ho41)); have HO121 := Aside0.mk (Kd.R_lower ho41 (below_size (below_later HB.out))); replace BK111 := bkb BK111 hb; replace HB := bst HB hb; clear hb ho41))
                  repeat (go_quiet (first | ((with_reducible refine gate_dst (N := 76) rfl ?_); refine Kd.R_lit Kd.string _ 9 ?hg (N := 76) ?hd (xs := ([] : List ByteArray)) (inner := []) (ok := fun _ => True) (okp := fun _ => True) ?hr ?hp (fun _ hk => hk) trivial (Below.refl _ _) (Nat.le_refl _) (by simp) ?_; (case hd => rfl); (case hg => rfl); (case hr => first | (go_simp; done) | (go_simp; rfl)); (case hp => exact (Reps.none _ _)); intro v120 w40 ho41 hb hg_ hnew_; clear hg_ hnew_; (first | rw [← Ny119.out] at ho41 | (simp only [Int.reduceToNat] at ho41; rw [← Ny119.out] at ho41)); have HO121 := Aside0.mk (Kd.R_lower ho41 (below_size (below_later HB.out))); replace BK111 := bkb BK111 hb; replace HB := bst HB hb; clear hb ho41)); try go_wp2_with (first | ((with_reducible refine gate_dst (N := 76) rfl ?_); refine Kd.R_lit Kd.string _ 9 ?hg (N := 76) ?hd (xs := ([] : List ByteArray)) (inner := []) (ok := fun _ => True) (okp := fun _ => True) ?hr ?hp (fun _ hk => hk) trivial (Below.refl _ _) (Nat.le_refl _) (by simp) ?_; (case hd => rfl); (case hg => rfl); (case hr => first | (go_simp; done) | (go_simp; rfl)); (case hp => exact (Reps.none _ _)); intro v120 w40 ho41 hb hg_ hnew_; clear hg_ hnew_; (first | rw [← Ny119.out] at ho41 | (simp only [Int.reduceToNat] at ho41; rw [← Ny119.out] at ho41)); have HO121 := Aside0.mk (Kd.R_lower ho41 (below_size (below_later HB.out))); replace BK111 := bkb BK111 hb; replace HB := bst HB hb; clear hb ho41)))
                  go_loopg [8, 9, 10] kj8 (fun kq v8 v9 v10 w' => ∃ (x8_3 : Int) (x9_3 : List ByteArray) (x10_3 : Int), v8 = .int .i64 x8_3 ∧ v10 = .int .i64 x10_3 ∧ Aside0 (spec_l5Check.l0 kq l0 a2 x8_3 x9_3 x10_3 ((rd_T44 l0 a1).f0) ((rd_T44 l0 a1).f1) ((rd_T44 l0 a1).f2) ((rd_T44 l0 a1).f3) = some r) ∧ Aside0 (kq ≤ kj8) ∧ Aside0 (Kd.R Kd.string 9 w' w.heap.size (fun _ => True) v9 x9_3) ∧ Aside0 (w'.heap[gb111]? = some (.cells #[.string ((rd_T44 l0 a1).f0), .int .i64 ((rd_T44 l0 a1).f1), .int .i64 ((rd_T44 l0 a1).f2), .int .i64 ((rd_T44 l0 a1).f3)] 44 (0, 0))) ∧ Aside0 (Below w.heap.size w w'))
                  case atStart => exact ⟨(wrap64 (a1 + 1)), (y119), (0), sr, sr, H', ⟨Nat.le_refl _⟩, ⟨R_later HO121.out⟩, ⟨blk_later BK111.out⟩, ⟨below_later HB.out⟩⟩
                  case round =>
                    clear H'
                    try clear c6
                    try clear c7b0
                    try clear c8b0
                    try clear c35
                    try clear c36
                    try clear c36b0
                    try clear c36b1
                    try clear c37
                    try clear c37b0
                    try clear hcz11_0
                    try clear hcz11_1
                    try clear hcz11_2
                    try clear hcz11_3
                    try clear hcz39_0
                    try clear hcz39_1
                    try clear hcz39_2
                    try clear hcz39_3
                    try clear hfz11_0
                    try clear hfz11_1
                    try clear hfz11_2
                    try clear hfz11_3
                    try clear hfz39_0
                    try clear hfz39_1
                    try clear hfz39_2
                    try clear hfz39_3
                    try clear hx110_0
                    try clear hx110_1
                    try clear hx110_2
                    try clear hx110_3
                    try clear p110
                    try clear q110
                    obtain ⟨x8_3, x9_3, x10_3, rfl, rfl, HA, HK3, HO_9, BK111, HB⟩ := hrel
                    cases gk with
                    | zero => exact absurd HA.out (by simp [spec_l5Check.l0])
                    | succ k3 =>
                      have H := HA.out
                      clear HA
                      simp only [spec_l5Check.l0] at H
                      by_cases c42 : x10_3 < ((rd_T44 l0 a1).f3)
                      · rw [if_pos c42] at H
                        have c42b0 := decide_eq_true c42
                        clear c42
                        by_cases c43 : x8_3 ≥ (l0.length : Int)
                        · rw [if_pos c43] at H
                          have c43b0 : decide ((l0.length : Int) ≤ x8_3) = true := decide_eq_true c43
                          clear c43
                          obtain rfl := Option.some.inj H
                          obtain ⟨hcz44_0, hcz44_1, hcz44_2, hcz44_3, hfz44_0, hfz44_1, hfz44_2, hfz44_3⟩ := cl4 BK111
                          go_wp2
                          repeat (go_quiet (fail); try go_wp2)
                          go_ret
                          exact fin_ (below_later HB.out)
                        · rw [if_neg c43] at H
                          have c43b0 : decide ((l0.length : Int) ≤ x8_3) = false := decide_eq_false c43
                          clear c43
                          have H' := Aside0.mk H
                          clear H
                          obtain ⟨hcz45_0, hcz45_1, hcz45_2, hcz45_3, hfz45_0, hfz45_1, hfz45_2, hfz45_3⟩ := cl4 BK111
                          go_wp2
                          repeat (go_quiet (fail); try go_wp2)
                          go_loopg [11] k3 (fun kq v11 w' => ∃ (x11_4 : Int), v11 = .int .i64 x11_4 ∧ Aside0 (spec_l5Check.l1 kq l0 a2 x8_3 x9_3 x10_3 x11_4 ((rd_T44 l0 a1).f0) ((rd_T44 l0 a1).f1) ((rd_T44 l0 a1).f2) ((rd_T44 l0 a1).f3) = some r) ∧ Aside0 (kq ≤ k3) ∧ Aside0 (Kd.R Kd.string 9 w' w.heap.size (fun _ => True) u9 x9_3) ∧ Aside0 (w'.heap[gb111]? = some (.cells #[.string ((rd_T44 l0 a1).f0), .int .i64 ((rd_T44 l0 a1).f1), .int .i64 ((rd_T44 l0 a1).f2), .int .i64 ((rd_T44 l0 a1).f3)] 44 (0, 0))) ∧ Aside0 (Below w.heap.size w w'))
                          case atStart => exact ⟨(0), sr, H', ⟨Nat.le_refl _⟩, ⟨R_later HO_9.out⟩, ⟨blk_later BK111.out⟩, ⟨below_later HB.out⟩⟩
                          case round =>
                            clear H'
                            try clear c6
                            try clear c7b0
                            try clear c8b0
                            try clear c35
                            try clear c36
                            try clear c36b0
                            try clear c36b1
                            try clear c37
                            try clear c37b0
                            try clear c42
                            try clear c42b0
                            try clear c43
                            try clear c43b0
                            try clear hcz11_0
                            try clear hcz11_1
                            try clear hcz11_2
                            try clear hcz11_3
                            try clear hcz39_0
                            try clear hcz39_1
                            try clear hcz39_2
                            try clear hcz39_3
                            try clear hcz45_0
                            try clear hcz45_1
                            try clear hcz45_2
                            try clear hcz45_3
                            try clear hfz11_0
                            try clear hfz11_1
                            try clear hfz11_2
                            try clear hfz11_3
                            try clear hfz39_0
                            try clear hfz39_1
                            try clear hfz39_2
                            try clear hfz39_3
                            try clear hfz45_0
                            try clear hfz45_1
                            try clear hfz45_2
                            try clear hfz45_3
                            try clear hx110_0
                            try clear hx110_1
                            try clear hx110_2
                            try clear hx110_3
                            try clear p110
                            try clear q110
                            obtain ⟨x11_4, rfl, HA, HK4, HO_9, BK111, HB⟩ := hrel
                            cases gk with
                            | zero => exact absurd HA.out (by simp [spec_l5Check.l1])
                            | succ k4 =>
                              have H := HA.out
                              clear HA
                              simp only [spec_l5Check.l1] at H
                              by_cases c46 : x11_4 < (x9_3.length : Int)
                              · rw [if_pos c46] at H
                                have c46b0 := decide_eq_true c46
                                clear c46
                                replace H := ifd H
                                obtain ⟨c47b0, H⟩ := H
                                replace H := ifd H
                                obtain ⟨c48b0, H⟩ := H
                                replace H := ifd H
                                obtain ⟨c49b0, H⟩ := H
                                by_cases c50 : (rdOf ByteArray.empty x9_3 x11_4).toList = ((rd_T44 l0 x8_3).f0).toList
                                · rw [if_pos c50] at H
                                  have c50b0 : ((rdOf ByteArray.empty x9_3 x11_4).toList == ((rd_T44 l0 x8_3).f0).toList) = true := beq_iff_eq.mpr c50
                                  have c50b1 : ((rdOf ByteArray.empty x9_3 x11_4).toList != ((rd_T44 l0 x8_3).f0).toList) = false := bne_eq_false_iff_eq.mpr c50
                                  clear c50
                                  obtain rfl := Option.some.inj H
                                  obtain ⟨Ao51, co51, eo51⟩ := Kd.R_slice HO_9.out
                                  subst eo51
                                  have p122 : 0 ≤ (x11_4 : Int) := dcd
                                  have q122 : x11_4 < (x9_3.length : Int) := dcd
                                  obtain ⟨ad122, e122, hx122_0⟩ := Kd.at_string (Kd.R_reads' HO_9.out).2.2 x11_4 p122 q122
                                  cases e122
                                  replace p122 := eq_true p122
                                  replace q122 := eq_true q122
                                  have p123 : 0 ≤ (x8_3 : Int) := dcd
                                  have q123 : x8_3 < (l0.length : Int) := dcd
                                  obtain ⟨ad123, e123, hx123_0, hx123_1, hx123_2, hx123_3⟩ := at_T44 HR0.out x8_3 p123 q123
                                  obtain rfl : ad110 = ad123 := (by injection e123)
                                  replace hx123_0 := crd HB hx123_0
                                  replace hx123_1 := crd HB hx123_1
                                  replace hx123_2 := crd HB hx123_2
                                  replace hx123_3 := crd HB hx123_3
                                  replace p123 := eq_true p123
                                  replace q123 := eq_true q123
                                  go_wp2
                                  repeat (go_quiet (fail); try go_wp2)
                                  go_ret
                                  exact fin_ (below_later HB.out)
                                · rw [if_neg c50] at H
                                  have c50b0 : ((rdOf ByteArray.empty x9_3 x11_4).toList == ((rd_T44 l0 x8_3).f0).toList) = false := beq_eq_false_iff_ne.mpr c50
                                  have c50b1 : ((rdOf ByteArray.empty x9_3 x11_4).toList != ((rd_T44 l0 x8_3).f0).toList) = true := bne_iff_ne.mpr c50
                                  have H' := Aside0.mk H
                                  clear H
                                  obtain ⟨Ao52, co52, eo52⟩ := Kd.R_slice HO_9.out
                                  subst eo52
                                  have p122 : 0 ≤ (x11_4 : Int) := dcd
                                  have q122 : x11_4 < (x9_3.length : Int) := dcd
                                  obtain ⟨ad122, e122, hx122_0⟩ := Kd.at_string (Kd.R_reads' HO_9.out).2.2 x11_4 p122 q122
                                  cases e122
                                  replace p122 := eq_true p122
                                  replace q122 := eq_true q122
                                  have p123 : 0 ≤ (x8_3 : Int) := dcd
                                  have q123 : x8_3 < (l0.length : Int) := dcd
                                  obtain ⟨ad123, e123, hx123_0, hx123_1, hx123_2, hx123_3⟩ := at_T44 HR0.out x8_3 p123 q123
                                  obtain rfl : ad110 = ad123 := (by injection e123)
                                  replace hx123_0 := crd HB hx123_0
                                  replace hx123_1 := crd HB hx123_1
                                  replace hx123_2 := crd HB hx123_2
                                  replace hx123_3 := crd HB hx123_3
                                  replace p123 := eq_true p123
                                  replace q123 := eq_true q123
                                  go_wp2
                                  repeat (go_quiet (fail); try go_wp2)
                                  go_roundg k4
                                  case measure => have := HJ3.out; have := HJ8.out; have := HK3.out; have := HK4.out; omega
                                  case rel => exact ⟨(wrap64 (x11_4 + 1)), sr, H', ⟨by have := HJ3.out; have := HJ8.out; have := HK3.out; have := HK4.out; omega⟩, ⟨R_later HO_9.out⟩, ⟨blk_later BK111.out⟩, ⟨below_later HB.out⟩⟩
                              · rw [if_neg c46] at H
                                have c46b0 := decide_eq_false c46
                                clear c46
                                replace H := ifd H
                                obtain ⟨c53b0, H⟩ := H
                                replace H := ifd H
                                obtain ⟨c54b0, H⟩ := H
                                replace H := ifs H
                                obtain ⟨c55, H⟩ := H
                                have LMc55 := Aside0.mk c55
                                clear c55
                                obtain ⟨y125, hy125⟩ : ∃ y_ : List ByteArray, y_ = (x9_3 ++ [(rd_T44 l0 x8_3).f0]) := ⟨_, rfl⟩
                                replace H : ((spec_l5Check.f k4 l0 x8_3 (wrap64 (a2 + 1))).bind fun t128 => (if t128 < 0 then (some (-1)) else (spec_l5Check.l0 k4 l0 a2 t128 y125 (wrap64 (x10_3 + 1)) ((rd_T44 l0 a1).f0) ((rd_T44 l0 a1).f1) ((rd_T44 l0 a1).f2) ((rd_T44 l0 a1).f3)))) = some r := by first | (rw [hy125]; with_reducible exact H) | (rw [hy125]; exact H) | exact H
                                have Ny125 := Aside0.mk hy125
                                clear hy125
                                replace H := bnd H
                                obtain ⟨t128, A56, H⟩ := H
                                by_cases c57 : t128 < 0
                                · rw [if_pos c57] at H
                                  have c57b0 := decide_eq_true c57
                                  clear c57
                                  obtain rfl := Option.some.inj H
                                  obtain ⟨Ao58, co58, eo58⟩ := Kd.R_slice HO_9.out
                                  subst eo58
                                  have p124 : 0 ≤ (x8_3 : Int) := dcd
                                  have q124 : x8_3 < (l0.length : Int) := dcd
                                  obtain ⟨ad124, e124, hx124_0, hx124_1, hx124_2, hx124_3⟩ := at_T44 HR0.out x8_3 p124 q124
                                  obtain rfl : ad110 = ad124 := (by injection e124)
                                  replace hx124_0 := crd HB hx124_0
                                  replace hx124_1 := crd HB hx124_1
                                  replace hx124_2 := crd HB hx124_2
                                  replace hx124_3 := crd HB hx124_3
                                  replace p124 := eq_true p124
                                  replace q124 := eq_true q124
                                  go_wp2_with (first | ((with_reducible refine gate_builtin (b := .append) (xs := #[.tmp 103, .tmp 109]) rfl ?_); at_builtin; refine Kd.R_append Kd.string (w0 := w) w.heap.size rfl (.tmp 103) (.tmp 109) 68 9 (.string ⟨#[]⟩) 16 rfl Try.underlying68 info9 rfl (by decide) (by omega) (.slice Ao58 x9_3.length co58) x9_3 ((rd_T44 l0 x8_3).f0) [.string ((rd_T44 l0 x8_3).f0)] (fun _ => True) (fun _ => False) rfl rfl ?aP (fun _ hk => hk.elim) ?aF ?aO ?aB ?aS ?aL ?_; (case aP => exact rfl); (case aB => exact (below_later HB.out)); (case aF => exact (fun _ _ => trivial)); (case aO => exact (R_later HO_9.out)); (case aS => exact (below_size (below_later HB.out))); (case aL => have := LMc55.out; omega); intro v126 w59 ho hb hg hat; rw [← Ny125.out] at ho; have n0_ := Aside0.mk (blk_grown (blk_later BK111.out) hg (Kd.R_ne HO_9.out BK111.out (by decide))); have n1_ := Aside0.mk (hb); have n2_ := Aside0.mk (ho); clear BK111; clear HB; clear HO_9; have BK111 := n0_; have HB := n1_; have HO127 := n2_; clear n0_ n1_ n2_; clear ho hb hg hat) | (go_at_call 26; (with_reducible refine (ih k4 (by have := HJ3.out; have := HJ8.out; have := HK3.out; have := HK4.out; omega) _ _ l0 x8_3 (wrap64 (a2 + 1)) t128 _ ?side1 ?side2 A56.out).mono ?_); (case side1 => repeat (first | exact (Kd.C_below HR0.out HB.out) | (with_reducible refine Kd.C_alloc ?_ _) | (with_reducible refine Kd.C_drewN ?_ _) | (with_reducible refine Kd.C_drew ?_))); (case side2 => exact HC0.out); rintro e w60 ⟨rfl, hb⟩; replace HO127 := Aside0.mk (Kd.R_below (R_later HO127.out) hb); replace BK111 := bkb BK111 hb; replace HB := bst HB hb; (try clear hb); (try clear hk)))
                                  repeat (go_quiet (first | ((with_reducible refine gate_builtin (b := .append) (xs := #[.tmp 103, .tmp 109]) rfl ?_); at_builtin; refine Kd.R_append Kd.string (w0 := w) w.heap.size rfl (.tmp 103) (.tmp 109) 68 9 (.string ⟨#[]⟩) 16 rfl Try.underlying68 info9 rfl (by decide) (by omega) (.slice Ao58 x9_3.length co58) x9_3 ((rd_T44 l0 x8_3).f0) [.string ((rd_T44 l0 x8_3).f0)] (fun _ => True) (fun _ => False) rfl rfl ?aP (fun _ hk => hk.elim) ?aF ?aO ?aB ?aS ?aL ?_; (case aP => exact rfl); (case aB => exact (below_later HB.out)); (case aF => exact (fun _ _ => trivial)); (case aO => exact (R_later HO_9.out)); (case aS => exact (below_size (below_later HB.out))); (case aL => have := LMc55.out; omega); intro v126 w59 ho hb hg hat; rw [← Ny125.out] at ho; have n0_ := Aside0.mk (blk_grown (blk_later BK111.out) hg (Kd.R_ne HO_9.out BK111.out (by decide))); have n1_ := Aside0.mk (hb); have n2_ := Aside0.mk (ho); clear BK111; clear HB; clear HO_9; have BK111 := n0_; have HB := n1_; have HO127 := n2_; clear n0_ n1_ n2_; clear ho hb hg hat) | (go_at_call 26; (with_reducible refine (ih k4 (by have := HJ3.out; have := HJ8.out; have := HK3.out; have := HK4.out; omega) _ _ l0 x8_3 (wrap64 (a2 + 1)) t128 _ ?side1 ?side2 A56.out).mono ?_); (case side1 => repeat (first | exact (Kd.C_below HR0.out HB.out) | (with_reducible refine Kd.C_alloc ?_ _) | (with_reducible refine Kd.C_drewN ?_ _) | (with_reducible refine Kd.C_drew ?_))); (case side2 => exact HC0.out); rintro e w60 ⟨rfl, hb⟩; replace HO127 := Aside0.mk (Kd.R_below (R_later HO127.out) hb); replace BK111 := bkb BK111 hb; replace HB := bst HB hb; (try clear hb); (try clear hk))); try go_wp2_with (first | ((with_reducible refine gate_builtin (b := .append) (xs := #[.tmp 103, .tmp 109]) rfl ?_); at_builtin; refine Kd.R_append Kd.string (w0 := w) w.heap.size rfl (.tmp 103) (.tmp 109) 68 9 (.string ⟨#[]⟩) 16 rfl Try.underlying68 info9 rfl (by decide) (by omega) (.slice Ao58 x9_3.length co58) x9_3 ((rd_T44 l0 x8_3).f0) [.string ((rd_T44 l0 x8_3).f0)] (fun _ => True) (fun _ => False) rfl rfl ?aP (fun _ hk => hk.elim) ?aF ?aO ?aB ?aS ?aL ?_; (case aP => exact rfl); (case aB => exact (below_later HB.out)); (case aF => exact (fun _ _ => trivial)); (case aO => exact (R_later HO_9.out)); (case aS => exact (below_size (below_later HB.out))); (case aL => have := LMc55.out; omega); intro v126 w59 ho hb hg hat; rw [← Ny125.out] at ho; have n0_ := Aside0.mk (blk_grown (blk_later BK111.out) hg (Kd.R_ne HO_9.out BK111.out (by decide))); have n1_ := Aside0.mk (hb); have n2_ := Aside0.mk (ho); clear BK111; clear HB; clear HO_9; have BK111 := n0_; have HB := n1_; have HO127 := n2_; clear n0_ n1_ n2_; clear ho hb hg hat) | (go_at_call 26; (with_reducible refine (ih k4 (by have := HJ3.out; have := HJ8.out; have := HK3.out; have := HK4.out; omega) _ _ l0 x8_3 (wrap64 (a2 + 1)) t128 _ ?side1 ?side2 A56.out).mono ?_); (case side1 => repeat (first | exact (Kd.C_below HR0.out HB.out) | (with_reducible refine Kd.C_alloc ?_ _) | (with_reducible refine Kd.C_drewN ?_ _) | (with_reducible refine Kd.C_drew ?_))); (case side2 => exact HC0.out); rintro e w60 ⟨rfl, hb⟩; replace HO127 := Aside0.mk (Kd.R_below (R_later HO127.out) hb); replace BK111 := bkb BK111 hb; replace HB := bst HB hb; (try clear hb); (try clear hk))))
                                  go_ret
                                  exact fin_ (below_later HB.out)
                                · rw [if_neg c57] at H
                                  have c57b0 := decide_eq_false c57
                                  clear c57
                                  have H' := Aside0.mk H
                                  clear H
                                  obtain ⟨Ao61, co61, eo61⟩ := Kd.R_slice HO_9.out
                                  subst eo61
                                  have p124 : 0 ≤ (x8_3 : Int) := dcd
                                  have q124 : x8_3 < (l0.length : Int) := dcd
                                  obtain ⟨ad124, e124, hx124_0, hx124_1, hx124_2, hx124_3⟩ := at_T44 HR0.out x8_3 p124 q124
                                  obtain rfl : ad110 = ad124 := (by injection e124)
                                  replace hx124_0 := crd HB hx124_0
                                  replace hx124_1 := crd HB hx124_1
                                  replace hx124_2 := crd HB hx124_2
                                  replace hx124_3 := crd HB hx124_3
                                  replace p124 := eq_true p124
                                  replace q124 := eq_true q124
                                  go_wp2_with (first | ((with_reducible refine gate_builtin (b := .append) (xs := #[.tmp 103, .tmp 109]) rfl ?_); at_builtin; refine Kd.R_append Kd.string (w0 := w) w.heap.size rfl (.tmp 103) (.tmp 109) 68 9 (.string ⟨#[]⟩) 16 rfl Try.underlying68 info9 rfl (by decide) (by omega) (.slice Ao61 x9_3.length co61) x9_3 ((rd_T44 l0 x8_3).f0) [.string ((rd_T44 l0 x8_3).f0)] (fun _ => True) (fun _ => False) rfl rfl ?aP (fun _ hk => hk.elim) ?aF ?aO ?aB ?aS ?aL ?_; (case aP => exact rfl); (case aB => exact (below_later HB.out)); (case aF => exact (fun _ _ => trivial)); (case aO => exact (R_later HO_9.out)); (case aS => exact (below_size (below_later HB.out))); (case aL => have := LMc55.out; omega); intro v126 w62 ho hb hg hat; rw [← Ny125.out] at ho; have n0_ := Aside0.mk (blk_grown (blk_later BK111.out) hg (Kd.R_ne HO_9.out BK111.out (by decide))); have n1_ := Aside0.mk (hb); have n2_ := Aside0.mk (ho); clear BK111; clear HB; clear HO_9; have BK111 := n0_; have HB := n1_; have HO127 := n2_; clear n0_ n1_ n2_; clear ho hb hg hat) | (go_at_call 26; (with_reducible refine (ih k4 (by have := HJ3.out; have := HJ8.out; have := HK3.out; have := HK4.out; omega) _ _ l0 x8_3 (wrap64 (a2 + 1)) t128 _ ?side1 ?side2 A56.out).mono ?_); (case side1 => repeat (first | exact (Kd.C_below HR0.out HB.out) | (with_reducible refine Kd.C_alloc ?_ _) | (with_reducible refine Kd.C_drewN ?_ _) | (with_reducible refine Kd.C_drew ?_))); (case side2 => exact HC0.out); rintro e w63 ⟨rfl, hb⟩; replace HO127 := Aside0.mk (Kd.R_below (R_later HO127.out) hb); replace BK111 := bkb BK111 hb; replace HB := bst HB hb; (try clear hb); (try clear hk)))
                                  repeat (go_quiet (first | ((with_reducible refine gate_builtin (b := .append) (xs := #[.tmp 103, .tmp 109]) rfl ?_); at_builtin; refine Kd.R_append Kd.string (w0 := w) w.heap.size rfl (.tmp 103) (.tmp 109) 68 9 (.string ⟨#[]⟩) 16 rfl Try.underlying68 info9 rfl (by decide) (by omega) (.slice Ao61 x9_3.length co61) x9_3 ((rd_T44 l0 x8_3).f0) [.string ((rd_T44 l0 x8_3).f0)] (fun _ => True) (fun _ => False) rfl rfl ?aP (fun _ hk => hk.elim) ?aF ?aO ?aB ?aS ?aL ?_; (case aP => exact rfl); (case aB => exact (below_later HB.out)); (case aF => exact (fun _ _ => trivial)); (case aO => exact (R_later HO_9.out)); (case aS => exact (below_size (below_later HB.out))); (case aL => have := LMc55.out; omega); intro v126 w62 ho hb hg hat; rw [← Ny125.out] at ho; have n0_ := Aside0.mk (blk_grown (blk_later BK111.out) hg (Kd.R_ne HO_9.out BK111.out (by decide))); have n1_ := Aside0.mk (hb); have n2_ := Aside0.mk (ho); clear BK111; clear HB; clear HO_9; have BK111 := n0_; have HB := n1_; have HO127 := n2_; clear n0_ n1_ n2_; clear ho hb hg hat) | (go_at_call 26; (with_reducible refine (ih k4 (by have := HJ3.out; have := HJ8.out; have := HK3.out; have := HK4.out; omega) _ _ l0 x8_3 (wrap64 (a2 + 1)) t128 _ ?side1 ?side2 A56.out).mono ?_); (case side1 => repeat (first | exact (Kd.C_below HR0.out HB.out) | (with_reducible refine Kd.C_alloc ?_ _) | (with_reducible refine Kd.C_drewN ?_ _) | (with_reducible refine Kd.C_drew ?_))); (case side2 => exact HC0.out); rintro e w63 ⟨rfl, hb⟩; replace HO127 := Aside0.mk (Kd.R_below (R_later HO127.out) hb); replace BK111 := bkb BK111 hb; replace HB := bst HB hb; (try clear hb); (try clear hk))); try go_wp2_with (first | ((with_reducible refine gate_builtin (b := .append) (xs := #[.tmp 103, .tmp 109]) rfl ?_); at_builtin; refine Kd.R_append Kd.string (w0 := w) w.heap.size rfl (.tmp 103) (.tmp 109) 68 9 (.string ⟨#[]⟩) 16 rfl Try.underlying68 info9 rfl (by decide) (by omega) (.slice Ao61 x9_3.length co61) x9_3 ((rd_T44 l0 x8_3).f0) [.string ((rd_T44 l0 x8_3).f0)] (fun _ => True) (fun _ => False) rfl rfl ?aP (fun _ hk => hk.elim) ?aF ?aO ?aB ?aS ?aL ?_; (case aP => exact rfl); (case aB => exact (below_later HB.out)); (case aF => exact (fun _ _ => trivial)); (case aO => exact (R_later HO_9.out)); (case aS => exact (below_size (below_later HB.out))); (case aL => have := LMc55.out; omega); intro v126 w62 ho hb hg hat; rw [← Ny125.out] at ho; have n0_ := Aside0.mk (blk_grown (blk_later BK111.out) hg (Kd.R_ne HO_9.out BK111.out (by decide))); have n1_ := Aside0.mk (hb); have n2_ := Aside0.mk (ho); clear BK111; clear HB; clear HO_9; have BK111 := n0_; have HB := n1_; have HO127 := n2_; clear n0_ n1_ n2_; clear ho hb hg hat) | (go_at_call 26; (with_reducible refine (ih k4 (by have := HJ3.out; have := HJ8.out; have := HK3.out; have := HK4.out; omega) _ _ l0 x8_3 (wrap64 (a2 + 1)) t128 _ ?side1 ?side2 A56.out).mono ?_); (case side1 => repeat (first | exact (Kd.C_below HR0.out HB.out) | (with_reducible refine Kd.C_alloc ?_ _) | (with_reducible refine Kd.C_drewN ?_ _) | (with_reducible refine Kd.C_drew ?_))); (case side2 => exact HC0.out); rintro e w63 ⟨rfl, hb⟩; replace HO127 := Aside0.mk (Kd.R_below (R_later HO127.out) hb); replace BK111 := bkb BK111 hb; replace HB := bst HB hb; (try clear hb); (try clear hk))))
                                  go_roundg k4
                                  case measure => have := HJ3.out; have := HJ8.out; have := HK3.out; have := HK4.out; omega
                                  case rel => exact ⟨(t128), (y125), (wrap64 (x10_3 + 1)), sr, sr, H', ⟨by have := HJ3.out; have := HJ8.out; have := HK3.out; have := HK4.out; omega⟩, ⟨R_later HO127.out⟩, ⟨blk_later BK111.out⟩, ⟨below_later HB.out⟩⟩
                      · rw [if_neg c42] at H
                        have c42b0 := decide_eq_false c42
                        clear c42
                        obtain rfl := Option.some.inj H
                        obtain ⟨hcz64_0, hcz64_1, hcz64_2, hcz64_3, hfz64_0, hfz64_1, hfz64_2, hfz64_3⟩ := cl4 BK111
                        go_wp2
                        repeat (go_quiet (fail); try go_wp2)
                        go_ret
                        exact fin_ (below_later HB.out)
              · rw [if_neg c36] at H
                have c36b0 : (((rd_T44 l0 a1).f1) == 7) = false := beq_eq_false_iff_ne.mpr c36
                have c36b1 : (((rd_T44 l0 a1).f1) != 7) = true := bne_iff_ne.mpr c36
                replace H := bnd H
                obtain ⟨t118, A65, H⟩ := H
                by_cases c66 : t118 = true
                · subst c66
                  replace H := ifp rfl H
                  by_cases c67 : ((rd_T44 l0 a1).f3) = 0
                  · rw [if_pos c67] at H
                    have c67b0 : (((rd_T44 l0 a1).f3) == 0) = true := beq_iff_eq.mpr c67
                    have c67b1 : (((rd_T44 l0 a1).f3) != 0) = false := bne_eq_false_iff_eq.mpr c67
                    clear c67
                    obtain rfl := Option.some.inj H
                    obtain ⟨hcz68_0, hcz68_1, hcz68_2, hcz68_3, hfz68_0, hfz68_1, hfz68_2, hfz68_3⟩ := cl4 BK111
                    go_wp2_with (first | (go_at_call 36; (with_reducible refine (spec_l5Type.calls ((rd_T44 l0 a1).f1) true _ A65.out).mono ?_); rintro e w' ⟨rfl, ⟨nd, rfl⟩⟩; (try first | exact ⟨rfl, _, World.drewN_drewN _ _ _⟩ | exact ⟨rfl, _, Eq.trans (World.drewN_drewN _ _ _) (congrArg (World.drewN _) (Nat.add_assoc _ _ _))⟩)))
                    repeat (go_quiet (first | (go_at_call 36; (with_reducible refine (spec_l5Type.calls ((rd_T44 l0 a1).f1) true _ A65.out).mono ?_); rintro e w' ⟨rfl, ⟨nd, rfl⟩⟩; (try first | exact ⟨rfl, _, World.drewN_drewN _ _ _⟩ | exact ⟨rfl, _, Eq.trans (World.drewN_drewN _ _ _) (congrArg (World.drewN _) (Nat.add_assoc _ _ _))⟩))); try go_wp2_with (first | (go_at_call 36; (with_reducible refine (spec_l5Type.calls ((rd_T44 l0 a1).f1) true _ A65.out).mono ?_); rintro e w' ⟨rfl, ⟨nd, rfl⟩⟩; (try first | exact ⟨rfl, _, World.drewN_drewN _ _ _⟩ | exact ⟨rfl, _, Eq.trans (World.drewN_drewN _ _ _) (congrArg (World.drewN _) (Nat.add_assoc _ _ _))⟩))))
                    go_ret
                    exact fin_ (below_later HB.out)
                  · rw [if_neg c67] at H
                    have c67b0 : (((rd_T44 l0 a1).f3) == 0) = false := beq_eq_false_iff_ne.mpr c67
                    have c67b1 : (((rd_T44 l0 a1).f3) != 0) = true := bne_iff_ne.mpr c67
                    obtain rfl := Option.some.inj H
                    obtain ⟨hcz69_0, hcz69_1, hcz69_2, hcz69_3, hfz69_0, hfz69_1, hfz69_2, hfz69_3⟩ := cl4 BK111
                    go_wp2_with (first | (go_at_call 36; (with_reducible refine (spec_l5Type.calls ((rd_T44 l0 a1).f1) true _ A65.out).mono ?_); rintro e w' ⟨rfl, ⟨nd, rfl⟩⟩; (try first | exact ⟨rfl, _, World.drewN_drewN _ _ _⟩ | exact ⟨rfl, _, Eq.trans (World.drewN_drewN _ _ _) (congrArg (World.drewN _) (Nat.add_assoc _ _ _))⟩)))
                    repeat (go_quiet (first | (go_at_call 36; (with_reducible refine (spec_l5Type.calls ((rd_T44 l0 a1).f1) true _ A65.out).mono ?_); rintro e w' ⟨rfl, ⟨nd, rfl⟩⟩; (try first | exact ⟨rfl, _, World.drewN_drewN _ _ _⟩ | exact ⟨rfl, _, Eq.trans (World.drewN_drewN _ _ _) (congrArg (World.drewN _) (Nat.add_assoc _ _ _))⟩))); try go_wp2_with (first | (go_at_call 36; (with_reducible refine (spec_l5Type.calls ((rd_T44 l0 a1).f1) true _ A65.out).mono ?_); rintro e w' ⟨rfl, ⟨nd, rfl⟩⟩; (try first | exact ⟨rfl, _, World.drewN_drewN _ _ _⟩ | exact ⟨rfl, _, Eq.trans (World.drewN_drewN _ _ _) (congrArg (World.drewN _) (Nat.add_assoc _ _ _))⟩))))
                    go_ret
                    exact fin_ (below_later HB.out)
                · replace c66 := Bool.eq_false_iff.mpr c66
                  subst c66
                  replace H := ifn Bool.false_ne_true H
                  obtain rfl := Option.some.inj H
                  obtain ⟨hcz70_0, hcz70_1, hcz70_2, hcz70_3, hfz70_0, hfz70_1, hfz70_2, hfz70_3⟩ := cl4 BK111
                  go_wp2_with (first | (go_at_call 36; (with_reducible refine (spec_l5Type.calls ((rd_T44 l0 a1).f1) false _ A65.out).mono ?_); rintro e w' ⟨rfl, ⟨nd, rfl⟩⟩; (try first | exact ⟨rfl, _, World.drewN_drewN _ _ _⟩ | exact ⟨rfl, _, Eq.trans (World.drewN_drewN _ _ _) (congrArg (World.drewN _) (Nat.add_assoc _ _ _))⟩)))
                  repeat (go_quiet (first | (go_at_call 36; (with_reducible refine (spec_l5Type.calls ((rd_T44 l0 a1).f1) false _ A65.out).mono ?_); rintro e w' ⟨rfl, ⟨nd, rfl⟩⟩; (try first | exact ⟨rfl, _, World.drewN_drewN _ _ _⟩ | exact ⟨rfl, _, Eq.trans (World.drewN_drewN _ _ _) (congrArg (World.drewN _) (Nat.add_assoc _ _ _))⟩))); try go_wp2_with (first | (go_at_call 36; (with_reducible refine (spec_l5Type.calls ((rd_T44 l0 a1).f1) false _ A65.out).mono ?_); rintro e w' ⟨rfl, ⟨nd, rfl⟩⟩; (try first | exact ⟨rfl, _, World.drewN_drewN _ _ _⟩ | exact ⟨rfl, _, Eq.trans (World.drewN_drewN _ _ _) (congrArg (World.drewN _) (Nat.add_assoc _ _ _))⟩))))
                  go_ret
                  exact fin_ (below_later HB.out)
/-! ### spec_SchemaOk: function 14 -/
def spec_SchemaOk.f (k : Nat) (l0 : List (S44)) : Option (Bool) := (spec_l1In.f (l0.length : Int) 2 20).bind fun t129 => (if t129 = true then ((spec_l5Check.f k l0 0 1).bind fun t130 => (some (t130 == (l0.length : Int)))) else (some false))
set_option maxHeartbeats 8000000 in
set_option maxRecDepth 100000 in
theorem spec_SchemaOk.calls (k : Nat) (A0 : Option Addr) (c0 : Nat) (l0 : List (S44)) (r : Bool) (w : World) (hr0 : Kd.C k44 w A0 l0.length l0) (hc0 : l0.length ≤ c0) (h : spec_SchemaOk.f k l0 = some r) :
    Calls Try.prog 14 #[.slice A0 l0.length c0] w fun e w' => e = .returned (.bool r) ∧ Below w.heap.size w w' := by
  have HR0 := Aside0.mk hr0
  have HC0 := Aside0.mk hc0
  clear hr0 hc0
  have HB := Aside0.mk (Below.refl w.heap.size w)
  have H : ((spec_l1In.f (l0.length : Int) 2 20).bind fun t129 => (if t129 = true then ((spec_l5Check.f k l0 0 1).bind fun t130 => (some (t130 == (l0.length : Int)))) else (some false))) = some r := h
  clear h
  replace H := bnd H
  obtain ⟨t129, A2, H⟩ := H
  by_cases c3 : t129 = true
  · subst c3
    replace H := ifp rfl H
    replace H := bnd H
    obtain ⟨t130, A4, H⟩ := H
    obtain rfl := Option.some.inj H
    go_enter Try.func14, Try.ntmps14
    go_wp2_with (first | ((with_reducible refine gate_callee (f := 25) rfl ?_); refine gl_ (some 5) Try.func25 #[.int .i64 (l0.length : Int), .int .i64 2, .int .i64 20] rfl ?_; (with_reducible refine (spec_l1In.calls (l0.length : Int) 2 20 true _ A2.out).mono ?_); rintro e w' ⟨rfl, ⟨nd, rfl⟩⟩; refine ⟨_, rfl, ?_⟩) | (go_at_call 26; (with_reducible refine (spec_l5Check.calls k _ _ l0 0 1 t130 _ ?side1 ?side2 A4.out).mono ?_); (case side1 => exact C_later HR0.out); (case side2 => exact HC0.out); rintro e w5 ⟨rfl, hb⟩; replace HB := bst HB hb; (try clear hb)))
    go_ret
    exact fin_ (below_later HB.out)
  · replace c3 := Bool.eq_false_iff.mpr c3
    subst c3
    replace H := ifn Bool.false_ne_true H
    obtain rfl := Option.some.inj H
    go_enter Try.func14, Try.ntmps14
    go_wp2_with (first | ((with_reducible refine gate_callee (f := 25) rfl ?_); refine gl_ (some 5) Try.func25 #[.int .i64 (l0.length : Int), .int .i64 2, .int .i64 20] rfl ?_; (with_reducible refine (spec_l1In.calls (l0.length : Int) 2 20 false _ A2.out).mono ?_); rintro e w' ⟨rfl, ⟨nd, rfl⟩⟩; refine ⟨_, rfl, ?_⟩))
    go_ret
    exact fin_ (below_later HB.out)

/-! ### spec_l4Int: function 37 -/
def spec_l4Int.f (a0 : Int) : Option (Bool) := (spec_l1In.f a0 (-2147483648) 2147483647).bind fun t131 => (some t131)
set_option maxHeartbeats 8000000 in
set_option maxRecDepth 100000 in
theorem spec_l4Int.calls (a0 : Int) (r : Bool) (w : World) (h : spec_l4Int.f a0 = some r) :
    Calls Try.prog 37 #[.int .i64 a0] w fun e w' => e = .returned (.bool r) ∧ Drawn0 w w' := by
  have H : ((spec_l1In.f a0 (-2147483648) 2147483647).bind fun t131 => (some t131)) = some r := h
  clear h
  replace H := bnd H
  obtain ⟨t131, A2, H⟩ := H
  obtain rfl := Option.some.inj H
  go_enter Try.func37, Try.ntmps37
  go_wp2_with (first | ((with_reducible refine gate_callee (f := 25) rfl ?_); refine gl_ (some 4) Try.func25 #[.int .i64 a0, .int .i64 (-2147483648), .int .i64 2147483647] rfl ?_; (with_reducible refine (spec_l1In.calls a0 (-2147483648) 2147483647 t131 _ A2.out).mono ?_); rintro e w' ⟨rfl, ⟨nd, rfl⟩⟩; refine ⟨_, rfl, ?_⟩))
  go_ret
  exact ⟨by first | rfl | (simp; done) | (simp [*]; done), by repeat (first | exact Drawn0.refl _ | apply Drawn0.step)⟩

/-! ### spec_ValOk: function 27 -/
def spec_ValOk.j0 : Nat → Int → Bool → Int → ByteArray → Option (Bool)
  | 0, _, _, _, _ => none
  | k + 1, x5, x26, x133000, x133001 => if x26 = true then (some (x133001.toList == ([] : List UInt8))) else (if x5 = 6 then (if x133000 = 0 then (some (decide ((x133001.size : Int) ≤ 40))) else (some false)) else (some false))
def spec_ValOk.f (k : Nat) (a0 : Int) (a1_0 : Int) (a1_1 : ByteArray) : Option (Bool) := if a0 = 0 then ((spec_l1In.f a1_0 0 1).bind fun t133 => (if t133 = true then (some (a1_1.toList == ([] : List UInt8))) else (some false))) else (if a0 = 1 then ((spec_l4Int.f a1_0).bind fun t134 => (if t134 = true then (some (a1_1.toList == ([] : List UInt8))) else (some false))) else (if a0 = 2 then (spec_ValOk.j0 k a0 (a0 == 2) a1_0 a1_1) else (spec_ValOk.j0 k a0 (a0 == 5) a1_0 a1_1)))
set_option maxHeartbeats 8000000 in
set_option maxRecDepth 100000 in
theorem spec_ValOk.calls (k : Nat) (a0 : Int) (a1_0 : Int) (a1_1 : ByteArray) (r : Bool) (w : World) (h : spec_ValOk.f k a0 a1_0 a1_1 = some r) :
    Calls Try.prog 27 #[.int .i64 a0, .agg #[.int .i64 a1_0, .string a1_1]] w fun e w' => e = .returned (.bool r) ∧ Below w.heap.size w w' := by
  have hu49 := Try.underlying49
  have HB := Aside0.mk (Below.refl w.heap.size w)
  have H : (if a0 = 0 then ((spec_l1In.f a1_0 0 1).bind fun t133 => (if t133 = true then (some (a1_1.toList == ([] : List UInt8))) else (some false))) else (if a0 = 1 then ((spec_l4Int.f a1_0).bind fun t134 => (if t134 = true then (some (a1_1.toList == ([] : List UInt8))) else (some false))) else (if a0 = 2 then (spec_ValOk.j0 k a0 (a0 == 2) a1_0 a1_1) else (spec_ValOk.j0 k a0 (a0 == 5) a1_0 a1_1)))) = some r := h
  clear h
  by_cases c3 : a0 = 0
  · rw [if_pos c3] at H
    have c3b0 : (a0 == 0) = true := beq_iff_eq.mpr c3
    have c3b1 : (a0 != 0) = false := bne_eq_false_iff_eq.mpr c3
    clear c3
    replace H := bnd H
    obtain ⟨t133, A4, H⟩ := H
    by_cases c5 : t133 = true
    · subst c5
      replace H := ifp rfl H
      obtain rfl := Option.some.inj H
      go_enter Try.func27, Try.ntmps27
      go_wp2_with (first | ((with_reducible refine gate_dst (N := 3) rfl ?_); (try (refine gate_guard (by rfl) ?_; dsimp only)); refine bx_ 3 #[.int .i64 a1_0, .string a1_1] 49 ?_; intro gb132 hg w6 hbox hb; have BK132 := Aside0.mk (hbox); have GW132 := gwe HB hg; have GE132 := GW132; replace HB := bst HB hb; clear hb hbox hg; obtain ⟨hcz7_0, hcz7_1, hfz7_0, hfz7_1⟩ := cl2 BK132) | ((with_reducible refine gate_callee (f := 25) rfl ?_); refine gl_ (some 10) Try.func25 #[.int .i64 a1_0, .int .i64 0, .int .i64 1] rfl ?_; (with_reducible refine (spec_l1In.calls a1_0 0 1 true _ A4.out).mono ?_); rintro e w' ⟨rfl, ⟨nd, rfl⟩⟩; refine ⟨_, rfl, ?_⟩))
      go_ret
      exact fin_ (below_later HB.out)
    · replace c5 := Bool.eq_false_iff.mpr c5
      subst c5
      replace H := ifn Bool.false_ne_true H
      obtain rfl := Option.some.inj H
      go_enter Try.func27, Try.ntmps27
      go_wp2_with (first | ((with_reducible refine gate_dst (N := 3) rfl ?_); (try (refine gate_guard (by rfl) ?_; dsimp only)); refine bx_ 3 #[.int .i64 a1_0, .string a1_1] 49 ?_; intro gb132 hg w8 hbox hb; have BK132 := Aside0.mk (hbox); have GW132 := gwe HB hg; have GE132 := GW132; replace HB := bst HB hb; clear hb hbox hg; obtain ⟨hcz9_0, hcz9_1, hfz9_0, hfz9_1⟩ := cl2 BK132) | ((with_reducible refine gate_callee (f := 25) rfl ?_); refine gl_ (some 10) Try.func25 #[.int .i64 a1_0, .int .i64 0, .int .i64 1] rfl ?_; (with_reducible refine (spec_l1In.calls a1_0 0 1 false _ A4.out).mono ?_); rintro e w' ⟨rfl, ⟨nd, rfl⟩⟩; refine ⟨_, rfl, ?_⟩))
      go_ret
      exact fin_ (below_later HB.out)
  · rw [if_neg c3] at H
    have c3b0 : (a0 == 0) = false := beq_eq_false_iff_ne.mpr c3
    have c3b1 : (a0 != 0) = true := bne_iff_ne.mpr c3
    by_cases c10 : a0 = 1
    · rw [if_pos c10] at H
      have c10b0 : (a0 == 1) = true := beq_iff_eq.mpr c10
      have c10b1 : (a0 != 1) = false := bne_eq_false_iff_eq.mpr c10
      clear c10
      replace H := bnd H
      obtain ⟨t134, A11, H⟩ := H
      by_cases c12 : t134 = true
      · subst c12
        replace H := ifp rfl H
        obtain rfl := Option.some.inj H
        go_enter Try.func27, Try.ntmps27
        go_wp2_with (first | ((with_reducible refine gate_dst (N := 3) rfl ?_); (try (refine gate_guard (by rfl) ?_; dsimp only)); refine bx_ 3 #[.int .i64 a1_0, .string a1_1] 49 ?_; intro gb132 hg w13 hbox hb; have BK132 := Aside0.mk (hbox); have GW132 := gwe HB hg; have GE132 := GW132; replace HB := bst HB hb; clear hb hbox hg; obtain ⟨hcz14_0, hcz14_1, hfz14_0, hfz14_1⟩ := cl2 BK132) | ((with_reducible refine gate_callee (f := 37) rfl ?_); refine gl_ (some 20) Try.func37 #[.int .i64 a1_0] rfl ?_; (with_reducible refine (spec_l4Int.calls a1_0 true _ A11.out).mono ?_); rintro e w' ⟨rfl, ⟨nd, rfl⟩⟩; refine ⟨_, rfl, ?_⟩))
        go_ret
        exact fin_ (below_later HB.out)
      · replace c12 := Bool.eq_false_iff.mpr c12
        subst c12
        replace H := ifn Bool.false_ne_true H
        obtain rfl := Option.some.inj H
        go_enter Try.func27, Try.ntmps27
        go_wp2_with (first | ((with_reducible refine gate_dst (N := 3) rfl ?_); (try (refine gate_guard (by rfl) ?_; dsimp only)); refine bx_ 3 #[.int .i64 a1_0, .string a1_1] 49 ?_; intro gb132 hg w15 hbox hb; have BK132 := Aside0.mk (hbox); have GW132 := gwe HB hg; have GE132 := GW132; replace HB := bst HB hb; clear hb hbox hg; obtain ⟨hcz16_0, hcz16_1, hfz16_0, hfz16_1⟩ := cl2 BK132) | ((with_reducible refine gate_callee (f := 37) rfl ?_); refine gl_ (some 20) Try.func37 #[.int .i64 a1_0] rfl ?_; (with_reducible refine (spec_l4Int.calls a1_0 false _ A11.out).mono ?_); rintro e w' ⟨rfl, ⟨nd, rfl⟩⟩; refine ⟨_, rfl, ?_⟩))
        go_ret
        exact fin_ (below_later HB.out)
    · rw [if_neg c10] at H
      have c10b0 : (a0 == 1) = false := beq_eq_false_iff_ne.mpr c10
      have c10b1 : (a0 != 1) = true := bne_iff_ne.mpr c10
      have HC17 := Aside0.mk H
      clear H
      go_enter Try.func27, Try.ntmps27
      go_upto_if 26 with (first | ((with_reducible refine gate_dst (N := 3) rfl ?_); (try (refine gate_guard (by rfl) ?_; dsimp only)); refine bx_ 3 #[.int .i64 a1_0, .string a1_1] 49 ?_; intro gb132 hg w18 hbox hb; have BK132 := Aside0.mk (hbox); have GW132 := gwe HB hg; have GE132 := GW132; replace HB := bst HB hb; clear hb hbox hg))
      (try simp only [Act.put, List.setIfInBounds_toArray, List.set_cons_zero, List.set_cons_succ])
      go_cut [26] (fun v26 wc => ∃ (kq : Nat) (x26_16 : Bool), v26 = .bool x26_16 ∧ Aside0 (spec_ValOk.j0 kq a0 x26_16 a1_0 a1_1 = some r) ∧ Aside0 (kq ≤ k) ∧ Aside0 (wc.heap[gb132]? = some (.cells #[.int .i64 a1_0, .string a1_1] 49 (0, 0))) ∧ Aside0 (Below w.heap.size w wc))
      case first =>
        have H := HC17.out
        clear HC17
        by_cases c19 : a0 = 2
        · rw [if_pos c19] at H
          have c19b0 : (a0 == 2) = true := beq_iff_eq.mpr c19
          have c19b1 : (a0 != 2) = false := bne_eq_false_iff_eq.mpr c19
          clear c19
          (first | rw [c19b0] | rw [c19b1] | (simp only [i64_w, i32_w]; rw [c19b0]) | skip)
          have H' := Aside0.mk H
          clear H
          go_wp2
          go_meet
          case rel => exact ⟨_, ((a0 == 2)), sr, H', ⟨by first | omega | exact Nat.le_refl _⟩, ⟨blk_later BK132.out⟩, ⟨below_later HB.out⟩⟩
        · rw [if_neg c19] at H
          have c19b0 : (a0 == 2) = false := beq_eq_false_iff_ne.mpr c19
          have c19b1 : (a0 != 2) = true := bne_iff_ne.mpr c19
          (first | rw [c19b0] | rw [c19b1] | (simp only [i64_w, i32_w]; rw [c19b0]) | skip)
          have H' := Aside0.mk H
          clear H
          go_wp2
          go_meet
          case rel => exact ⟨_, ((a0 == 5)), sr, H', ⟨by first | omega | exact Nat.le_refl _⟩, ⟨blk_later BK132.out⟩, ⟨below_later HB.out⟩⟩
      case rest =>
        clear HC17
        try clear c3
        try clear c3b0
        try clear c3b1
        try clear c10
        try clear c10b0
        try clear c10b1
        obtain ⟨kq, x26_16, rfl, HA, HJ16, BK132, HB⟩ := hcut
        cases kq with
        | zero => exact absurd HA.out (by simp [spec_ValOk.j0])
        | succ kj16 =>
          have H := HA.out
          clear HA
          simp only [spec_ValOk.j0] at H
          by_cases c20 : x26_16 = true
          · subst c20
            replace H := ifp rfl H
            obtain rfl := Option.some.inj H
            obtain ⟨hcz21_0, hcz21_1, hfz21_0, hfz21_1⟩ := cl2 BK132
            go_wp2
            go_ret
            exact fin_ (below_later HB.out)
          · replace c20 := Bool.eq_false_iff.mpr c20
            subst c20
            replace H := ifn Bool.false_ne_true H
            by_cases c22 : a0 = 6
            · rw [if_pos c22] at H
              have c22b0 : (a0 == 6) = true := beq_iff_eq.mpr c22
              have c22b1 : (a0 != 6) = false := bne_eq_false_iff_eq.mpr c22
              clear c22
              by_cases c23 : a1_0 = 0
              · rw [if_pos c23] at H
                have c23b0 : (a1_0 == 0) = true := beq_iff_eq.mpr c23
                have c23b1 : (a1_0 != 0) = false := bne_eq_false_iff_eq.mpr c23
                clear c23
                obtain rfl := Option.some.inj H
                obtain ⟨hcz24_0, hcz24_1, hfz24_0, hfz24_1⟩ := cl2 BK132
                go_wp2
                go_ret
                exact fin_ (below_later HB.out)
              · rw [if_neg c23] at H
                have c23b0 : (a1_0 == 0) = false := beq_eq_false_iff_ne.mpr c23
                have c23b1 : (a1_0 != 0) = true := bne_iff_ne.mpr c23
                obtain rfl := Option.some.inj H
                obtain ⟨hcz25_0, hcz25_1, hfz25_0, hfz25_1⟩ := cl2 BK132
                go_wp2
                go_ret
                exact fin_ (below_later HB.out)
            · rw [if_neg c22] at H
              have c22b0 : (a0 == 6) = false := beq_eq_false_iff_ne.mpr c22
              have c22b1 : (a0 != 6) = true := bne_iff_ne.mpr c22
              obtain rfl := Option.some.inj H
              go_wp2
              go_ret
              exact fin_ (below_later HB.out)

/-! ### spec_l13Count: function 38 -/
def spec_l13Count.f (a0_0 : Int) (a0_1 : ByteArray) (a1 : Int) : Option (Int) := if a0_1.toList = ([] : List UInt8) then ((spec_l1In.f a0_0 0 a1).bind fun t136 => (if t136 = true then (some a0_0) else (some (-1)))) else (some (-1))
set_option maxHeartbeats 8000000 in
set_option maxRecDepth 100000 in
theorem spec_l13Count.calls (a0_0 : Int) (a0_1 : ByteArray) (a1 : Int) (r : Int) (w : World) (h : spec_l13Count.f a0_0 a0_1 a1 = some r) :
    Calls Try.prog 38 #[.agg #[.int .i64 a0_0, .string a0_1], .int .i64 a1] w fun e w' => e = .returned (.int .i64 r) ∧ Below w.heap.size w w' := by
  have hu49 := Try.underlying49
  have HB := Aside0.mk (Below.refl w.heap.size w)
  have H : (if a0_1.toList = ([] : List UInt8) then ((spec_l1In.f a0_0 0 a1).bind fun t136 => (if t136 = true then (some a0_0) else (some (-1)))) else (some (-1))) = some r := h
  clear h
  by_cases c3 : a0_1.toList = ([] : List UInt8)
  · rw [if_pos c3] at H
    have c3b0 : (a0_1.toList == ([] : List UInt8)) = true := beq_iff_eq.mpr c3
    have c3b1 : (a0_1.toList != ([] : List UInt8)) = false := bne_eq_false_iff_eq.mpr c3
    clear c3
    replace H := bnd H
    obtain ⟨t136, A4, H⟩ := H
    by_cases c5 : t136 = true
    · subst c5
      replace H := ifp rfl H
      obtain rfl := Option.some.inj H
      go_enter Try.func38, Try.ntmps38
      go_wp2_with (first | ((with_reducible refine gate_dst (N := 2) rfl ?_); refine bx_ 2 #[.int .i64 a0_0, .string a0_1] 49 ?_; intro gb135 hg w6 hbox hb; have BK135 := Aside0.mk (hbox); have GW135 := gwe HB hg; have GE135 := GW135; replace HB := bst HB hb; clear hb hbox hg; obtain ⟨hcz7_0, hcz7_1, hfz7_0, hfz7_1⟩ := cl2 BK135) | (go_at_call 25; (with_reducible refine (spec_l1In.calls a0_0 0 a1 true _ A4.out).mono ?_); rintro e w' ⟨rfl, ⟨nd, rfl⟩⟩))
      go_ret
      exact fin_ (below_later HB.out)
    · replace c5 := Bool.eq_false_iff.mpr c5
      subst c5
      replace H := ifn Bool.false_ne_true H
      obtain rfl := Option.some.inj H
      go_enter Try.func38, Try.ntmps38
      go_wp2_with (first | ((with_reducible refine gate_dst (N := 2) rfl ?_); refine bx_ 2 #[.int .i64 a0_0, .string a0_1] 49 ?_; intro gb135 hg w8 hbox hb; have BK135 := Aside0.mk (hbox); have GW135 := gwe HB hg; have GE135 := GW135; replace HB := bst HB hb; clear hb hbox hg; obtain ⟨hcz9_0, hcz9_1, hfz9_0, hfz9_1⟩ := cl2 BK135) | (go_at_call 25; (with_reducible refine (spec_l1In.calls a0_0 0 a1 false _ A4.out).mono ?_); rintro e w' ⟨rfl, ⟨nd, rfl⟩⟩))
      go_ret
      exact fin_ (below_later HB.out)
  · rw [if_neg c3] at H
    have c3b0 : (a0_1.toList == ([] : List UInt8)) = false := beq_eq_false_iff_ne.mpr c3
    have c3b1 : (a0_1.toList != ([] : List UInt8)) = true := bne_iff_ne.mpr c3
    obtain rfl := Option.some.inj H
    go_enter Try.func38, Try.ntmps38
    go_wp2_with (first | ((with_reducible refine gate_dst (N := 2) rfl ?_); refine bx_ 2 #[.int .i64 a0_0, .string a0_1] 49 ?_; intro gb135 hg w10 hbox hb; have BK135 := Aside0.mk (hbox); have GW135 := gwe HB hg; have GE135 := GW135; replace HB := bst HB hb; clear hb hbox hg; obtain ⟨hcz11_0, hcz11_1, hfz11_0, hfz11_1⟩ := cl2 BK135))
    go_ret
    exact fin_ (below_later HB.out)


end Go.Proofs.Ytfaaoljihmlbmaa.PFnExactRecOk
