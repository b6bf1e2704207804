/- The machine's side of FnCut, written by wip/tools/hyb.py of this repo: each Go function as a plain Lean function, and the proof that the call comes to just its answer. No condition. -/
import Derived.Test.YtbiobenhhnbbaaaPFnCutx0
import Derived.Test.YtbiobenhhnbbaaaPFnCutx2
namespace Go.Proofs.Ytbiobenhhnbbaaa.PFnCut
open Go.RowKit Go.Proofs.YtbiobenhhnbbaaaW.PrintWords Go.Proofs.YtbiobenhhnbbaaaW.PrintLast Go.Proofs.YtbiobenhhnbbaaaW.PrintMore Go.Proofs.YtbiobenhhnbbaaaW.PrintMore2
attribute [local go_sem] max2_int min2_int max_two min_two max_three min_three max_four min_four   -- for this text's walks alone
set_option linter.unusedVariables false
set_option linter.unusedSimpArgs false

/-! ### spec_l5Type: function 38 -/
def spec_l5Type.f (a0 : Int) : Option (Bool) := if a0 = 0 then (some true) else (if a0 = 1 then (some true) else (if a0 = 2 then (some true) else (if a0 = 5 then (some true) else (if a0 = 6 then (some true) else (some false)))))
set_option maxHeartbeats 8000000 in
set_option maxRecDepth 100000 in
theorem spec_l5Type.calls (a0 : Int) (r : Bool) (w : World) (h : spec_l5Type.f a0 = some r) :
    Calls Try.prog 38 #[.int .i64 a0] w fun e w' => e = .returned (.bool r) ∧ Drawn0 w w' := by
  have H : (if a0 = 0 then (some true) else (if a0 = 1 then (some true) else (if a0 = 2 then (some true) else (if a0 = 5 then (some true) else (if a0 = 6 then (some true) else (some false)))))) = some r := h
  clear h
  by_cases c2 : a0 = 0
  · rw [if_pos c2] at H
    have c2b0 : (a0 == 0) = true := beq_iff_eq.mpr c2
    have c2b1 : (a0 != 0) = false := bne_eq_false_iff_eq.mpr c2
    clear c2
    obtain rfl := Option.some.inj H
    go_enter Try.func38, Try.ntmps38
    go_wp2
    go_ret
    exact ⟨by first | rfl | (simp; done) | (simp [*]; done), by repeat (first | exact Drawn0.refl _ | apply Drawn0.step)⟩
  · rw [if_neg c2] at H
    have c2b0 : (a0 == 0) = false := beq_eq_false_iff_ne.mpr c2
    have c2b1 : (a0 != 0) = true := bne_iff_ne.mpr c2
    by_cases c3 : a0 = 1
    · rw [if_pos c3] at H
      have c3b0 : (a0 == 1) = true := beq_iff_eq.mpr c3
      have c3b1 : (a0 != 1) = false := bne_eq_false_iff_eq.mpr c3
      clear c3
      obtain rfl := Option.some.inj H
      go_enter Try.func38, Try.ntmps38
      go_wp2
      go_ret
      exact ⟨by first | rfl | (simp; done) | (simp [*]; done), by repeat (first | exact Drawn0.refl _ | apply Drawn0.step)⟩
    · rw [if_neg c3] at H
      have c3b0 : (a0 == 1) = false := beq_eq_false_iff_ne.mpr c3
      have c3b1 : (a0 != 1) = true := bne_iff_ne.mpr c3
      by_cases c4 : a0 = 2
      · rw [if_pos c4] at H
        have c4b0 : (a0 == 2) = true := beq_iff_eq.mpr c4
        have c4b1 : (a0 != 2) = false := bne_eq_false_iff_eq.mpr c4
        clear c4
        obtain rfl := Option.some.inj H
        go_enter Try.func38, Try.ntmps38
        go_wp2
        go_ret
        exact ⟨by first | rfl | (simp; done) | (simp [*]; done), by repeat (first | exact Drawn0.refl _ | apply Drawn0.step)⟩
      · rw [if_neg c4] at H
        have c4b0 : (a0 == 2) = false := beq_eq_false_iff_ne.mpr c4
        have c4b1 : (a0 != 2) = true := bne_iff_ne.mpr c4
        by_cases c5 : a0 = 5
        · rw [if_pos c5] at H
          have c5b0 : (a0 == 5) = true := beq_iff_eq.mpr c5
          have c5b1 : (a0 != 5) = false := bne_eq_false_iff_eq.mpr c5
          clear c5
          obtain rfl := Option.some.inj H
          go_enter Try.func38, Try.ntmps38
          go_wp2
          go_ret
          exact ⟨by first | rfl | (simp; done) | (simp [*]; done), by repeat (first | exact Drawn0.refl _ | apply Drawn0.step)⟩
        · rw [if_neg c5] at H
          have c5b0 : (a0 == 5) = false := beq_eq_false_iff_ne.mpr c5
          have c5b1 : (a0 != 5) = true := bne_iff_ne.mpr c5
          by_cases c6 : a0 = 6
          · rw [if_pos c6] at H
            have c6b0 : (a0 == 6) = true := beq_iff_eq.mpr c6
            have c6b1 : (a0 != 6) = false := bne_eq_false_iff_eq.mpr c6
            clear c6
            obtain rfl := Option.some.inj H
            go_enter Try.func38, Try.ntmps38
            go_wp2
            go_ret
            exact ⟨by first | rfl | (simp; done) | (simp [*]; done), by repeat (first | exact Drawn0.refl _ | apply Drawn0.step)⟩
          · rw [if_neg c6] at H
            have c6b0 : (a0 == 6) = false := beq_eq_false_iff_ne.mpr c6
            have c6b1 : (a0 != 6) = true := bne_iff_ne.mpr c6
            obtain rfl := Option.some.inj H
            go_enter Try.func38, Try.ntmps38
            go_wp2
            go_ret
            exact ⟨by first | rfl | (simp; done) | (simp [*]; done), by repeat (first | exact Drawn0.refl _ | apply Drawn0.step)⟩

/-! ### spec_l5Check: function 29 -/
mutual
def spec_l5Check.j0 : Nat → List (S61) → Int → Int → Bool → Option (Int)
  | 0, _, _, _, _ => none
  | k + 1, x0, x1, x2, x19 => if x19 = true then (some (-1)) else (if 0 ≤ x1 then (if x1 < (x0.length : Int) then (if x1 = 0 then (if ((rd_T61 x0 x1).f0).toList = ([] : List UInt8) then (if ((rd_T61 x0 x1).f2) = 0 then (if ((rd_T61 x0 x1).f1) = 7 then (if x1 > 0 then ((spec_l5Name.f k ((rd_T61 x0 x1).f0)).bind fun t162 => (if t162 = true then ((spec_l1In.f ((rd_T61 x0 x1).f2) 0 2).bind fun t163 => (spec_l5Check.j1 k x0 x1 x2 (!t163) ((rd_T61 x0 x1).f0) ((rd_T61 x0 x1).f1) ((rd_T61 x0 x1).f2) ((rd_T61 x0 x1).f3))) else (spec_l5Check.j1 k x0 x1 x2 true ((rd_T61 x0 x1).f0) ((rd_T61 x0 x1).f1) ((rd_T61 x0 x1).f2) ((rd_T61 x0 x1).f3)))) else ((spec_l1In.f ((rd_T61 x0 x1).f2) 0 2).bind fun t164 => (spec_l5Check.j1 k x0 x1 x2 (!t164) ((rd_T61 x0 x1).f0) ((rd_T61 x0 x1).f1) ((rd_T61 x0 x1).f2) ((rd_T61 x0 x1).f3)))) else (spec_l5Check.j1 k x0 x1 x2 true ((rd_T61 x0 x1).f0) ((rd_T61 x0 x1).f1) ((rd_T61 x0 x1).f2) ((rd_T61 x0 x1).f3))) else (spec_l5Check.j1 k x0 x1 x2 true ((rd_T61 x0 x1).f0) ((rd_T61 x0 x1).f1) ((rd_T61 x0 x1).f2) ((rd_T61 x0 x1).f3))) else (spec_l5Check.j1 k x0 x1 x2 true ((rd_T61 x0 x1).f0) ((rd_T61 x0 x1).f1) ((rd_T61 x0 x1).f2) ((rd_T61 x0 x1).f3))) else (if x1 > 0 then ((spec_l5Name.f k ((rd_T61 x0 x1).f0)).bind fun t165 => (if t165 = true then ((spec_l1In.f ((rd_T61 x0 x1).f2) 0 2).bind fun t166 => (spec_l5Check.j1 k x0 x1 x2 (!t166) ((rd_T61 x0 x1).f0) ((rd_T61 x0 x1).f1) ((rd_T61 x0 x1).f2) ((rd_T61 x0 x1).f3))) else (spec_l5Check.j1 k x0 x1 x2 true ((rd_T61 x0 x1).f0) ((rd_T61 x0 x1).f1) ((rd_T61 x0 x1).f2) ((rd_T61 x0 x1).f3)))) else ((spec_l1In.f ((rd_T61 x0 x1).f2) 0 2).bind fun t167 => (spec_l5Check.j1 k x0 x1 x2 (!t167) ((rd_T61 x0 x1).f0) ((rd_T61 x0 x1).f1) ((rd_T61 x0 x1).f2) ((rd_T61 x0 x1).f3))))) else (none)) else (none))
def spec_l5Check.j1 : Nat → List (S61) → Int → Int → Bool → ByteArray → Int → Int → Int → Option (Int)
  | 0, _, _, _, _, _, _, _, _ => none
  | k + 1, x0, x1, x2, x56, x162000, x162001, x162002, x162003 => if x56 = true then (some (-1)) else (if x162001 = 7 then (if x162003 < 1 then (some (-1)) else (spec_l5Check.l0 k x0 x2 (wrap64 (x1 + 1)) (([] : List ByteArray)) 0 x162000 x162001 x162002 x162003)) else ((spec_l5Type.f x162001).bind fun t168 => (if t168 = true then (if x162003 = 0 then (some (wrap64 (x1 + 1))) else (some (-1))) else (some (-1)))))
def spec_l5Check.l0 : Nat → List (S61) → Int → Int → List ByteArray → Int → ByteArray → Int → Int → Int → Option (Int)
  | 0, _, _, _, _, _, _, _, _, _ => none
  | k + 1, x0, x2, x8, x9, x10, x162000, x162001, x162002, x162003 => if x10 < x162003 then (if x8 ≥ (x0.length : Int) then (some (-1)) else (spec_l5Check.l1 k x0 x2 x8 x9 x10 0 x162000 x162001 x162002 x162003)) else (some x8)
def spec_l5Check.l1 : Nat → List (S61) → Int → Int → List ByteArray → Int → Int → ByteArray → Int → Int → Int → Option (Int)
  | 0, _, _, _, _, _, _, _, _, _, _ => none
  | k + 1, x0, x2, x8, x9, x10, x11, x162000, x162001, x162002, x162003 => if x11 < (x9.length : Int) then (if 0 ≤ x11 then (if 0 ≤ x8 then (if x8 < (x0.length : Int) then (if (rdOf ByteArray.empty x9 x11).toList = ((rd_T61 x0 x8).f0).toList then (some (-1)) else (spec_l5Check.l1 k x0 x2 x8 x9 x10 (wrap64 (x11 + 1)) x162000 x162001 x162002 x162003)) else (none)) else (none)) else (none)) else (if 0 ≤ x8 then (if x8 < (x0.length : Int) then (if x9.length < 8796093022208 then ((spec_l5Check.f k x0 x8 (wrap64 (x2 + 1))).bind fun t178 => (if t178 < 0 then (some (-1)) else (spec_l5Check.l0 k x0 x2 t178 (x9 ++ [(rd_T61 x0 x8).f0]) (wrap64 (x10 + 1)) x162000 x162001 x162002 x162003))) else (none)) else (none)) else (none))
def spec_l5Check.f : Nat → List (S61) → Int → Int → Option (Int)
  | 0, _, _, _ => none
  | k + 1, l0, a1, a2 => if a1 ≥ (l0.length : Int) then (spec_l5Check.j0 k l0 a1 a2 true) else (spec_l5Check.j0 k l0 a1 a2 (decide (a2 > 6)))
end
set_option maxHeartbeats 8000000 in
set_option maxRecDepth 100000 in
theorem spec_l5Check.calls (k : Nat) : ∀ (A0 : Option Addr) (c0 : Nat) (l0 : List (S61)) (a1 : Int) (a2 : Int) (r : Int) (w : World) (hr0 : Kd.C k61 w A0 l0.length l0) (hc0 : l0.length ≤ c0) (h : spec_l5Check.f k l0 a1 a2 = some r),
    Calls Try.prog 29 #[.slice A0 l0.length c0, .int .i64 a1, .int .i64 a2] w fun e w' => e = .returned (.int .i64 r) ∧ Below w.heap.size w w' := by
  induction k using Nat.strongRecOn with
  | _ k ih =>
  intro A0 c0 l0 a1 a2 r w hr0 hc0 h
  cases k with
  | zero => exact absurd h (by simp [spec_l5Check.f])
  | succ k =>
  simp only [spec_l5Check.f] at h
  have hu61 := Try.underlying61
  have HR0 := Aside0.mk hr0
  have HC0 := Aside0.mk hc0
  clear hr0 hc0
  have HB := Aside0.mk (Below.refl w.heap.size w)
  have H : (if a1 ≥ (l0.length : Int) then (spec_l5Check.j0 k l0 a1 a2 true) else (spec_l5Check.j0 k l0 a1 a2 (decide (a2 > 6)))) = some r := h
  clear h
  have HC4 := Aside0.mk H
  clear H
  go_enter Try.func29, Try.ntmps29
  go_upto_region 1 with (fail)
  repeat (go_quiet (fail); go_upto_region 1 with (fail))
  go_cut [19] (fun v19 wc => ∃ (kq : Nat) (x19_3 : Bool), v19 = .bool x19_3 ∧ Aside0 (spec_l5Check.j0 kq l0 a1 a2 x19_3 = some r) ∧ Aside0 (kq ≤ k) ∧ Aside0 (Below w.heap.size w wc))
  case first =>
    have H := HC4.out
    clear HC4
    by_cases c5 : a1 ≥ (l0.length : Int)
    · rw [if_pos c5] at H
      have c5b0 : decide ((l0.length : Int) ≤ a1) = true := decide_eq_true c5
      clear c5
      (first | rw [c5b0] | (simp only [i64_w, i32_w]; rw [c5b0]) | skip)
      have H' := Aside0.mk H
      clear H
      go_wp2
      repeat (go_quiet (fail); try go_wp2)
      go_meet
      case rel => exact ⟨_, (true), sr, H', ⟨by first | omega | exact Nat.le_refl _⟩, ⟨below_later HB.out⟩⟩
    · rw [if_neg c5] at H
      have c5b0 : decide ((l0.length : Int) ≤ a1) = false := decide_eq_false c5
      clear c5
      (first | rw [c5b0] | (simp only [i64_w, i32_w]; rw [c5b0]) | skip)
      have H' := Aside0.mk H
      clear H
      go_wp2
      repeat (go_quiet (fail); try go_wp2)
      go_meet
      case rel => exact ⟨_, (decide (a2 > 6)), sr, H', ⟨by first | omega | exact Nat.le_refl _⟩, ⟨below_later HB.out⟩⟩
  case rest =>
    clear HC4
    obtain ⟨kq, x19_3, rfl, HA, HJ3, HB⟩ := hcut
    cases kq with
    | zero => exact absurd HA.out (by simp [spec_l5Check.j0])
    | succ kj3 =>
      have H := HA.out
      clear HA
      simp only [spec_l5Check.j0] at H
      by_cases c6 : x19_3 = true
      · subst c6
        replace H := ifp rfl H
        obtain rfl := Option.some.inj H
        go_wp2
        repeat (go_quiet (fail); try go_wp2)
        go_ret
        exact fin_ (below_later HB.out)
      · replace c6 := Bool.eq_false_iff.mpr c6
        subst c6
        replace H := ifn Bool.false_ne_true H
        replace H := ifd H
        obtain ⟨c7b0, H⟩ := H
        replace H := ifd H
        obtain ⟨c8b0, H⟩ := H
        have HC9 := Aside0.mk H
        clear H
        have p160 : 0 ≤ (a1 : Int) := dcd
        have q160 : a1 < (l0.length : Int) := dcd
        obtain ⟨ad160, e160, hx160_0, hx160_1, hx160_2, hx160_3⟩ := at_T61 HR0.out a1 p160 q160
        cases e160
        replace hx160_0 := crd HB hx160_0
        replace hx160_1 := crd HB hx160_1
        replace hx160_2 := crd HB hx160_2
        replace hx160_3 := crd HB hx160_3
        replace p160 := eq_true p160
        replace q160 := eq_true q160
        go_upto_region 4 with (first | ((with_reducible refine gate_dst (N := 7) rfl ?_); refine bx_ 7 #[.string (⟨#[]⟩ : ByteArray), .int .i64 0, .int .i64 0, .int .i64 0] 61 ?_; intro gb161 hg w10 hbox hb; have BK161 := Aside0.mk (hbox); have GW161 := gwe HB hg; have GE161 := GW161; replace HB := bst HB hb; clear hb hbox hg; obtain ⟨hcz11_0, hcz11_1, hcz11_2, hcz11_3, hfz11_0, hfz11_1, hfz11_2, hfz11_3⟩ := cl4 BK161))
        repeat (go_quiet (fail); go_upto_region 4 with (first | ((with_reducible refine gate_dst (N := 7) rfl ?_); refine bx_ 7 #[.string (⟨#[]⟩ : ByteArray), .int .i64 0, .int .i64 0, .int .i64 0] 61 ?_; intro gb161 hg w10 hbox hb; have BK161 := Aside0.mk (hbox); have GW161 := gwe HB hg; have GE161 := GW161; replace HB := bst HB hb; clear hb hbox hg; obtain ⟨hcz11_0, hcz11_1, hcz11_2, hcz11_3, hfz11_0, hfz11_1, hfz11_2, hfz11_3⟩ := cl4 BK161)))
        (try simp only [Act.put, List.setIfInBounds_toArray, List.set_cons_zero, List.set_cons_succ])
        go_cut [56] (fun v56 wc => ∃ (kq : Nat) (x56_8 : Bool), v56 = .bool x56_8 ∧ Aside0 (spec_l5Check.j1 kq l0 a1 a2 x56_8 ((rd_T61 l0 a1).f0) ((rd_T61 l0 a1).f1) ((rd_T61 l0 a1).f2) ((rd_T61 l0 a1).f3) = some r) ∧ Aside0 (kq ≤ kj3) ∧ Aside0 (wc.heap[gb161]? = some (.cells #[.string ((rd_T61 l0 a1).f0), .int .i64 ((rd_T61 l0 a1).f1), .int .i64 ((rd_T61 l0 a1).f2), .int .i64 ((rd_T61 l0 a1).f3)] 61 (0, 0))) ∧ Aside0 (Below w.heap.size w wc))
        case first =>
          have H := HC9.out
          clear HC9
          by_cases c12 : a1 = 0
          · rw [if_pos c12] at H
            have c12b0 : (a1 == 0) = true := beq_iff_eq.mpr c12
            have c12b1 : (a1 != 0) = false := bne_eq_false_iff_eq.mpr c12
            clear c12
            (first | rw [c12b0] | rw [c12b1] | (simp only [i64_w, i32_w]; rw [c12b0]) | skip)
            by_cases c13 : ((rd_T61 l0 a1).f0).toList = ([] : List UInt8)
            · rw [if_pos c13] at H
              have c13b0 : (((rd_T61 l0 a1).f0).toList == ([] : List UInt8)) = true := beq_iff_eq.mpr c13
              try have c13b7 : ((rd_T61 l0 a1).f0).toList.isEmpty = true := by simpa using c13
              have c13b1 : (((rd_T61 l0 a1).f0).toList != ([] : List UInt8)) = false := bne_eq_false_iff_eq.mpr c13
              clear c13
              by_cases c14 : ((rd_T61 l0 a1).f2) = 0
              · rw [if_pos c14] at H
                have c14b0 : (((rd_T61 l0 a1).f2) == 0) = true := beq_iff_eq.mpr c14
                have c14b1 : (((rd_T61 l0 a1).f2) != 0) = false := bne_eq_false_iff_eq.mpr c14
                clear c14
                by_cases c15 : ((rd_T61 l0 a1).f1) = 7
                · rw [if_pos c15] at H
                  have c15b0 : (((rd_T61 l0 a1).f1) == 7) = true := beq_iff_eq.mpr c15
                  have c15b1 : (((rd_T61 l0 a1).f1) != 7) = false := bne_eq_false_iff_eq.mpr c15
                  clear c15
                  by_cases c16 : a1 > 0
                  · rw [if_pos c16] at H
                    have c16b0 : decide (0 < a1) = true := decide_eq_true c16
                    clear c16
                    replace H := bnd H
                    obtain ⟨t162, A17, H⟩ := H
                    by_cases c18 : t162 = true
                    · subst c18
                      replace H := ifp rfl H
                      replace H := bnd H
                      obtain ⟨t163, A19, H⟩ := H
                      have H' := Aside0.mk H
                      clear H
                      obtain ⟨hcz20_0, hcz20_1, hcz20_2, hcz20_3, hfz20_0, hfz20_1, hfz20_2, hfz20_3⟩ := cl4 BK161
                      go_wp2_with (first | (go_at_call 37; (with_reducible refine (spec_l5Name.calls kj3 ((rd_T61 l0 a1).f0) true _ A17.out).mono ?_); rintro e w' ⟨rfl, ⟨nd, rfl⟩⟩; (try first | exact ⟨rfl, _, World.drewN_drewN _ _ _⟩ | exact ⟨rfl, _, Eq.trans (World.drewN_drewN _ _ _) (congrArg (World.drewN _) (Nat.add_assoc _ _ _))⟩)) | (go_at_call 14; (with_reducible refine (spec_l1In.calls ((rd_T61 l0 a1).f2) 0 2 t163 _ A19.out).mono ?_); rintro e w' ⟨rfl, ⟨nd, rfl⟩⟩; (try first | exact ⟨rfl, _, World.drewN_drewN _ _ _⟩ | exact ⟨rfl, _, Eq.trans (World.drewN_drewN _ _ _) (congrArg (World.drewN _) (Nat.add_assoc _ _ _))⟩)))
                      repeat (go_quiet (first | (go_at_call 37; (with_reducible refine (spec_l5Name.calls kj3 ((rd_T61 l0 a1).f0) true _ A17.out).mono ?_); rintro e w' ⟨rfl, ⟨nd, rfl⟩⟩; (try first | exact ⟨rfl, _, World.drewN_drewN _ _ _⟩ | exact ⟨rfl, _, Eq.trans (World.drewN_drewN _ _ _) (congrArg (World.drewN _) (Nat.add_assoc _ _ _))⟩)) | (go_at_call 14; (with_reducible refine (spec_l1In.calls ((rd_T61 l0 a1).f2) 0 2 t163 _ A19.out).mono ?_); rintro e w' ⟨rfl, ⟨nd, rfl⟩⟩; (try first | exact ⟨rfl, _, World.drewN_drewN _ _ _⟩ | exact ⟨rfl, _, Eq.trans (World.drewN_drewN _ _ _) (congrArg (World.drewN _) (Nat.add_assoc _ _ _))⟩))); try go_wp2_with (first | (go_at_call 37; (with_reducible refine (spec_l5Name.calls kj3 ((rd_T61 l0 a1).f0) true _ A17.out).mono ?_); rintro e w' ⟨rfl, ⟨nd, rfl⟩⟩; (try first | exact ⟨rfl, _, World.drewN_drewN _ _ _⟩ | exact ⟨rfl, _, Eq.trans (World.drewN_drewN _ _ _) (congrArg (World.drewN _) (Nat.add_assoc _ _ _))⟩)) | (go_at_call 14; (with_reducible refine (spec_l1In.calls ((rd_T61 l0 a1).f2) 0 2 t163 _ A19.out).mono ?_); rintro e w' ⟨rfl, ⟨nd, rfl⟩⟩; (try first | exact ⟨rfl, _, World.drewN_drewN _ _ _⟩ | exact ⟨rfl, _, Eq.trans (World.drewN_drewN _ _ _) (congrArg (World.drewN _) (Nat.add_assoc _ _ _))⟩))))
                      go_meet
                      case rel => exact ⟨_, (!t163), sr, H', ⟨by have := HJ3.out; first | omega | exact Nat.le_refl _⟩, ⟨blk_later BK161.out⟩, ⟨below_later HB.out⟩⟩
                    · replace c18 := Bool.eq_false_iff.mpr c18
                      subst c18
                      replace H := ifn Bool.false_ne_true H
                      have H' := Aside0.mk H
                      clear H
                      obtain ⟨hcz21_0, hcz21_1, hcz21_2, hcz21_3, hfz21_0, hfz21_1, hfz21_2, hfz21_3⟩ := cl4 BK161
                      go_wp2_with (first | (go_at_call 37; (with_reducible refine (spec_l5Name.calls kj3 ((rd_T61 l0 a1).f0) false _ A17.out).mono ?_); rintro e w' ⟨rfl, ⟨nd, rfl⟩⟩; (try first | exact ⟨rfl, _, World.drewN_drewN _ _ _⟩ | exact ⟨rfl, _, Eq.trans (World.drewN_drewN _ _ _) (congrArg (World.drewN _) (Nat.add_assoc _ _ _))⟩)))
                      repeat (go_quiet (first | (go_at_call 37; (with_reducible refine (spec_l5Name.calls kj3 ((rd_T61 l0 a1).f0) false _ A17.out).mono ?_); rintro e w' ⟨rfl, ⟨nd, rfl⟩⟩; (try first | exact ⟨rfl, _, World.drewN_drewN _ _ _⟩ | exact ⟨rfl, _, Eq.trans (World.drewN_drewN _ _ _) (congrArg (World.drewN _) (Nat.add_assoc _ _ _))⟩))); try go_wp2_with (first | (go_at_call 37; (with_reducible refine (spec_l5Name.calls kj3 ((rd_T61 l0 a1).f0) false _ A17.out).mono ?_); rintro e w' ⟨rfl, ⟨nd, rfl⟩⟩; (try first | exact ⟨rfl, _, World.drewN_drewN _ _ _⟩ | exact ⟨rfl, _, Eq.trans (World.drewN_drewN _ _ _) (congrArg (World.drewN _) (Nat.add_assoc _ _ _))⟩))))
                      go_meet
                      case rel => exact ⟨_, (true), sr, H', ⟨by have := HJ3.out; first | omega | exact Nat.le_refl _⟩, ⟨blk_later BK161.out⟩, ⟨below_later HB.out⟩⟩
                  · rw [if_neg c16] at H
                    have c16b0 : decide (0 < a1) = false := decide_eq_false c16
                    clear c16
                    replace H := bnd H
                    obtain ⟨t164, A22, H⟩ := H
                    have H' := Aside0.mk H
                    clear H
                    obtain ⟨hcz23_0, hcz23_1, hcz23_2, hcz23_3, hfz23_0, hfz23_1, hfz23_2, hfz23_3⟩ := cl4 BK161
                    go_wp2_with (first | (go_at_call 14; (with_reducible refine (spec_l1In.calls ((rd_T61 l0 a1).f2) 0 2 t164 _ A22.out).mono ?_); rintro e w' ⟨rfl, ⟨nd, rfl⟩⟩; (try first | exact ⟨rfl, _, World.drewN_drewN _ _ _⟩ | exact ⟨rfl, _, Eq.trans (World.drewN_drewN _ _ _) (congrArg (World.drewN _) (Nat.add_assoc _ _ _))⟩)))
                    repeat (go_quiet (first | (go_at_call 14; (with_reducible refine (spec_l1In.calls ((rd_T61 l0 a1).f2) 0 2 t164 _ A22.out).mono ?_); rintro e w' ⟨rfl, ⟨nd, rfl⟩⟩; (try first | exact ⟨rfl, _, World.drewN_drewN _ _ _⟩ | exact ⟨rfl, _, Eq.trans (World.drewN_drewN _ _ _) (congrArg (World.drewN _) (Nat.add_assoc _ _ _))⟩))); try go_wp2_with (first | (go_at_call 14; (with_reducible refine (spec_l1In.calls ((rd_T61 l0 a1).f2) 0 2 t164 _ A22.out).mono ?_); rintro e w' ⟨rfl, ⟨nd, rfl⟩⟩; (try first | exact ⟨rfl, _, World.drewN_drewN _ _ _⟩ | exact ⟨rfl, _, Eq.trans (World.drewN_drewN _ _ _) (congrArg (World.drewN _) (Nat.add_assoc _ _ _))⟩))))
                    go_meet
                    case rel => exact ⟨_, (!t164), sr, H', ⟨by have := HJ3.out; first | omega | exact Nat.le_refl _⟩, ⟨blk_later BK161.out⟩, ⟨below_later HB.out⟩⟩
                · rw [if_neg c15] at H
                  have c15b0 : (((rd_T61 l0 a1).f1) == 7) = false := beq_eq_false_iff_ne.mpr c15
                  have c15b1 : (((rd_T61 l0 a1).f1) != 7) = true := bne_iff_ne.mpr c15
                  have H' := Aside0.mk H
                  clear H
                  obtain ⟨hcz24_0, hcz24_1, hcz24_2, hcz24_3, hfz24_0, hfz24_1, hfz24_2, hfz24_3⟩ := cl4 BK161
                  go_wp2
                  repeat (go_quiet (fail); try go_wp2)
                  go_meet
                  case rel => exact ⟨_, (true), sr, H', ⟨by have := HJ3.out; first | omega | exact Nat.le_refl _⟩, ⟨blk_later BK161.out⟩, ⟨below_later HB.out⟩⟩
              · rw [if_neg c14] at H
                have c14b0 : (((rd_T61 l0 a1).f2) == 0) = false := beq_eq_false_iff_ne.mpr c14
                have c14b1 : (((rd_T61 l0 a1).f2) != 0) = true := bne_iff_ne.mpr c14
                have H' := Aside0.mk H
                clear H
                obtain ⟨hcz25_0, hcz25_1, hcz25_2, hcz25_3, hfz25_0, hfz25_1, hfz25_2, hfz25_3⟩ := cl4 BK161
                go_wp2
                repeat (go_quiet (fail); try go_wp2)
                go_meet
                case rel => exact ⟨_, (true), sr, H', ⟨by have := HJ3.out; first | omega | exact Nat.le_refl _⟩, ⟨blk_later BK161.out⟩, ⟨below_later HB.out⟩⟩
            · rw [if_neg c13] at H
              have c13b0 : (((rd_T61 l0 a1).f0).toList == ([] : List UInt8)) = false := beq_eq_false_iff_ne.mpr c13
              try have c13b7 : ((rd_T61 l0 a1).f0).toList.isEmpty = false := by simpa using c13
              have c13b1 : (((rd_T61 l0 a1).f0).toList != ([] : List UInt8)) = true := bne_iff_ne.mpr c13
              have H' := Aside0.mk H
              clear H
              obtain ⟨hcz26_0, hcz26_1, hcz26_2, hcz26_3, hfz26_0, hfz26_1, hfz26_2, hfz26_3⟩ := cl4 BK161
              go_wp2
              repeat (go_quiet (fail); try go_wp2)
              go_meet
              case rel => exact ⟨_, (true), sr, H', ⟨by have := HJ3.out; first | omega | exact Nat.le_refl _⟩, ⟨blk_later BK161.out⟩, ⟨below_later HB.out⟩⟩
          · rw [if_neg c12] at H
            have c12b0 : (a1 == 0) = false := beq_eq_false_iff_ne.mpr c12
            have c12b1 : (a1 != 0) = true := bne_iff_ne.mpr c12
            (first | rw [c12b0] | rw [c12b1] | (simp only [i64_w, i32_w]; rw [c12b0]) | skip)
            by_cases c27 : a1 > 0
            · rw [if_pos c27] at H
              have c27b0 : decide (0 < a1) = true := decide_eq_true c27
              clear c27
              replace H := bnd H
              obtain ⟨t165, A28, H⟩ := H
              by_cases c29 : t165 = true
              · subst c29
                replace H := ifp rfl H
                replace H := bnd H
                obtain ⟨t166, A30, H⟩ := H
                have H' := Aside0.mk H
                clear H
                obtain ⟨hcz31_0, hcz31_1, hcz31_2, hcz31_3, hfz31_0, hfz31_1, hfz31_2, hfz31_3⟩ := cl4 BK161
                go_wp2_with (first | (go_at_call 37; (with_reducible refine (spec_l5Name.calls kj3 ((rd_T61 l0 a1).f0) true _ A28.out).mono ?_); rintro e w' ⟨rfl, ⟨nd, rfl⟩⟩; (try first | exact ⟨rfl, _, World.drewN_drewN _ _ _⟩ | exact ⟨rfl, _, Eq.trans (World.drewN_drewN _ _ _) (congrArg (World.drewN _) (Nat.add_assoc _ _ _))⟩)) | (go_at_call 14; (with_reducible refine (spec_l1In.calls ((rd_T61 l0 a1).f2) 0 2 t166 _ A30.out).mono ?_); rintro e w' ⟨rfl, ⟨nd, rfl⟩⟩; (try first | exact ⟨rfl, _, World.drewN_drewN _ _ _⟩ | exact ⟨rfl, _, Eq.trans (World.drewN_drewN _ _ _) (congrArg (World.drewN _) (Nat.add_assoc _ _ _))⟩)))
                repeat (go_quiet (first | (go_at_call 37; (with_reducible refine (spec_l5Name.calls kj3 ((rd_T61 l0 a1).f0) true _ A28.out).mono ?_); rintro e w' ⟨rfl, ⟨nd, rfl⟩⟩; (try first | exact ⟨rfl, _, World.drewN_drewN _ _ _⟩ | exact ⟨rfl, _, Eq.trans (World.drewN_drewN _ _ _) (congrArg (World.drewN _) (Nat.add_assoc _ _ _))⟩)) | (go_at_call 14; (with_reducible refine (spec_l1In.calls ((rd_T61 l0 a1).f2) 0 2 t166 _ A30.out).mono ?_); rintro e w' ⟨rfl, ⟨nd, rfl⟩⟩; (try first | exact ⟨rfl, _, World.drewN_drewN _ _ _⟩ | exact ⟨rfl, _, Eq.trans (World.drewN_drewN _ _ _) (congrArg (World.drewN _) (Nat.add_assoc _ _ _))⟩))); try go_wp2_with (first | (go_at_call 37; (with_reducible refine (spec_l5Name.calls kj3 ((rd_T61 l0 a1).f0) true _ A28.out).mono ?_); rintro e w' ⟨rfl, ⟨nd, rfl⟩⟩; (try first | exact ⟨rfl, _, World.drewN_drewN _ _ _⟩ | exact ⟨rfl, _, Eq.trans (World.drewN_drewN _ _ _) (congrArg (World.drewN _) (Nat.add_assoc _ _ _))⟩)) | (go_at_call 14; (with_reducible refine (spec_l1In.calls ((rd_T61 l0 a1).f2) 0 2 t166 _ A30.out).mono ?_); rintro e w' ⟨rfl, ⟨nd, rfl⟩⟩; (try first | exact ⟨rfl, _, World.drewN_drewN _ _ _⟩ | exact ⟨rfl, _, Eq.trans (World.drewN_drewN _ _ _) (congrArg (World.drewN _) (Nat.add_assoc _ _ _))⟩))))
                go_meet
                case rel => exact ⟨_, (!t166), sr, H', ⟨by have := HJ3.out; first | omega | exact Nat.le_refl _⟩, ⟨blk_later BK161.out⟩, ⟨below_later HB.out⟩⟩
              · replace c29 := Bool.eq_false_iff.mpr c29
                subst c29
                replace H := ifn Bool.false_ne_true H
                have H' := Aside0.mk H
                clear H
                obtain ⟨hcz32_0, hcz32_1, hcz32_2, hcz32_3, hfz32_0, hfz32_1, hfz32_2, hfz32_3⟩ := cl4 BK161
                go_wp2_with (first | (go_at_call 37; (with_reducible refine (spec_l5Name.calls kj3 ((rd_T61 l0 a1).f0) false _ A28.out).mono ?_); rintro e w' ⟨rfl, ⟨nd, rfl⟩⟩; (try first | exact ⟨rfl, _, World.drewN_drewN _ _ _⟩ | exact ⟨rfl, _, Eq.trans (World.drewN_drewN _ _ _) (congrArg (World.drewN _) (Nat.add_assoc _ _ _))⟩)))
                repeat (go_quiet (first | (go_at_call 37; (with_reducible refine (spec_l5Name.calls kj3 ((rd_T61 l0 a1).f0) false _ A28.out).mono ?_); rintro e w' ⟨rfl, ⟨nd, rfl⟩⟩; (try first | exact ⟨rfl, _, World.drewN_drewN _ _ _⟩ | exact ⟨rfl, _, Eq.trans (World.drewN_drewN _ _ _) (congrArg (World.drewN _) (Nat.add_assoc _ _ _))⟩))); try go_wp2_with (first | (go_at_call 37; (with_reducible refine (spec_l5Name.calls kj3 ((rd_T61 l0 a1).f0) false _ A28.out).mono ?_); rintro e w' ⟨rfl, ⟨nd, rfl⟩⟩; (try first | exact ⟨rfl, _, World.drewN_drewN _ _ _⟩ | exact ⟨rfl, _, Eq.trans (World.drewN_drewN _ _ _) (congrArg (World.drewN _) (Nat.add_assoc _ _ _))⟩))))
                go_meet
                case rel => exact ⟨_, (true), sr, H', ⟨by have := HJ3.out; first | omega | exact Nat.le_refl _⟩, ⟨blk_later BK161.out⟩, ⟨below_later HB.out⟩⟩
            · rw [if_neg c27] at H
              have c27b0 : decide (0 < a1) = false := decide_eq_false c27
              clear c27
              replace H := bnd H
              obtain ⟨t167, A33, H⟩ := H
              have H' := Aside0.mk H
              clear H
              obtain ⟨hcz34_0, hcz34_1, hcz34_2, hcz34_3, hfz34_0, hfz34_1, hfz34_2, hfz34_3⟩ := cl4 BK161
              go_wp2_with (first | (go_at_call 14; (with_reducible refine (spec_l1In.calls ((rd_T61 l0 a1).f2) 0 2 t167 _ A33.out).mono ?_); rintro e w' ⟨rfl, ⟨nd, rfl⟩⟩; (try first | exact ⟨rfl, _, World.drewN_drewN _ _ _⟩ | exact ⟨rfl, _, Eq.trans (World.drewN_drewN _ _ _) (congrArg (World.drewN _) (Nat.add_assoc _ _ _))⟩)))
              repeat (go_quiet (first | (go_at_call 14; (with_reducible refine (spec_l1In.calls ((rd_T61 l0 a1).f2) 0 2 t167 _ A33.out).mono ?_); rintro e w' ⟨rfl, ⟨nd, rfl⟩⟩; (try first | exact ⟨rfl, _, World.drewN_drewN _ _ _⟩ | exact ⟨rfl, _, Eq.trans (World.drewN_drewN _ _ _) (congrArg (World.drewN _) (Nat.add_assoc _ _ _))⟩))); try go_wp2_with (first | (go_at_call 14; (with_reducible refine (spec_l1In.calls ((rd_T61 l0 a1).f2) 0 2 t167 _ A33.out).mono ?_); rintro e w' ⟨rfl, ⟨nd, rfl⟩⟩; (try first | exact ⟨rfl, _, World.drewN_drewN _ _ _⟩ | exact ⟨rfl, _, Eq.trans (World.drewN_drewN _ _ _) (congrArg (World.drewN _) (Nat.add_assoc _ _ _))⟩))))
              go_meet
              case rel => exact ⟨_, (!t167), sr, H', ⟨by have := HJ3.out; first | omega | exact Nat.le_refl _⟩, ⟨blk_later BK161.out⟩, ⟨below_later HB.out⟩⟩
        case rest =>
          clear HC9
          try clear c6
          try clear c7b0
          try clear c8b0
          try clear hcz11_0
          try clear hcz11_1
          try clear hcz11_2
          try clear hcz11_3
          try clear hfz11_0
          try clear hfz11_1
          try clear hfz11_2
          try clear hfz11_3
          try clear hx160_0
          try clear hx160_1
          try clear hx160_2
          try clear hx160_3
          try clear p160
          try clear q160
          obtain ⟨kq, x56_8, rfl, HA, HJ8, BK161, HB⟩ := hcut
          cases kq with
          | zero => exact absurd HA.out (by simp [spec_l5Check.j1])
          | succ kj8 =>
            have H := HA.out
            clear HA
            simp only [spec_l5Check.j1] at H
            by_cases c35 : x56_8 = true
            · subst c35
              replace H := ifp rfl H
              obtain rfl := Option.some.inj H
              go_wp2
              repeat (go_quiet (fail); try go_wp2)
              go_ret
              exact fin_ (below_later HB.out)
            · replace c35 := Bool.eq_false_iff.mpr c35
              subst c35
              replace H := ifn Bool.false_ne_true H
              by_cases c36 : ((rd_T61 l0 a1).f1) = 7
              · rw [if_pos c36] at H
                have c36b0 : (((rd_T61 l0 a1).f1) == 7) = true := beq_iff_eq.mpr c36
                have c36b1 : (((rd_T61 l0 a1).f1) != 7) = false := bne_eq_false_iff_eq.mpr c36
                clear c36
                by_cases c37 : ((rd_T61 l0 a1).f3) < 1
                · rw [if_pos c37] at H
                  have c37b0 := decide_eq_true c37
                  clear c37
                  obtain rfl := Option.some.inj H
                  obtain ⟨hcz38_0, hcz38_1, hcz38_2, hcz38_3, hfz38_0, hfz38_1, hfz38_2, hfz38_3⟩ := cl4 BK161
                  go_wp2
                  repeat (go_quiet (fail); try go_wp2)
                  go_ret
                  exact fin_ (below_later HB.out)
                · rw [if_neg c37] at H
                  have c37b0 := decide_eq_false c37
                  clear c37
                  obtain ⟨y169, hy169⟩ : ∃ y_ : List ByteArray, y_ = (([] : List ByteArray)) := ⟨_, rfl⟩
                  replace H : (spec_l5Check.l0 kj8 l0 a2 (wrap64 (a1 + 1)) y169 0 ((rd_T61 l0 a1).f0) ((rd_T61 l0 a1).f1) ((rd_T61 l0 a1).f2) ((rd_T61 l0 a1).f3)) = some r := by first | (rw [hy169]; with_reducible exact H) | (rw [hy169]; exact H) | exact H
                  have Ny169 := Aside0.mk hy169
                  clear hy169
                  have H' := Aside0.mk H
                  clear H
                  obtain ⟨hcz39_0, hcz39_1, hcz39_2, hcz39_3, hfz39_0, hfz39_1, hfz39_2, hfz39_3⟩ := cl4 BK161
                  go_wp2_with (first | ((with_reducible refine gate_dst (N := 76) rfl ?_); refine Kd.R_lit Kd.string _ 9 ?hg (N := 76) ?hd (xs := ([] : List ByteArray)) (inner := []) (ok := fun _ => True) (okp := fun _ => True) ?hr ?hp (fun _ hk => hk) trivial (Below.refl _ _) (Nat.le_refl _) (by simp) ?_; (case hd => rfl); (case hg => rfl); (case hr => first | (go_simp; done) | (go_simp; rfl)); (case hp => exact (Reps.none _ _)); intro v170 w40 ho41 hb hg_ hnew_; clear hg_ hnew_; (first | rw [← Ny169.out] at ho41 | (simp only [Int.reduceToNat] at ho41; rw [← Ny169.out] at ho41)); have HO171 := Aside0.mk (Kd.R_lower ho41 (below_size (below_later HB.out))); replace BK161 := bkb BK161 hb; replace HB := bst HB hb; clear hb ho41))
                  repeat (go_quiet (fail); try go_wp2_with (first | ((with_reducible refine gate_dst (N := 76) rfl ?_); refine Kd.R_lit Kd.string _ 9 ?hg (N := 76) ?hd (xs := ([] : List ByteArray)) (inner := []) (ok := fun _ => True) (okp := fun _ => True) ?hr ?hp (fun _ hk => hk) trivial (Below.refl _ _) (Nat.le_refl _) (by simp) ?_; (case hd => rfl); (case hg => rfl); (case hr => first | (go_simp; done) | (go_simp; rfl)); (case hp => exact (Reps.none _ _)); intro v170 w40 ho41 hb hg_ hnew_; clear hg_ hnew_; (first | rw [← Ny169.out] at ho41 | (simp only [Int.reduceToNat] at ho41; rw [← Ny169.out] at ho41)); have HO171 := Aside0.mk (Kd.R_lower ho41 (below_size (below_later HB.out))); replace BK161 := bkb BK161 hb; replace HB := bst HB hb; clear hb ho41)))
                  go_loopg [8, 9, 10] kj8 (fun kq v8 v9 v10 w' => ∃ (x8_3 : Int) (x9_3 : List ByteArray) (x10_3 : Int), v8 = .int .i64 x8_3 ∧ v10 = .int .i64 x10_3 ∧ Aside0 (spec_l5Check.l0 kq l0 a2 x8_3 x9_3 x10_3 ((rd_T61 l0 a1).f0) ((rd_T61 l0 a1).f1) ((rd_T61 l0 a1).f2) ((rd_T61 l0 a1).f3) = some r) ∧ Aside0 (kq ≤ kj8) ∧ Aside0 (Kd.R Kd.string 9 w' w.heap.size (fun _ => True) v9 x9_3) ∧ Aside0 (w'.heap[gb161]? = some (.cells #[.string ((rd_T61 l0 a1).f0), .int .i64 ((rd_T61 l0 a1).f1), .int .i64 ((rd_T61 l0 a1).f2), .int .i64 ((rd_T61 l0 a1).f3)] 61 (0, 0))) ∧ Aside0 (Below w.heap.size w w'))
                  case atStart => exact ⟨(wrap64 (a1 + 1)), (y169), (0), sr, sr, H', ⟨Nat.le_refl _⟩, ⟨R_later HO171.out⟩, ⟨blk_later BK161.out⟩, ⟨below_later HB.out⟩⟩
                  case round =>
                    clear H'
                    try clear c6
                    try clear c7b0
                    try clear c8b0
                    try clear c35
                    try clear c36
                    try clear c36b0
                    try clear c36b1
                    try clear c37
                    try clear c37b0
                    try clear hcz11_0
                    try clear hcz11_1
                    try clear hcz11_2
                    try clear hcz11_3
                    try clear hcz39_0
                    try clear hcz39_1
                    try clear hcz39_2
                    try clear hcz39_3
                    try clear hfz11_0
                    try clear hfz11_1
                    try clear hfz11_2
                    try clear hfz11_3
                    try clear hfz39_0
                    try clear hfz39_1
                    try clear hfz39_2
                    try clear hfz39_3
                    try clear hx160_0
                    try clear hx160_1
                    try clear hx160_2
                    try clear hx160_3
                    try clear p160
                    try clear q160
                    obtain ⟨x8_3, x9_3, x10_3, rfl, rfl, HA, HK3, HO_9, BK161, HB⟩ := hrel
                    cases gk with
                    | zero => exact absurd HA.out (by simp [spec_l5Check.l0])
                    | succ k3 =>
                      have H := HA.out
                      clear HA
                      simp only [spec_l5Check.l0] at H
                      by_cases c42 : x10_3 < ((rd_T61 l0 a1).f3)
                      · rw [if_pos c42] at H
                        have c42b0 := decide_eq_true c42
                        clear c42
                        by_cases c43 : x8_3 ≥ (l0.length : Int)
                        · rw [if_pos c43] at H
                          have c43b0 : decide ((l0.length : Int) ≤ x8_3) = true := decide_eq_true c43
                          clear c43
                          obtain rfl := Option.some.inj H
                          obtain ⟨hcz44_0, hcz44_1, hcz44_2, hcz44_3, hfz44_0, hfz44_1, hfz44_2, hfz44_3⟩ := cl4 BK161
                          go_wp2
                          repeat (go_quiet (fail); try go_wp2)
                          go_ret
                          exact fin_ (below_later HB.out)
                        · rw [if_neg c43] at H
                          have c43b0 : decide ((l0.length : Int) ≤ x8_3) = false := decide_eq_false c43
                          clear c43
                          have H' := Aside0.mk H
                          clear H
                          obtain ⟨hcz45_0, hcz45_1, hcz45_2, hcz45_3, hfz45_0, hfz45_1, hfz45_2, hfz45_3⟩ := cl4 BK161
                          go_wp2
                          repeat (go_quiet (fail); try go_wp2)
                          go_loopg [11] k3 (fun kq v11 w' => ∃ (x11_4 : Int), v11 = .int .i64 x11_4 ∧ Aside0 (spec_l5Check.l1 kq l0 a2 x8_3 x9_3 x10_3 x11_4 ((rd_T61 l0 a1).f0) ((rd_T61 l0 a1).f1) ((rd_T61 l0 a1).f2) ((rd_T61 l0 a1).f3) = some r) ∧ Aside0 (kq ≤ k3) ∧ Aside0 (Kd.R Kd.string 9 w' w.heap.size (fun _ => True) u9 x9_3) ∧ Aside0 (w'.heap[gb161]? = some (.cells #[.string ((rd_T61 l0 a1).f0), .int .i64 ((rd_T61 l0 a1).f1), .int .i64 ((rd_T61 l0 a1).f2), .int .i64 ((rd_T61 l0 a1).f3)] 61 (0, 0))) ∧ Aside0 (Below w.heap.size w w'))
                          case atStart => exact ⟨(0), sr, H', ⟨Nat.le_refl _⟩, ⟨R_later HO_9.out⟩, ⟨blk_later BK161.out⟩, ⟨below_later HB.out⟩⟩
                          case round =>
                            clear H'
                            try clear c6
                            try clear c7b0
                            try clear c8b0
                            try clear c35
                            try clear c36
                            try clear c36b0
                            try clear c36b1
                            try clear c37
                            try clear c37b0
                            try clear c42
                            try clear c42b0
                            try clear c43
                            try clear c43b0
                            try clear hcz11_0
                            try clear hcz11_1
                            try clear hcz11_2
                            try clear hcz11_3
                            try clear hcz39_0
                            try clear hcz39_1
                            try clear hcz39_2
                            try clear hcz39_3
                            try clear hcz45_0
                            try clear hcz45_1
                            try clear hcz45_2
                            try clear hcz45_3
                            try clear hfz11_0
                            try clear hfz11_1
                            try clear hfz11_2
                            try clear hfz11_3
                            try clear hfz39_0
                            try clear hfz39_1
                            try clear hfz39_2
                            try clear hfz39_3
                            try clear hfz45_0
                            try clear hfz45_1
                            try clear hfz45_2
                            try clear hfz45_3
                            try clear hx160_0
                            try clear hx160_1
                            try clear hx160_2
                            try clear hx160_3
                            try clear p160
                            try clear q160
                            obtain ⟨x11_4, rfl, HA, HK4, HO_9, BK161, HB⟩ := hrel
                            cases gk with
                            | zero => exact absurd HA.out (by simp [spec_l5Check.l1])
                            | succ k4 =>
                              have H := HA.out
                              clear HA
                              simp only [spec_l5Check.l1] at H
                              by_cases c46 : x11_4 < (x9_3.length : Int)
                              · rw [if_pos c46] at H
                                have c46b0 := decide_eq_true c46
                                clear c46
                                replace H := ifd H
                                obtain ⟨c47b0, H⟩ := H
                                replace H := ifd H
                                obtain ⟨c48b0, H⟩ := H
                                replace H := ifd H
                                obtain ⟨c49b0, H⟩ := H
                                by_cases c50 : (rdOf ByteArray.empty x9_3 x11_4).toList = ((rd_T61 l0 x8_3).f0).toList
                                · rw [if_pos c50] at H
                                  have c50b0 : ((rdOf ByteArray.empty x9_3 x11_4).toList == ((rd_T61 l0 x8_3).f0).toList) = true := beq_iff_eq.mpr c50
                                  have c50b1 : ((rdOf ByteArray.empty x9_3 x11_4).toList != ((rd_T61 l0 x8_3).f0).toList) = false := bne_eq_false_iff_eq.mpr c50
                                  clear c50
                                  obtain rfl := Option.some.inj H
                                  obtain ⟨Ao51, co51, eo51⟩ := Kd.R_slice HO_9.out
                                  subst eo51
                                  have p172 : 0 ≤ (x11_4 : Int) := dcd
                                  have q172 : x11_4 < (x9_3.length : Int) := dcd
                                  obtain ⟨ad172, e172, hx172_0⟩ := Kd.at_string (Kd.R_reads' HO_9.out).2.2 x11_4 p172 q172
                                  cases e172
                                  replace p172 := eq_true p172
                                  replace q172 := eq_true q172
                                  have p173 : 0 ≤ (x8_3 : Int) := dcd
                                  have q173 : x8_3 < (l0.length : Int) := dcd
                                  obtain ⟨ad173, e173, hx173_0, hx173_1, hx173_2, hx173_3⟩ := at_T61 HR0.out x8_3 p173 q173
                                  obtain rfl : ad160 = ad173 := (by injection e173)
                                  replace hx173_0 := crd HB hx173_0
                                  replace hx173_1 := crd HB hx173_1
                                  replace hx173_2 := crd HB hx173_2
                                  replace hx173_3 := crd HB hx173_3
                                  replace p173 := eq_true p173
                                  replace q173 := eq_true q173
                                  go_wp2
                                  repeat (go_quiet (fail); try go_wp2)
                                  go_ret
                                  exact fin_ (below_later HB.out)
                                · rw [if_neg c50] at H
                                  have c50b0 : ((rdOf ByteArray.empty x9_3 x11_4).toList == ((rd_T61 l0 x8_3).f0).toList) = false := beq_eq_false_iff_ne.mpr c50
                                  have c50b1 : ((rdOf ByteArray.empty x9_3 x11_4).toList != ((rd_T61 l0 x8_3).f0).toList) = true := bne_iff_ne.mpr c50
                                  have H' := Aside0.mk H
                                  clear H
                                  obtain ⟨Ao52, co52, eo52⟩ := Kd.R_slice HO_9.out
                                  subst eo52
                                  have p172 : 0 ≤ (x11_4 : Int) := dcd
                                  have q172 : x11_4 < (x9_3.length : Int) := dcd
                                  obtain ⟨ad172, e172, hx172_0⟩ := Kd.at_string (Kd.R_reads' HO_9.out).2.2 x11_4 p172 q172
                                  cases e172
                                  replace p172 := eq_true p172
                                  replace q172 := eq_true q172
                                  have p173 : 0 ≤ (x8_3 : Int) := dcd
                                  have q173 : x8_3 < (l0.length : Int) := dcd
                                  obtain ⟨ad173, e173, hx173_0, hx173_1, hx173_2, hx173_3⟩ := at_T61 HR0.out x8_3 p173 q173
                                  obtain rfl : ad160 = ad173 := (by injection e173)
                                  replace hx173_0 := crd HB hx173_0
                                  replace hx173_1 := crd HB hx173_1
                                  replace hx173_2 := crd HB hx173_2
                                  replace hx173_3 := crd HB hx173_3
                                  replace p173 := eq_true p173
                                  replace q173 := eq_true q173
                                  go_wp2
                                  repeat (go_quiet (fail); try go_wp2)
                                  go_roundg k4
                                  case measure => have := HJ3.out; have := HJ8.out; have := HK3.out; have := HK4.out; omega
                                  case rel => exact ⟨(wrap64 (x11_4 + 1)), sr, H', ⟨by have := HJ3.out; have := HJ8.out; have := HK3.out; have := HK4.out; omega⟩, ⟨R_later HO_9.out⟩, ⟨blk_later BK161.out⟩, ⟨below_later HB.out⟩⟩
                              · rw [if_neg c46] at H
                                have c46b0 := decide_eq_false c46
                                clear c46
                                replace H := ifd H
                                obtain ⟨c53b0, H⟩ := H
                                replace H := ifd H
                                obtain ⟨c54b0, H⟩ := H
                                replace H := ifs H
                                obtain ⟨c55, H⟩ := H
                                have LMc55 := Aside0.mk c55
                                clear c55
                                obtain ⟨y175, hy175⟩ : ∃ y_ : List ByteArray, y_ = (x9_3 ++ [(rd_T61 l0 x8_3).f0]) := ⟨_, rfl⟩
                                replace H : ((spec_l5Check.f k4 l0 x8_3 (wrap64 (a2 + 1))).bind fun t178 => (if t178 < 0 then (some (-1)) else (spec_l5Check.l0 k4 l0 a2 t178 y175 (wrap64 (x10_3 + 1)) ((rd_T61 l0 a1).f0) ((rd_T61 l0 a1).f1) ((rd_T61 l0 a1).f2) ((rd_T61 l0 a1).f3)))) = some r := by first | (rw [hy175]; with_reducible exact H) | (rw [hy175]; exact H) | exact H
                                have Ny175 := Aside0.mk hy175
                                clear hy175
                                replace H := bnd H
                                obtain ⟨t178, A56, H⟩ := H
                                by_cases c57 : t178 < 0
                                · rw [if_pos c57] at H
                                  have c57b0 := decide_eq_true c57
                                  clear c57
                                  obtain rfl := Option.some.inj H
                                  obtain ⟨Ao58, co58, eo58⟩ := Kd.R_slice HO_9.out
                                  subst eo58
                                  have p174 : 0 ≤ (x8_3 : Int) := dcd
                                  have q174 : x8_3 < (l0.length : Int) := dcd
                                  obtain ⟨ad174, e174, hx174_0, hx174_1, hx174_2, hx174_3⟩ := at_T61 HR0.out x8_3 p174 q174
                                  obtain rfl : ad160 = ad174 := (by injection e174)
                                  replace hx174_0 := crd HB hx174_0
                                  replace hx174_1 := crd HB hx174_1
                                  replace hx174_2 := crd HB hx174_2
                                  replace hx174_3 := crd HB hx174_3
                                  replace p174 := eq_true p174
                                  replace q174 := eq_true q174
                                  go_wp2_with (first | ((with_reducible refine gate_builtin (b := .append) (xs := #[.tmp 103, .tmp 109]) rfl ?_); at_builtin; refine Kd.R_append Kd.string (w0 := w) w.heap.size rfl (.tmp 103) (.tmp 109) 85 9 (.string ⟨#[]⟩) 16 rfl Try.underlying85 info9 rfl (by decide) (by omega) (.slice Ao58 x9_3.length co58) x9_3 ((rd_T61 l0 x8_3).f0) [.string ((rd_T61 l0 x8_3).f0)] (fun _ => True) (fun _ => False) rfl rfl ?aP (fun _ hk => hk.elim) ?aF ?aO ?aB ?aS ?aL ?_; (case aP => exact rfl); (case aB => exact (below_later HB.out)); (case aF => exact (fun _ _ => trivial)); (case aO => exact (R_later HO_9.out)); (case aS => exact (below_size (below_later HB.out))); (case aL => have := LMc55.out; omega); intro v176 w59 ho hb hg hat; rw [← Ny175.out] at ho; have n0_ := Aside0.mk (blk_grown (blk_later BK161.out) hg (Kd.R_ne HO_9.out BK161.out (by decide))); have n1_ := Aside0.mk (hb); have n2_ := Aside0.mk (ho); clear BK161; clear HB; clear HO_9; have BK161 := n0_; have HB := n1_; have HO177 := n2_; clear n0_ n1_ n2_; clear ho hb hg hat) | (go_at_call 29; (with_reducible refine (ih k4 (by have := HJ3.out; have := HJ8.out; have := HK3.out; have := HK4.out; omega) _ _ l0 x8_3 (wrap64 (a2 + 1)) t178 _ ?side1 ?side2 A56.out).mono ?_); (case side1 => repeat (first | exact (Kd.C_below HR0.out HB.out) | (with_reducible refine Kd.C_alloc ?_ _) | (with_reducible refine Kd.C_drewN ?_ _) | (with_reducible refine Kd.C_drew ?_))); (case side2 => exact HC0.out); rintro e w60 ⟨rfl, hb⟩; replace HO177 := Aside0.mk (Kd.R_below (R_later HO177.out) hb); replace BK161 := bkb BK161 hb; replace HB := bst HB hb; (try clear hb); (try clear hk)))
                                  repeat (go_quiet (fail); try go_wp2_with (first | ((with_reducible refine gate_builtin (b := .append) (xs := #[.tmp 103, .tmp 109]) rfl ?_); at_builtin; refine Kd.R_append Kd.string (w0 := w) w.heap.size rfl (.tmp 103) (.tmp 109) 85 9 (.string ⟨#[]⟩) 16 rfl Try.underlying85 info9 rfl (by decide) (by omega) (.slice Ao58 x9_3.length co58) x9_3 ((rd_T61 l0 x8_3).f0) [.string ((rd_T61 l0 x8_3).f0)] (fun _ => True) (fun _ => False) rfl rfl ?aP (fun _ hk => hk.elim) ?aF ?aO ?aB ?aS ?aL ?_; (case aP => exact rfl); (case aB => exact (below_later HB.out)); (case aF => exact (fun _ _ => trivial)); (case aO => exact (R_later HO_9.out)); (case aS => exact (below_size (below_later HB.out))); (case aL => have := LMc55.out; omega); intro v176 w59 ho hb hg hat; rw [← Ny175.out] at ho; have n0_ := Aside0.mk (blk_grown (blk_later BK161.out) hg (Kd.R_ne HO_9.out BK161.out (by decide))); have n1_ := Aside0.mk (hb); have n2_ := Aside0.mk (ho); clear BK161; clear HB; clear HO_9; have BK161 := n0_; have HB := n1_; have HO177 := n2_; clear n0_ n1_ n2_; clear ho hb hg hat) | (go_at_call 29; (with_reducible refine (ih k4 (by have := HJ3.out; have := HJ8.out; have := HK3.out; have := HK4.out; omega) _ _ l0 x8_3 (wrap64 (a2 + 1)) t178 _ ?side1 ?side2 A56.out).mono ?_); (case side1 => repeat (first | exact (Kd.C_below HR0.out HB.out) | (with_reducible refine Kd.C_alloc ?_ _) | (with_reducible refine Kd.C_drewN ?_ _) | (with_reducible refine Kd.C_drew ?_))); (case side2 => exact HC0.out); rintro e w60 ⟨rfl, hb⟩; replace HO177 := Aside0.mk (Kd.R_below (R_later HO177.out) hb); replace BK161 := bkb BK161 hb; replace HB := bst HB hb; (try clear hb); (try clear hk))))
                                  go_ret
                                  exact fin_ (below_later HB.out)
                                · rw [if_neg c57] at H
                                  have c57b0 := decide_eq_false c57
                                  clear c57
                                  have H' := Aside0.mk H
                                  clear H
                                  obtain ⟨Ao61, co61, eo61⟩ := Kd.R_slice HO_9.out
                                  subst eo61
                                  have p174 : 0 ≤ (x8_3 : Int) := dcd
                                  have q174 : x8_3 < (l0.length : Int) := dcd
                                  obtain ⟨ad174, e174, hx174_0, hx174_1, hx174_2, hx174_3⟩ := at_T61 HR0.out x8_3 p174 q174
                                  obtain rfl : ad160 = ad174 := (by injection e174)
                                  replace hx174_0 := crd HB hx174_0
                                  replace hx174_1 := crd HB hx174_1
                                  replace hx174_2 := crd HB hx174_2
                                  replace hx174_3 := crd HB hx174_3
                                  replace p174 := eq_true p174
                                  replace q174 := eq_true q174
                                  go_wp2_with (first | ((with_reducible refine gate_builtin (b := .append) (xs := #[.tmp 103, .tmp 109]) rfl ?_); at_builtin; refine Kd.R_append Kd.string (w0 := w) w.heap.size rfl (.tmp 103) (.tmp 109) 85 9 (.string ⟨#[]⟩) 16 rfl Try.underlying85 info9 rfl (by decide) (by omega) (.slice Ao61 x9_3.length co61) x9_3 ((rd_T61 l0 x8_3).f0) [.string ((rd_T61 l0 x8_3).f0)] (fun _ => True) (fun _ => False) rfl rfl ?aP (fun _ hk => hk.elim) ?aF ?aO ?aB ?aS ?aL ?_; (case aP => exact rfl); (case aB => exact (below_later HB.out)); (case aF => exact (fun _ _ => trivial)); (case aO => exact (R_later HO_9.out)); (case aS => exact (below_size (below_later HB.out))); (case aL => have := LMc55.out; omega); intro v176 w62 ho hb hg hat; rw [← Ny175.out] at ho; have n0_ := Aside0.mk (blk_grown (blk_later BK161.out) hg (Kd.R_ne HO_9.out BK161.out (by decide))); have n1_ := Aside0.mk (hb); have n2_ := Aside0.mk (ho); clear BK161; clear HB; clear HO_9; have BK161 := n0_; have HB := n1_; have HO177 := n2_; clear n0_ n1_ n2_; clear ho hb hg hat) | (go_at_call 29; (with_reducible refine (ih k4 (by have := HJ3.out; have := HJ8.out; have := HK3.out; have := HK4.out; omega) _ _ l0 x8_3 (wrap64 (a2 + 1)) t178 _ ?side1 ?side2 A56.out).mono ?_); (case side1 => repeat (first | exact (Kd.C_below HR0.out HB.out) | (with_reducible refine Kd.C_alloc ?_ _) | (with_reducible refine Kd.C_drewN ?_ _) | (with_reducible refine Kd.C_drew ?_))); (case side2 => exact HC0.out); rintro e w63 ⟨rfl, hb⟩; replace HO177 := Aside0.mk (Kd.R_below (R_later HO177.out) hb); replace BK161 := bkb BK161 hb; replace HB := bst HB hb; (try clear hb); (try clear hk)))
                                  repeat (go_quiet (fail); try go_wp2_with (first | ((with_reducible refine gate_builtin (b := .append) (xs := #[.tmp 103, .tmp 109]) rfl ?_); at_builtin; refine Kd.R_append Kd.string (w0 := w) w.heap.size rfl (.tmp 103) (.tmp 109) 85 9 (.string ⟨#[]⟩) 16 rfl Try.underlying85 info9 rfl (by decide) (by omega) (.slice Ao61 x9_3.length co61) x9_3 ((rd_T61 l0 x8_3).f0) [.string ((rd_T61 l0 x8_3).f0)] (fun _ => True) (fun _ => False) rfl rfl ?aP (fun _ hk => hk.elim) ?aF ?aO ?aB ?aS ?aL ?_; (case aP => exact rfl); (case aB => exact (below_later HB.out)); (case aF => exact (fun _ _ => trivial)); (case aO => exact (R_later HO_9.out)); (case aS => exact (below_size (below_later HB.out))); (case aL => have := LMc55.out; omega); intro v176 w62 ho hb hg hat; rw [← Ny175.out] at ho; have n0_ := Aside0.mk (blk_grown (blk_later BK161.out) hg (Kd.R_ne HO_9.out BK161.out (by decide))); have n1_ := Aside0.mk (hb); have n2_ := Aside0.mk (ho); clear BK161; clear HB; clear HO_9; have BK161 := n0_; have HB := n1_; have HO177 := n2_; clear n0_ n1_ n2_; clear ho hb hg hat) | (go_at_call 29; (with_reducible refine (ih k4 (by have := HJ3.out; have := HJ8.out; have := HK3.out; have := HK4.out; omega) _ _ l0 x8_3 (wrap64 (a2 + 1)) t178 _ ?side1 ?side2 A56.out).mono ?_); (case side1 => repeat (first | exact (Kd.C_below HR0.out HB.out) | (with_reducible refine Kd.C_alloc ?_ _) | (with_reducible refine Kd.C_drewN ?_ _) | (with_reducible refine Kd.C_drew ?_))); (case side2 => exact HC0.out); rintro e w63 ⟨rfl, hb⟩; replace HO177 := Aside0.mk (Kd.R_below (R_later HO177.out) hb); replace BK161 := bkb BK161 hb; replace HB := bst HB hb; (try clear hb); (try clear hk))))
                                  go_roundg k4
                                  case measure => have := HJ3.out; have := HJ8.out; have := HK3.out; have := HK4.out; omega
                                  case rel => exact ⟨(t178), (y175), (wrap64 (x10_3 + 1)), sr, sr, H', ⟨by have := HJ3.out; have := HJ8.out; have := HK3.out; have := HK4.out; omega⟩, ⟨R_later HO177.out⟩, ⟨blk_later BK161.out⟩, ⟨below_later HB.out⟩⟩
                      · rw [if_neg c42] at H
                        have c42b0 := decide_eq_false c42
                        clear c42
                        obtain rfl := Option.some.inj H
                        obtain ⟨hcz64_0, hcz64_1, hcz64_2, hcz64_3, hfz64_0, hfz64_1, hfz64_2, hfz64_3⟩ := cl4 BK161
                        go_wp2
                        repeat (go_quiet (fail); try go_wp2)
                        go_ret
                        exact fin_ (below_later HB.out)
              · rw [if_neg c36] at H
                have c36b0 : (((rd_T61 l0 a1).f1) == 7) = false := beq_eq_false_iff_ne.mpr c36
                have c36b1 : (((rd_T61 l0 a1).f1) != 7) = true := bne_iff_ne.mpr c36
                replace H := bnd H
                obtain ⟨t168, A65, H⟩ := H
                by_cases c66 : t168 = true
                · subst c66
                  replace H := ifp rfl H
                  by_cases c67 : ((rd_T61 l0 a1).f3) = 0
                  · rw [if_pos c67] at H
                    have c67b0 : (((rd_T61 l0 a1).f3) == 0) = true := beq_iff_eq.mpr c67
                    have c67b1 : (((rd_T61 l0 a1).f3) != 0) = false := bne_eq_false_iff_eq.mpr c67
                    clear c67
                    obtain rfl := Option.some.inj H
                    obtain ⟨hcz68_0, hcz68_1, hcz68_2, hcz68_3, hfz68_0, hfz68_1, hfz68_2, hfz68_3⟩ := cl4 BK161
                    go_wp2_with (first | (go_at_call 38; (with_reducible refine (spec_l5Type.calls ((rd_T61 l0 a1).f1) true _ A65.out).mono ?_); rintro e w' ⟨rfl, ⟨nd, rfl⟩⟩; (try first | exact ⟨rfl, _, World.drewN_drewN _ _ _⟩ | exact ⟨rfl, _, Eq.trans (World.drewN_drewN _ _ _) (congrArg (World.drewN _) (Nat.add_assoc _ _ _))⟩)))
                    repeat (go_quiet (first | (go_at_call 38; (with_reducible refine (spec_l5Type.calls ((rd_T61 l0 a1).f1) true _ A65.out).mono ?_); rintro e w' ⟨rfl, ⟨nd, rfl⟩⟩; (try first | exact ⟨rfl, _, World.drewN_drewN _ _ _⟩ | exact ⟨rfl, _, Eq.trans (World.drewN_drewN _ _ _) (congrArg (World.drewN _) (Nat.add_assoc _ _ _))⟩))); try go_wp2_with (first | (go_at_call 38; (with_reducible refine (spec_l5Type.calls ((rd_T61 l0 a1).f1) true _ A65.out).mono ?_); rintro e w' ⟨rfl, ⟨nd, rfl⟩⟩; (try first | exact ⟨rfl, _, World.drewN_drewN _ _ _⟩ | exact ⟨rfl, _, Eq.trans (World.drewN_drewN _ _ _) (congrArg (World.drewN _) (Nat.add_assoc _ _ _))⟩))))
                    go_ret
                    exact fin_ (below_later HB.out)
                  · rw [if_neg c67] at H
                    have c67b0 : (((rd_T61 l0 a1).f3) == 0) = false := beq_eq_false_iff_ne.mpr c67
                    have c67b1 : (((rd_T61 l0 a1).f3) != 0) = true := bne_iff_ne.mpr c67
                    obtain rfl := Option.some.inj H
                    obtain ⟨hcz69_0, hcz69_1, hcz69_2, hcz69_3, hfz69_0, hfz69_1, hfz69_2, hfz69_3⟩ := cl4 BK161
                    go_wp2_with (first | (go_at_call 38; (with_reducible refine (spec_l5Type.calls ((rd_T61 l0 a1).f1) true _ A65.out).mono ?_); rintro e w' ⟨rfl, ⟨nd, rfl⟩⟩; (try first | exact ⟨rfl, _, World.drewN_drewN _ _ _⟩ | exact ⟨rfl, _, Eq.trans (World.drewN_drewN _ _ _) (congrArg (World.drewN _) (Nat.add_assoc _ _ _))⟩)))
                    repeat (go_quiet (first | (go_at_call 38; (with_reducible refine (spec_l5Type.calls ((rd_T61 l0 a1).f1) true _ A65.out).mono ?_); rintro e w' ⟨rfl, ⟨nd, rfl⟩⟩; (try first | exact ⟨rfl, _, World.drewN_drewN _ _ _⟩ | exact ⟨rfl, _, Eq.trans (World.drewN_drewN _ _ _) (congrArg (World.drewN _) (Nat.add_assoc _ _ _))⟩))); try go_wp2_with (first | (go_at_call 38; (with_reducible refine (spec_l5Type.calls ((rd_T61 l0 a1).f1) true _ A65.out).mono ?_); rintro e w' ⟨rfl, ⟨nd, rfl⟩⟩; (try first | exact ⟨rfl, _, World.drewN_drewN _ _ _⟩ | exact ⟨rfl, _, Eq.trans (World.drewN_drewN _ _ _) (congrArg (World.drewN _) (Nat.add_assoc _ _ _))⟩))))
                    go_ret
                    exact fin_ (below_later HB.out)
                · replace c66 := Bool.eq_false_iff.mpr c66
                  subst c66
                  replace H := ifn Bool.false_ne_true H
                  obtain rfl := Option.some.inj H
                  obtain ⟨hcz70_0, hcz70_1, hcz70_2, hcz70_3, hfz70_0, hfz70_1, hfz70_2, hfz70_3⟩ := cl4 BK161
                  go_wp2_with (first | (go_at_call 38; (with_reducible refine (spec_l5Type.calls ((rd_T61 l0 a1).f1) false _ A65.out).mono ?_); rintro e w' ⟨rfl, ⟨nd, rfl⟩⟩; (try first | exact ⟨rfl, _, World.drewN_drewN _ _ _⟩ | exact ⟨rfl, _, Eq.trans (World.drewN_drewN _ _ _) (congrArg (World.drewN _) (Nat.add_assoc _ _ _))⟩)))
                  repeat (go_quiet (first | (go_at_call 38; (with_reducible refine (spec_l5Type.calls ((rd_T61 l0 a1).f1) false _ A65.out).mono ?_); rintro e w' ⟨rfl, ⟨nd, rfl⟩⟩; (try first | exact ⟨rfl, _, World.drewN_drewN _ _ _⟩ | exact ⟨rfl, _, Eq.trans (World.drewN_drewN _ _ _) (congrArg (World.drewN _) (Nat.add_assoc _ _ _))⟩))); try go_wp2_with (first | (go_at_call 38; (with_reducible refine (spec_l5Type.calls ((rd_T61 l0 a1).f1) false _ A65.out).mono ?_); rintro e w' ⟨rfl, ⟨nd, rfl⟩⟩; (try first | exact ⟨rfl, _, World.drewN_drewN _ _ _⟩ | exact ⟨rfl, _, Eq.trans (World.drewN_drewN _ _ _) (congrArg (World.drewN _) (Nat.add_assoc _ _ _))⟩))))
                  go_ret
                  exact fin_ (below_later HB.out)
/-! ### spec_SchemaOk: function 21 -/
def spec_SchemaOk.f (k : Nat) (l0 : List (S61)) : Option (Bool) := (spec_l1In.f (l0.length : Int) 2 20).bind fun t179 => (if t179 = true then ((spec_l5Check.f k l0 0 1).bind fun t180 => (some (t180 == (l0.length : Int)))) else (some false))
set_option maxHeartbeats 8000000 in
set_option maxRecDepth 100000 in
theorem spec_SchemaOk.calls (k : Nat) (A0 : Option Addr) (c0 : Nat) (l0 : List (S61)) (r : Bool) (w : World) (hr0 : Kd.C k61 w A0 l0.length l0) (hc0 : l0.length ≤ c0) (h : spec_SchemaOk.f k l0 = some r) :
    Calls Try.prog 21 #[.slice A0 l0.length c0] w fun e w' => e = .returned (.bool r) ∧ Below w.heap.size w w' := by
  have HR0 := Aside0.mk hr0
  have HC0 := Aside0.mk hc0
  clear hr0 hc0
  have HB := Aside0.mk (Below.refl w.heap.size w)
  have H : ((spec_l1In.f (l0.length : Int) 2 20).bind fun t179 => (if t179 = true then ((spec_l5Check.f k l0 0 1).bind fun t180 => (some (t180 == (l0.length : Int)))) else (some false))) = some r := h
  clear h
  replace H := bnd H
  obtain ⟨t179, A2, H⟩ := H
  by_cases c3 : t179 = true
  · subst c3
    replace H := ifp rfl H
    replace H := bnd H
    obtain ⟨t180, A4, H⟩ := H
    obtain rfl := Option.some.inj H
    go_enter Try.func21, Try.ntmps21
    go_wp2_with (first | ((with_reducible refine gate_callee (f := 14) rfl ?_); refine gl_ (some 5) Try.func14 #[.int .i64 (l0.length : Int), .int .i64 2, .int .i64 20] rfl ?_; (with_reducible refine (spec_l1In.calls (l0.length : Int) 2 20 true _ A2.out).mono ?_); rintro e w' ⟨rfl, ⟨nd, rfl⟩⟩; refine ⟨_, rfl, ?_⟩) | (go_at_call 29; (with_reducible refine (spec_l5Check.calls k _ _ l0 0 1 t180 _ ?side1 ?side2 A4.out).mono ?_); (case side1 => exact C_later HR0.out); (case side2 => exact HC0.out); rintro e w5 ⟨rfl, hb⟩; replace HB := bst HB hb; (try clear hb)))
    go_ret
    exact fin_ (below_later HB.out)
  · replace c3 := Bool.eq_false_iff.mpr c3
    subst c3
    replace H := ifn Bool.false_ne_true H
    obtain rfl := Option.some.inj H
    go_enter Try.func21, Try.ntmps21
    go_wp2_with (first | ((with_reducible refine gate_callee (f := 14) rfl ?_); refine gl_ (some 5) Try.func14 #[.int .i64 (l0.length : Int), .int .i64 2, .int .i64 20] rfl ?_; (with_reducible refine (spec_l1In.calls (l0.length : Int) 2 20 false _ A2.out).mono ?_); rintro e w' ⟨rfl, ⟨nd, rfl⟩⟩; refine ⟨_, rfl, ?_⟩))
    go_ret
    exact fin_ (below_later HB.out)

/-! ### spec_l5DrawRight: function 15 -/
def spec_l5DrawRight.l0 : Nat → Int → List Int → Int → Int → Option ((List (S61)) × Int × Int)
  | 0, _, _, _, _ => none
  | k + 1, x3, x1000, x1001, x1002 => if x3 < 9 then ((spec_l1Below.f x1000 x1001 x1002 3).bind fun bt184 => ((spec_l5DrawCol.f k x1000 bt184.2.1 bt184.2.2 (⟨#[]⟩ : ByteArray) (wrap64 (1 + bt184.1)) (([] : List (S61)))).bind fun bt190 => ((spec_SchemaOk.f k bt190.1).bind fun t195 => (if t195 = true then (some (bt190.1, bt190.2.1, bt190.2.2)) else (spec_l5DrawRight.l0 k (wrap64 (x3 + 1)) x1000 bt190.2.1 bt190.2.2))))) else (some ((([(⟨(⟨#[]⟩ : ByteArray), 7, 0, 1⟩ : S61), (⟨(⟨#[97]⟩ : ByteArray), 2, 1, 0⟩ : S61)] : List (S61))), x1001, x1002))
def spec_l5DrawRight.f (k : Nat) (s0_0 : List Int) (s0_1 : Int) (s0_2 : Int) : Option ((List (S61)) × Int × Int) := spec_l5DrawRight.l0 k 0 s0_0 s0_1 s0_2
set_option maxHeartbeats 8000000 in
set_option maxRecDepth 100000 in
theorem spec_l5DrawRight.calls (k : Nat) (g : Nat) (s0_0 : List Int) (s0_1 : Int) (s0_2 : Int) (r1 : List (S61)) (r2 : Int) (r3 : Int) (w0 w : World) (hI : IsS48 w0 w g s0_0 s0_1 s0_2) (hB : Below w0.heap.size w0 w) (h : spec_l5DrawRight.f k s0_0 s0_1 s0_2 = some (r1, r2, r3)) :
    Calls Try.prog 15 #[.pointer (some ⟨g, 0, none⟩)] w fun e w' => ∃ v0_ : Value, e = .returned (v0_) ∧ Kd.R k61 61 w' w.heap.size (fun _ => True) v0_ r1 ∧ IsS48 w0 w' g s0_0 r2 r3 ∧ Below w0.heap.size w0 w' ∧ KeepBut w w' g none := by
  have hu61 := Try.underlying61
  have HI0 := Aside0.mk hI
  have HK := Aside0.mk (KeepBut.refl w g none)
  have HL := Aside0.mk hB.size
  clear hI
  have HW0 := Aside0.mk hB.size
  have HB := Aside0.mk hB
  clear hB
  have H : (spec_l5DrawRight.l0 k 0 s0_0 s0_1 s0_2) = some (r1, r2, r3) := h
  clear h
  have H' := Aside0.mk H
  clear H
  go_enter Try.func15, Try.ntmps15
  go_wp2
  go_loopg [3] k (fun kq v3 w' => ∃ (x3_1 : Int) (x1001_1 : Int) (x1002_1 : Int), v3 = .int .i64 x3_1 ∧ Aside0 (spec_l5DrawRight.l0 kq x3_1 s0_0 x1001_1 x1002_1 = some (r1, r2, r3)) ∧ Aside0 (kq ≤ k) ∧ Aside0 (IsS48 w0 w' g s0_0 x1001_1 x1002_1) ∧ Aside0 (KeepBut w w' g none) ∧ Aside0 (Below w0.heap.size w0 w'))
  case atStart => exact ⟨(0), (s0_1), (s0_2), sr, H', ⟨Nat.le_refl _⟩, ⟨by repeat (first | (with_reducible first | exact HI0.out | apply IsS48.alloc | apply IsS48.drewN | apply IsS48.drew | apply IsS48.set_1 | apply IsS48.set_2) | exact HI0.out)⟩, ⟨by repeat (first | (with_reducible first | exact HK.out | apply KeepBut.set_ | apply keep_drewN | apply keep_drew | apply keep_alloc) | exact HK.out)⟩, ⟨by repeat (first | (with_reducible first | exact HB.out | apply below_alloc | apply pw_below_drewN | apply below_drew1 | refine below_set ?_ (IsS48.ge HI0.out)) | exact HB.out)⟩⟩
  case round =>
    clear H'
    obtain ⟨x3_1, x1001_1, x1002_1, rfl, HA, HK1, HI0, HK, HB⟩ := hrel
    cases gk with
    | zero => exact absurd HA.out (by simp [spec_l5DrawRight.l0])
    | succ k1 =>
      have H := HA.out
      clear HA
      simp only [spec_l5DrawRight.l0] at H
      by_cases c2 : x3_1 < 9
      · rw [if_pos c2] at H
        have c2b0 := decide_eq_true c2
        clear c2
        replace H := Option.bind_eq_some_iff.mp H
        obtain ⟨⟨t184, t185, t186⟩, A30, H⟩ := H
        replace H : ((spec_l5DrawCol.f k1 s0_0 t185 t186 (⟨#[]⟩ : ByteArray) (wrap64 (1 + t184)) (([] : List (S61)))).bind fun bt190 => ((spec_SchemaOk.f k1 bt190.1).bind fun t195 => (if t195 = true then (some (bt190.1, bt190.2.1, bt190.2.2)) else (spec_l5DrawRight.l0 k1 (wrap64 (x3_1 + 1)) s0_0 bt190.2.1 bt190.2.2)))) = some (r1, r2, r3) := H
        have A3 := Aside0.mk A30
        clear A30
        obtain ⟨y187, hy187⟩ : ∃ y_ : List (S61), y_ = (([] : List (S61))) := ⟨_, rfl⟩
        replace H : ((spec_l5DrawCol.f k1 s0_0 t185 t186 (⟨#[]⟩ : ByteArray) (wrap64 (1 + t184)) y187).bind fun bt190 => ((spec_SchemaOk.f k1 bt190.1).bind fun t195 => (if t195 = true then (some (bt190.1, bt190.2.1, bt190.2.2)) else (spec_l5DrawRight.l0 k1 (wrap64 (x3_1 + 1)) s0_0 bt190.2.1 bt190.2.2)))) = some (r1, r2, r3) := by first | (rw [hy187]; with_reducible exact H) | (rw [hy187]; exact H) | exact H
        have Ny187 := Aside0.mk hy187
        clear hy187
        replace H := Option.bind_eq_some_iff.mp H
        obtain ⟨⟨t190, t193, t194⟩, A40, H⟩ := H
        replace H : ((spec_SchemaOk.f k1 t190).bind fun t195 => (if t195 = true then (some (t190, t193, t194)) else (spec_l5DrawRight.l0 k1 (wrap64 (x3_1 + 1)) s0_0 t193 t194))) = some (r1, r2, r3) := H
        have A4 := Aside0.mk A40
        clear A40
        replace H := bnd H
        obtain ⟨t195, A5, H⟩ := H
        by_cases c6 : t195 = true
        · subst c6
          replace H := ifp rfl H
          simp only [Option.some.injEq, Prod.mk.injEq] at H
          obtain ⟨rfl, rfl, rfl⟩ := H
          go_wp2_with (first | ((with_reducible refine gate_callee (f := 13) rfl ?_); refine gl_ (some 11) Try.func13 #[.pointer (some ⟨g, 0, none⟩), .int .i64 3] rfl ?_; (with_reducible refine (spec_l1Below.calls g s0_0 x1001_1 x1002_1 3 t184 t185 t186 w0 _ ?side1 ?side2 A3.out).mono ?_); (case side1 => repeat (first | (with_reducible first | exact HI0.out | apply IsS48.alloc | apply IsS48.drewN | apply IsS48.drew | apply IsS48.set_1 | apply IsS48.set_2) | exact HI0.out)); (case side2 => repeat (first | (with_reducible first | exact HB.out | apply below_alloc | apply pw_below_drewN | apply below_drew1 | refine below_set ?_ (IsS48.ge HI0.out)) | exact HB.out)); rintro e w7 ⟨rfl, hi, hb, hk⟩; refine ⟨_, rfl, ?_⟩; replace HK := Aside0.mk (KeepBut.trans (by repeat (first | (with_reducible first | exact HK.out | apply KeepBut.set_ | apply keep_drewN | apply keep_drew | apply keep_alloc) | exact HK.out)) hk (.inl rfl)); replace HB := Aside0.mk (hb); replace HI0 := Aside0.mk (hi); (try clear hb); (try clear hk); (try clear hi)) | ((with_reducible refine gate_dst (N := 13) rfl ?_); refine Kd.R_lit k61 _ 61 ?hg (N := 13) ?hd (xs := ([] : List (S61))) (inner := []) (ok := fun _ => True) (okp := fun _ => True) ?hr ?hp (fun _ hk => hk) trivial (Below.refl _ _) (Nat.le_refl _) (by simp) ?_; (case hd => rfl); (case hg => rfl); (case hr => first | (go_simp; done) | (go_simp; rfl)); (case hp => exact (Reps.none _ _)); intro v188 w8 ho9 hb hg_ hnew_; clear hg_ hnew_; (first | rw [← Ny187.out] at ho9 | (simp only [Int.reduceToNat] at ho9; rw [← Ny187.out] at ho9)); have HO189 := Aside0.mk (Kd.R_lower ho9 (keep_size (w := w) (g := g) (row := none) (by repeat (first | (with_reducible first | exact HK.out | apply KeepBut.set_ | apply keep_drewN | apply keep_drew | apply keep_alloc) | exact HK.out)))); replace HK := Aside0.mk (KeepBut.trans (by repeat (first | (with_reducible first | exact HK.out | apply KeepBut.set_ | apply keep_drewN | apply keep_drew | apply keep_alloc) | exact HK.out)) (KeepBut.of_below hb g none) (.inl rfl)); replace HB := Aside0.mk (below_step (by repeat (first | (with_reducible first | exact HB.out | apply below_alloc | apply pw_below_drewN | apply below_drew1 | refine below_set ?_ (IsS48.ge HI0.out)) | exact HB.out)) hb); replace HI0 := Aside0.mk (IsS48.below (by repeat (first | (with_reducible first | exact HI0.out | apply IsS48.alloc | apply IsS48.drewN | apply IsS48.drew | apply IsS48.set_1 | apply IsS48.set_2) | exact HI0.out)) hb); clear hb ho9; obtain ⟨Ao10, co10, eo10⟩ := Kd.R_slice HO189.out; subst eo10) | ((with_reducible refine gate_callee (f := 20) rfl ?_); refine gl_ (some 14) Try.func20 #[.pointer (some ⟨g, 0, none⟩), .string (⟨#[]⟩ : ByteArray), .int .i64 (wrap64 (1 + t184)), .slice Ao10 y187.length co10] rfl ?_; (with_reducible refine (spec_l5DrawCol.calls k1 g s0_0 t185 t186 (⟨#[]⟩ : ByteArray) (wrap64 (1 + t184)) (fun k_ => some k_ = (.slice Ao10 y187.length co10 : Value).ownBlock) (.slice Ao10 y187.length co10) y187 t190 t193 t194 w0 _ ?side1 ?side2 ?side3 A4.out).mono ?_); (case side1 => repeat (first | (with_reducible first | exact HI0.out | apply IsS48.alloc | apply IsS48.drewN | apply IsS48.drew | apply IsS48.set_1 | apply IsS48.set_2) | exact HI0.out)); (case side2 => repeat (first | (with_reducible first | exact HB.out | apply below_alloc | apply pw_below_drewN | apply below_drew1 | refine below_set ?_ (IsS48.ge HI0.out)) | exact HB.out)); (case side3 => exact Kd.R_lower (Kd.R_tight rfl HO189.out) HL.out); rintro e w11 ⟨v191, rfl, ho0, hi, hb, hkp⟩; refine ⟨_, rfl, ?_⟩; have n0_ := Aside0.mk (hi); have n1_ := Aside0.mk (Kd.R_mono (ok' := fun k_ => True) (Kd.R_raise (d := k61) (b := w0.heap.size) (b' := w.heap.size) (fun _ _ _ _ h_ => h_) ho0 (fun k_ e_ => Or.elim (ho0.1 k_ e_) (fun hs_ => (fun e_ => Kd.R_base HO189.out k_ e_.symm) hs_) (fun hn_ => Nat.le_trans (keep_size (w := w) (g := g) (row := none) (by repeat (first | (with_reducible first | exact HK.out | apply KeepBut.set_ | apply keep_drewN | apply keep_drew | apply keep_alloc) | exact HK.out))) hn_))) (fun k_ hk_ => trivial)); have n2_ := Aside0.mk (Kept.keepG (by repeat (first | (with_reducible first | exact HK.out | apply KeepBut.set_ | apply keep_drewN | apply keep_drew | apply keep_alloc) | exact HK.out)) hkp (fun k_ hs_ => Or.elim hs_ (fun hs_ => (fun e_ => .inr (Kd.R_base HO189.out k_ e_.symm)) hs_) (fun e_ => .inl e_))); have n3_ := Aside0.mk (hb); clear HI0; clear HK; clear HB; clear HO189; have HI0 := n0_; have HO192 := n1_; have HK := n2_; have HB := n3_; clear n0_ n1_ n2_ n3_; (try clear hb); (try clear hkp); (try clear ho0); obtain ⟨Ao12, co12, eo12⟩ := Kd.R_slice HO192.out; subst eo12) | ((with_reducible refine gate_callee (f := 21) rfl ?_); refine gl_ (some 16) Try.func21 #[.slice Ao12 t190.length co12] rfl ?_; (with_reducible refine (spec_SchemaOk.calls k1 _ _ t190 true _ ?side1 ?side2 A5.out).mono ?_); (case side1 => repeat (first | exact (Kd.R_reads' HO192.out).2.2 | (with_reducible refine Kd.C_alloc ?_ _) | (with_reducible refine Kd.C_drewN ?_ _) | (with_reducible refine Kd.C_drew ?_))); (case side2 => exact (Kd.R_reads' HO192.out).2.1); rintro e w13 ⟨rfl, hb⟩; refine ⟨_, rfl, ?_⟩; replace HO192 := Aside0.mk (Kd.R_below (R_later HO192.out) hb); replace HK := Aside0.mk (KeepBut.trans (by repeat (first | (with_reducible first | exact HK.out | apply KeepBut.set_ | apply keep_drewN | apply keep_drew | apply keep_alloc) | exact HK.out)) (KeepBut.of_below hb g none) (.inl rfl)); replace HB := Aside0.mk (below_step (by repeat (first | (with_reducible first | exact HB.out | apply below_alloc | apply pw_below_drewN | apply below_drew1 | refine below_set ?_ (IsS48.ge HI0.out)) | exact HB.out)) hb); replace HI0 := Aside0.mk (IsS48.below (by repeat (first | (with_reducible first | exact HI0.out | apply IsS48.alloc | apply IsS48.drewN | apply IsS48.drew | apply IsS48.set_1 | apply IsS48.set_2) | exact HI0.out)) hb); (try clear hb); (try clear hk); (try clear hi)))
          go_ret
          exact ⟨_, by first | rfl | (simp [errW_none, errW_some] <;> rfl) | (simp [*, errW_none, errW_some] <;> rfl), by (with_reducible repeat (first | apply Kd.R_alloc | apply Kd.R_drewN | apply Kd.R_drew)); exact HO192.out, by repeat (first | (with_reducible first | exact HI0.out | apply IsS48.alloc | apply IsS48.drewN | apply IsS48.drew | apply IsS48.set_1 | apply IsS48.set_2) | exact HI0.out), by repeat (first | (with_reducible first | exact HB.out | apply below_alloc | apply pw_below_drewN | apply below_drew1 | refine below_set ?_ (IsS48.ge HI0.out)) | exact HB.out), by repeat (first | (with_reducible first | exact HK.out | apply KeepBut.set_ | apply keep_drewN | apply keep_drew | apply keep_alloc) | exact HK.out)⟩
        · replace c6 := Bool.eq_false_iff.mpr c6
          subst c6
          replace H := ifn Bool.false_ne_true H
          have H' := Aside0.mk H
          clear H
          go_wp2_with (first | ((with_reducible refine gate_callee (f := 13) rfl ?_); refine gl_ (some 11) Try.func13 #[.pointer (some ⟨g, 0, none⟩), .int .i64 3] rfl ?_; (with_reducible refine (spec_l1Below.calls g s0_0 x1001_1 x1002_1 3 t184 t185 t186 w0 _ ?side1 ?side2 A3.out).mono ?_); (case side1 => repeat (first | (with_reducible first | exact HI0.out | apply IsS48.alloc | apply IsS48.drewN | apply IsS48.drew | apply IsS48.set_1 | apply IsS48.set_2) | exact HI0.out)); (case side2 => repeat (first | (with_reducible first | exact HB.out | apply below_alloc | apply pw_below_drewN | apply below_drew1 | refine below_set ?_ (IsS48.ge HI0.out)) | exact HB.out)); rintro e w14 ⟨rfl, hi, hb, hk⟩; refine ⟨_, rfl, ?_⟩; replace HK := Aside0.mk (KeepBut.trans (by repeat (first | (with_reducible first | exact HK.out | apply KeepBut.set_ | apply keep_drewN | apply keep_drew | apply keep_alloc) | exact HK.out)) hk (.inl rfl)); replace HB := Aside0.mk (hb); replace HI0 := Aside0.mk (hi); (try clear hb); (try clear hk); (try clear hi)) | ((with_reducible refine gate_dst (N := 13) rfl ?_); refine Kd.R_lit k61 _ 61 ?hg (N := 13) ?hd (xs := ([] : List (S61))) (inner := []) (ok := fun _ => True) (okp := fun _ => True) ?hr ?hp (fun _ hk => hk) trivial (Below.refl _ _) (Nat.le_refl _) (by simp) ?_; (case hd => rfl); (case hg => rfl); (case hr => first | (go_simp; done) | (go_simp; rfl)); (case hp => exact (Reps.none _ _)); intro v188 w15 ho16 hb hg_ hnew_; clear hg_ hnew_; (first | rw [← Ny187.out] at ho16 | (simp only [Int.reduceToNat] at ho16; rw [← Ny187.out] at ho16)); have HO189 := Aside0.mk (Kd.R_lower ho16 (keep_size (w := w) (g := g) (row := none) (by repeat (first | (with_reducible first | exact HK.out | apply KeepBut.set_ | apply keep_drewN | apply keep_drew | apply keep_alloc) | exact HK.out)))); replace HK := Aside0.mk (KeepBut.trans (by repeat (first | (with_reducible first | exact HK.out | apply KeepBut.set_ | apply keep_drewN | apply keep_drew | apply keep_alloc) | exact HK.out)) (KeepBut.of_below hb g none) (.inl rfl)); replace HB := Aside0.mk (below_step (by repeat (first | (with_reducible first | exact HB.out | apply below_alloc | apply pw_below_drewN | apply below_drew1 | refine below_set ?_ (IsS48.ge HI0.out)) | exact HB.out)) hb); replace HI0 := Aside0.mk (IsS48.below (by repeat (first | (with_reducible first | exact HI0.out | apply IsS48.alloc | apply IsS48.drewN | apply IsS48.drew | apply IsS48.set_1 | apply IsS48.set_2) | exact HI0.out)) hb); clear hb ho16; obtain ⟨Ao17, co17, eo17⟩ := Kd.R_slice HO189.out; subst eo17) | ((with_reducible refine gate_callee (f := 20) rfl ?_); refine gl_ (some 14) Try.func20 #[.pointer (some ⟨g, 0, none⟩), .string (⟨#[]⟩ : ByteArray), .int .i64 (wrap64 (1 + t184)), .slice Ao17 y187.length co17] rfl ?_; (with_reducible refine (spec_l5DrawCol.calls k1 g s0_0 t185 t186 (⟨#[]⟩ : ByteArray) (wrap64 (1 + t184)) (fun k_ => some k_ = (.slice Ao17 y187.length co17 : Value).ownBlock) (.slice Ao17 y187.length co17) y187 t190 t193 t194 w0 _ ?side1 ?side2 ?side3 A4.out).mono ?_); (case side1 => repeat (first | (with_reducible first | exact HI0.out | apply IsS48.alloc | apply IsS48.drewN | apply IsS48.drew | apply IsS48.set_1 | apply IsS48.set_2) | exact HI0.out)); (case side2 => repeat (first | (with_reducible first | exact HB.out | apply below_alloc | apply pw_below_drewN | apply below_drew1 | refine below_set ?_ (IsS48.ge HI0.out)) | exact HB.out)); (case side3 => exact Kd.R_lower (Kd.R_tight rfl HO189.out) HL.out); rintro e w18 ⟨v191, rfl, ho0, hi, hb, hkp⟩; refine ⟨_, rfl, ?_⟩; have n0_ := Aside0.mk (hi); have n1_ := Aside0.mk (Kd.R_mono (ok' := fun k_ => True) (Kd.R_raise (d := k61) (b := w0.heap.size) (b' := w.heap.size) (fun _ _ _ _ h_ => h_) ho0 (fun k_ e_ => Or.elim (ho0.1 k_ e_) (fun hs_ => (fun e_ => Kd.R_base HO189.out k_ e_.symm) hs_) (fun hn_ => Nat.le_trans (keep_size (w := w) (g := g) (row := none) (by repeat (first | (with_reducible first | exact HK.out | apply KeepBut.set_ | apply keep_drewN | apply keep_drew | apply keep_alloc) | exact HK.out))) hn_))) (fun k_ hk_ => trivial)); have n2_ := Aside0.mk (Kept.keepG (by repeat (first | (with_reducible first | exact HK.out | apply KeepBut.set_ | apply keep_drewN | apply keep_drew | apply keep_alloc) | exact HK.out)) hkp (fun k_ hs_ => Or.elim hs_ (fun hs_ => (fun e_ => .inr (Kd.R_base HO189.out k_ e_.symm)) hs_) (fun e_ => .inl e_))); have n3_ := Aside0.mk (hb); clear HI0; clear HK; clear HB; clear HO189; have HI0 := n0_; have HO192 := n1_; have HK := n2_; have HB := n3_; clear n0_ n1_ n2_ n3_; (try clear hb); (try clear hkp); (try clear ho0); obtain ⟨Ao19, co19, eo19⟩ := Kd.R_slice HO192.out; subst eo19) | ((with_reducible refine gate_callee (f := 21) rfl ?_); refine gl_ (some 16) Try.func21 #[.slice Ao19 t190.length co19] rfl ?_; (with_reducible refine (spec_SchemaOk.calls k1 _ _ t190 false _ ?side1 ?side2 A5.out).mono ?_); (case side1 => repeat (first | exact (Kd.R_reads' HO192.out).2.2 | (with_reducible refine Kd.C_alloc ?_ _) | (with_reducible refine Kd.C_drewN ?_ _) | (with_reducible refine Kd.C_drew ?_))); (case side2 => exact (Kd.R_reads' HO192.out).2.1); rintro e w20 ⟨rfl, hb⟩; refine ⟨_, rfl, ?_⟩; replace HO192 := Aside0.mk (Kd.R_below (R_later HO192.out) hb); replace HK := Aside0.mk (KeepBut.trans (by repeat (first | (with_reducible first | exact HK.out | apply KeepBut.set_ | apply keep_drewN | apply keep_drew | apply keep_alloc) | exact HK.out)) (KeepBut.of_below hb g none) (.inl rfl)); replace HB := Aside0.mk (below_step (by repeat (first | (with_reducible first | exact HB.out | apply below_alloc | apply pw_below_drewN | apply below_drew1 | refine below_set ?_ (IsS48.ge HI0.out)) | exact HB.out)) hb); replace HI0 := Aside0.mk (IsS48.below (by repeat (first | (with_reducible first | exact HI0.out | apply IsS48.alloc | apply IsS48.drewN | apply IsS48.drew | apply IsS48.set_1 | apply IsS48.set_2) | exact HI0.out)) hb); (try clear hb); (try clear hk); (try clear hi)))
          go_roundg k1
          case measure => have := HK1.out; omega
          case rel => exact ⟨(wrap64 (x3_1 + 1)), (t193), (t194), sr, H', ⟨by have := HK1.out; omega⟩, ⟨by repeat (first | (with_reducible first | exact HI0.out | apply IsS48.alloc | apply IsS48.drewN | apply IsS48.drew | apply IsS48.set_1 | apply IsS48.set_2) | exact HI0.out)⟩, ⟨by repeat (first | (with_reducible first | exact HK.out | apply KeepBut.set_ | apply keep_drewN | apply keep_drew | apply keep_alloc) | exact HK.out)⟩, ⟨by repeat (first | (with_reducible first | exact HB.out | apply below_alloc | apply pw_below_drewN | apply below_drew1 | refine below_set ?_ (IsS48.ge HI0.out)) | exact HB.out)⟩⟩
      · rw [if_neg c2] at H
        have c2b0 := decide_eq_false c2
        clear c2
        obtain ⟨y181, hy181⟩ : ∃ y_ : List (S61), y_ = (([(⟨(⟨#[]⟩ : ByteArray), 7, 0, 1⟩ : S61), (⟨(⟨#[97]⟩ : ByteArray), 2, 1, 0⟩ : S61)] : List (S61))) := ⟨_, rfl⟩
        replace H : (some (y181, x1001_1, x1002_1)) = some (r1, r2, r3) := by first | (rw [hy181]; with_reducible exact H) | (rw [hy181]; exact H) | exact H
        have Ny181 := Aside0.mk hy181
        clear hy181
        simp only [Option.some.injEq, Prod.mk.injEq] at H
        obtain ⟨rfl, rfl, rfl⟩ := H
        go_wp2_with (first | ((with_reducible refine gate_dst (N := 20) rfl ?_); refine Kd.R_lit k61 _ 61 ?hg (N := 20) ?hd (xs := ([(⟨(⟨#[]⟩ : ByteArray), 7, 0, 1⟩ : S61), (⟨(⟨#[97]⟩ : ByteArray), 2, 1, 0⟩ : S61)] : List (S61))) (inner := [.string (⟨#[]⟩ : ByteArray), .int .i64 7, .int .i64 0, .int .i64 1, .string (⟨#[97]⟩ : ByteArray), .int .i64 2, .int .i64 1, .int .i64 0]) (ok := fun _ => True) (okp := fun _ => True) ?hr ?hp (fun _ hk => hk) trivial (Below.refl _ _) (Nat.le_refl _) (by simp) ?_; (case hd => rfl); (case hg => rfl); (case hr => first | (go_simp; done) | (go_simp; rfl)); (case hp => exact (Reps.c4 (show Kd.M k61 _ _ _ (⟨(⟨#[]⟩ : ByteArray), 7, 0, 1⟩ : S61) [.string (⟨#[]⟩ : ByteArray), .int .i64 7, .int .i64 0, .int .i64 1] from (k61_mkM _ _ _ (⟨(⟨#[]⟩ : ByteArray), 7, 0, 1⟩ : S61) )) (Reps.c4 (show Kd.M k61 _ _ _ (⟨(⟨#[97]⟩ : ByteArray), 2, 1, 0⟩ : S61) [.string (⟨#[97]⟩ : ByteArray), .int .i64 2, .int .i64 1, .int .i64 0] from (k61_mkM _ _ _ (⟨(⟨#[97]⟩ : ByteArray), 2, 1, 0⟩ : S61) )) (Reps.none _ _)))); intro v182 w21 ho22 hb hg_ hnew_; clear hg_ hnew_; (first | rw [← Ny181.out] at ho22 | (simp only [Int.reduceToNat] at ho22; rw [← Ny181.out] at ho22)); have HO183 := Aside0.mk (Kd.R_lower ho22 (keep_size (w := w) (g := g) (row := none) (by repeat (first | (with_reducible first | exact HK.out | apply KeepBut.set_ | apply keep_drewN | apply keep_drew | apply keep_alloc) | exact HK.out)))); replace HK := Aside0.mk (KeepBut.trans (by repeat (first | (with_reducible first | exact HK.out | apply KeepBut.set_ | apply keep_drewN | apply keep_drew | apply keep_alloc) | exact HK.out)) (KeepBut.of_below hb g none) (.inl rfl)); replace HB := Aside0.mk (below_step (by repeat (first | (with_reducible first | exact HB.out | apply below_alloc | apply pw_below_drewN | apply below_drew1 | refine below_set ?_ (IsS48.ge HI0.out)) | exact HB.out)) hb); replace HI0 := Aside0.mk (IsS48.below (by repeat (first | (with_reducible first | exact HI0.out | apply IsS48.alloc | apply IsS48.drewN | apply IsS48.drew | apply IsS48.set_1 | apply IsS48.set_2) | exact HI0.out)) hb); clear hb ho22))
        go_ret
        exact ⟨_, by first | rfl | (simp [errW_none, errW_some] <;> rfl) | (simp [*, errW_none, errW_some] <;> rfl), by (with_reducible repeat (first | apply Kd.R_alloc | apply Kd.R_drewN | apply Kd.R_drew)); exact HO183.out, by repeat (first | (with_reducible first | exact HI0.out | apply IsS48.alloc | apply IsS48.drewN | apply IsS48.drew | apply IsS48.set_1 | apply IsS48.set_2) | exact HI0.out), by repeat (first | (with_reducible first | exact HB.out | apply below_alloc | apply pw_below_drewN | apply below_drew1 | refine below_set ?_ (IsS48.ge HI0.out)) | exact HB.out), by repeat (first | (with_reducible first | exact HK.out | apply KeepBut.set_ | apply keep_drewN | apply keep_drew | apply keep_alloc) | exact HK.out)⟩

/-! ### spec_l5Leaves: function 22 -/
def spec_l5Leaves.l0 : Nat → List (S61) → List Int → Int → Option (List Int)
  | 0, _, _, _ => none
  | k + 1, x0, x3, x4 => if x4 < (x0.length : Int) then (if 0 ≤ x4 then (if ((rd_T61 x0 x4).f1) = 7 then (spec_l5Leaves.l0 k x0 x3 (wrap64 (x4 + 1))) else (if x3.length < 17592186044416 then (spec_l5Leaves.l0 k x0 (x3 ++ [x4]) (wrap64 (x4 + 1))) else (none))) else (none)) else (some x3)
def spec_l5Leaves.f (k : Nat) (l0 : List (S61)) : Option (List Int) := spec_l5Leaves.l0 k l0 (([] : List Int)) 0
set_option maxHeartbeats 8000000 in
set_option maxRecDepth 100000 in
theorem spec_l5Leaves.calls (k : Nat) (A0 : Option Addr) (c0 : Nat) (l0 : List (S61)) (r : List Int) (w : World) (hr0 : Kd.C k61 w A0 l0.length l0) (hc0 : l0.length ≤ c0) (h : spec_l5Leaves.f k l0 = some r) :
    Calls Try.prog 22 #[.slice A0 l0.length c0] w fun e w' => ∃ v0_ : Value, e = .returned (v0_) ∧ Kd.R (Kd.int .i64) 3 w' w.heap.size (fun _ => True) v0_ r ∧ Below w.heap.size w w' := by
  have HR0 := Aside0.mk hr0
  have HC0 := Aside0.mk hc0
  clear hr0 hc0
  have HB := Aside0.mk (Below.refl w.heap.size w)
  have H : (spec_l5Leaves.l0 k l0 (([] : List Int)) 0) = some r := h
  clear h
  obtain ⟨y196, hy196⟩ : ∃ y_ : List Int, y_ = (([] : List Int)) := ⟨_, rfl⟩
  replace H : (spec_l5Leaves.l0 k l0 y196 0) = some r := by first | (rw [hy196]; with_reducible exact H) | (rw [hy196]; exact H) | exact H
  have Ny196 := Aside0.mk hy196
  clear hy196
  have H' := Aside0.mk H
  clear H
  go_enter Try.func22, Try.ntmps22
  go_wp2_with (first | ((with_reducible refine gate_dst (N := 5) rfl ?_); refine Kd.R_lit (Kd.int .i64) _ 3 ?hg (N := 5) ?hd (xs := ([] : List Int)) (inner := []) (ok := fun _ => True) (okp := fun _ => True) ?hr ?hp (fun _ hk => hk) trivial (Below.refl _ _) (Nat.le_refl _) (by simp) ?_; (case hd => rfl); (case hg => rfl); (case hr => first | (go_simp; done) | (go_simp; rfl)); (case hp => exact (Reps.none _ _)); intro v197 w2 ho3 hb hg_ hnew_; clear hg_ hnew_; (first | rw [← Ny196.out] at ho3 | (simp only [Int.reduceToNat] at ho3; rw [← Ny196.out] at ho3)); have HO198 := Aside0.mk (Kd.R_lower ho3 (below_size (below_later HB.out))); replace HB := bst HB hb; clear hb ho3))
  go_loopg [3, 4] k (fun kq v3 v4 w' => ∃ (x3_1 : List Int) (x4_1 : Int), v4 = .int .i64 x4_1 ∧ Aside0 (spec_l5Leaves.l0 kq l0 x3_1 x4_1 = some r) ∧ Aside0 (kq ≤ k) ∧ Aside0 (Kd.R (Kd.int .i64) 3 w' w.heap.size (fun _ => True) v3 x3_1) ∧ Aside0 (Below w.heap.size w w'))
  case atStart => exact ⟨(y196), (0), sr, H', ⟨Nat.le_refl _⟩, ⟨R_later HO198.out⟩, ⟨below_later HB.out⟩⟩
  case round =>
    clear H'
    obtain ⟨x3_1, x4_1, rfl, HA, HK1, HO_3, HB⟩ := hrel
    cases gk with
    | zero => exact absurd HA.out (by simp [spec_l5Leaves.l0])
    | succ k1 =>
      have H := HA.out
      clear HA
      simp only [spec_l5Leaves.l0] at H
      by_cases c4 : x4_1 < (l0.length : Int)
      · rw [if_pos c4] at H
        have c4b0 := decide_eq_true c4
        clear c4
        replace H := ifd H
        obtain ⟨c5b0, H⟩ := H
        by_cases c6 : ((rd_T61 l0 x4_1).f1) = 7
        · rw [if_pos c6] at H
          have c6b0 : (((rd_T61 l0 x4_1).f1) == 7) = true := beq_iff_eq.mpr c6
          have c6b1 : (((rd_T61 l0 x4_1).f1) != 7) = false := bne_eq_false_iff_eq.mpr c6
          clear c6
          have H' := Aside0.mk H
          clear H
          have p199 : 0 ≤ (x4_1 : Int) := dcd
          have q199 : x4_1 < (l0.length : Int) := dcd
          obtain ⟨ad199, e199, hx199_0, hx199_1, hx199_2, hx199_3⟩ := at_T61 HR0.out x4_1 p199 q199
          cases e199
          replace hx199_0 := crd HB hx199_0
          replace hx199_1 := crd HB hx199_1
          replace hx199_2 := crd HB hx199_2
          replace hx199_3 := crd HB hx199_3
          replace p199 := eq_true p199
          replace q199 := eq_true q199
          go_wp2
          go_roundg k1
          case measure => have := HK1.out; omega
          case rel => exact ⟨(x3_1), (wrap64 (x4_1 + 1)), sr, H', ⟨by have := HK1.out; omega⟩, ⟨R_later HO_3.out⟩, ⟨below_later HB.out⟩⟩
        · rw [if_neg c6] at H
          have c6b0 : (((rd_T61 l0 x4_1).f1) == 7) = false := beq_eq_false_iff_ne.mpr c6
          have c6b1 : (((rd_T61 l0 x4_1).f1) != 7) = true := bne_iff_ne.mpr c6
          replace H := ifs H
          obtain ⟨c7, H⟩ := H
          have LMc7 := Aside0.mk c7
          clear c7
          obtain ⟨y200, hy200⟩ : ∃ y_ : List Int, y_ = (x3_1 ++ [x4_1]) := ⟨_, rfl⟩
          replace H : (spec_l5Leaves.l0 k1 l0 y200 (wrap64 (x4_1 + 1))) = some r := by first | (rw [hy200]; with_reducible exact H) | (rw [hy200]; exact H) | exact H
          have Ny200 := Aside0.mk hy200
          clear hy200
          have H' := Aside0.mk H
          clear H
          have p199 : 0 ≤ (x4_1 : Int) := dcd
          have q199 : x4_1 < (l0.length : Int) := dcd
          obtain ⟨ad199, e199, hx199_0, hx199_1, hx199_2, hx199_3⟩ := at_T61 HR0.out x4_1 p199 q199
          cases e199
          replace hx199_0 := crd HB hx199_0
          replace hx199_1 := crd HB hx199_1
          replace hx199_2 := crd HB hx199_2
          replace hx199_3 := crd HB hx199_3
          replace p199 := eq_true p199
          replace q199 := eq_true q199
          go_wp2_with (first | ((with_reducible refine gate_builtin (b := .append) (xs := #[.tmp 18, .tmp 20]) rfl ?_); at_builtin; refine Kd.R_append (Kd.int .i64) (w0 := w) w.heap.size rfl (.tmp 18) (.tmp 20) 63 3 (.int .i64 0) 8 rfl Try.underlying63 info3 rfl (by decide) (by omega) u3 x3_1 x4_1 [.int .i64 x4_1] (fun _ => True) (fun _ => False) rfl rfl ?aP (fun _ hk => hk.elim) ?aF ?aO ?aB ?aS ?aL ?_; (case aP => exact rfl); (case aB => exact (below_later HB.out)); (case aF => exact (fun _ _ => trivial)); (case aO => exact (R_later HO_3.out)); (case aS => exact (below_size (below_later HB.out))); (case aL => have := LMc7.out; omega); intro v201 w8 ho hb hg hat; rw [← Ny200.out] at ho; have n0_ := Aside0.mk (hb); have n1_ := Aside0.mk (ho); clear HB; clear HO_3; have HB := n0_; have HO202 := n1_; clear n0_ n1_; clear ho hb hg hat))
          go_roundg k1
          case measure => have := HK1.out; omega
          case rel => exact ⟨(y200), (wrap64 (x4_1 + 1)), sr, H', ⟨by have := HK1.out; omega⟩, ⟨R_later HO202.out⟩, ⟨below_later HB.out⟩⟩
      · rw [if_neg c4] at H
        have c4b0 := decide_eq_false c4
        clear c4
        obtain rfl := Option.some.inj H
        go_wp2
        go_ret
        exact ⟨_, by first | rfl | (simp [errW_none, errW_some] <;> rfl) | (simp [*, errW_none, errW_some] <;> rfl), by (with_reducible repeat (first | apply Kd.R_alloc | apply Kd.R_drewN | apply Kd.R_drew)); exact HO_3.out, below_later HB.out⟩

end Go.Proofs.Ytbiobenhhnbbaaa.PFnCut
