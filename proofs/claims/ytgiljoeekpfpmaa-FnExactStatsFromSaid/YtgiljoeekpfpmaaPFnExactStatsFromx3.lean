/- The machine's side of FnExactStatsFrom, written by wip/tools/hyb.py of this repo: each Go function as a plain Lean function, and the proof that the call comes to just its answer. No condition. -/
import Derived.Test.YtgiljoeekpfpmaaPFnExactStatsFromx0
import Derived.Test.YtgiljoeekpfpmaaPFnExactStatsFromx2
namespace Go.Proofs.Ytgiljoeekpfpmaa.PFnExactStatsFrom
open Go.RowKit Go.Proofs.YtgiljoeekpfpmaaW.PrintWords Go.Proofs.YtgiljoeekpfpmaaW.PrintLast Go.Proofs.YtgiljoeekpfpmaaW.PrintMore Go.Proofs.YtgiljoeekpfpmaaW.PrintMore2
attribute [local go_sem] max2_int min2_int max_two min_two max_three min_three max_four min_four   -- for this text's walks alone
set_option linter.unusedVariables false
set_option linter.unusedSimpArgs false

/-! ### spec_l4Check: function 42 -/
mutual
def spec_l4Check.j0 : Nat → List (S57) → Int → Int → Bool → Option (Int)
  | 0, _, _, _, _ => none
  | k + 1, x0, x1, x2, x27 => if x27 = true then (some (-1)) else (if 0 ≤ x1 then (if x1 < (x0.length : Int) then (spec_l4Check.l0 k x0 x2 (wrap64 (x1 + 1)) 0 0 ((rd_T57 x0 x1).f0) ((rd_T57 x0 x1).f1) ((rd_T57 x0 x1).f2) ((rd_T57 x0 x1).f3) ((rd_T57 x0 x1).f4)) else (none)) else (none))
def spec_l4Check.l0 : Nat → List (S57) → Int → Int → Int → Int → Int → Int → Int → ByteArray → Int → Option (Int)
  | 0, _, _, _, _, _, _, _, _, _, _ => none
  | k + 1, x0, x2, x8, x9, x10, x118000, x118001, x118002, x118003, x118004 => if x10 < x118004 then (if x8 ≥ (x0.length : Int) then (some (-1)) else (if 0 ≤ x8 then (if x8 < (x0.length : Int) then (if x118000 = 9 then (if ((rd_T57 x0 x8).f0) = x118002 then (if ((rd_T57 x0 x8).f1) = 0 then (if x118000 = 12 then (if ((rd_T57 x0 x8).f1) ≤ x9 then (spec_l4Check.j2 k x0 x2 x8 x10 true x118000 x118001 x118002 x118003 x118004 ((rd_T57 x0 x8).f0) ((rd_T57 x0 x8).f1) ((rd_T57 x0 x8).f2) ((rd_T57 x0 x8).f3) ((rd_T57 x0 x8).f4)) else (spec_l4Check.j2 k x0 x2 x8 x10 (decide (((rd_T57 x0 x8).f1) > 1000)) x118000 x118001 x118002 x118003 x118004 ((rd_T57 x0 x8).f0) ((rd_T57 x0 x8).f1) ((rd_T57 x0 x8).f2) ((rd_T57 x0 x8).f3) ((rd_T57 x0 x8).f4))) else (spec_l4Check.j2 k x0 x2 x8 x10 false x118000 x118001 x118002 x118003 x118004 ((rd_T57 x0 x8).f0) ((rd_T57 x0 x8).f1) ((rd_T57 x0 x8).f2) ((rd_T57 x0 x8).f3) ((rd_T57 x0 x8).f4))) else (spec_l4Check.j2 k x0 x2 x8 x10 true x118000 x118001 x118002 x118003 x118004 ((rd_T57 x0 x8).f0) ((rd_T57 x0 x8).f1) ((rd_T57 x0 x8).f2) ((rd_T57 x0 x8).f3) ((rd_T57 x0 x8).f4))) else (spec_l4Check.j2 k x0 x2 x8 x10 true x118000 x118001 x118002 x118003 x118004 ((rd_T57 x0 x8).f0) ((rd_T57 x0 x8).f1) ((rd_T57 x0 x8).f2) ((rd_T57 x0 x8).f3) ((rd_T57 x0 x8).f4))) else (if x118000 = 12 then (if ((rd_T57 x0 x8).f1) ≤ x9 then (spec_l4Check.j2 k x0 x2 x8 x10 true x118000 x118001 x118002 x118003 x118004 ((rd_T57 x0 x8).f0) ((rd_T57 x0 x8).f1) ((rd_T57 x0 x8).f2) ((rd_T57 x0 x8).f3) ((rd_T57 x0 x8).f4)) else (spec_l4Check.j2 k x0 x2 x8 x10 (decide (((rd_T57 x0 x8).f1) > 1000)) x118000 x118001 x118002 x118003 x118004 ((rd_T57 x0 x8).f0) ((rd_T57 x0 x8).f1) ((rd_T57 x0 x8).f2) ((rd_T57 x0 x8).f3) ((rd_T57 x0 x8).f4))) else (spec_l4Check.j2 k x0 x2 x8 x10 false x118000 x118001 x118002 x118003 x118004 ((rd_T57 x0 x8).f0) ((rd_T57 x0 x8).f1) ((rd_T57 x0 x8).f2) ((rd_T57 x0 x8).f3) ((rd_T57 x0 x8).f4)))) else (none)) else (none))) else (some x8)
def spec_l4Check.j2 : Nat → List (S57) → Int → Int → Int → Bool → Int → Int → Int → ByteArray → Int → Int → Int → Int → ByteArray → Int → Option (Int)
  | 0, _, _, _, _, _, _, _, _, _, _, _, _, _, _, _ => none
  | k + 1, x0, x2, x8, x10, x78, x118000, x118001, x118002, x118003, x118004, x120000, x120001, x120002, x120003, x120004 => if x78 = true then (some (-1)) else ((spec_l4Check.f k x0 x8 (wrap64 (x2 + 1))).bind fun t120 => (if t120 < 0 then (some (-1)) else (spec_l4Check.l0 k x0 x2 t120 x120001 (wrap64 (x10 + 1)) x118000 x118001 x118002 x118003 x118004)))
def spec_l4Check.f : Nat → List (S57) → Int → Int → Option (Int)
  | 0, _, _, _ => none
  | k + 1, l0, a1, a2 => if a1 ≥ (l0.length : Int) then (spec_l4Check.j0 k l0 a1 a2 true) else (if a2 > 12 then (spec_l4Check.j0 k l0 a1 a2 true) else (if 0 ≤ a1 then (if a1 < (l0.length : Int) then ((spec_l4Plain.f k ((rd_T57 l0 a1).f0) ((rd_T57 l0 a1).f1) ((rd_T57 l0 a1).f2) ((rd_T57 l0 a1).f3) ((rd_T57 l0 a1).f4)).bind fun t115 => (spec_l4Check.j0 k l0 a1 a2 (!t115))) else (none)) else (none)))
end
set_option maxHeartbeats 8000000 in
set_option maxRecDepth 100000 in
theorem spec_l4Check.calls (k : Nat) : ∀ (A0 : Option Addr) (c0 : Nat) (l0 : List (S57)) (a1 : Int) (a2 : Int) (r : Int) (w : World) (hr0 : Kd.C k57 w A0 l0.length l0) (hc0 : l0.length ≤ c0) (h : spec_l4Check.f k l0 a1 a2 = some r),
    Calls Try.prog 42 #[.slice A0 l0.length c0, .int .i64 a1, .int .i64 a2] w fun e w' => e = .returned (.int .i64 r) ∧ Below w.heap.size w w' := by
  induction k using Nat.strongRecOn with
  | _ k ih =>
  intro A0 c0 l0 a1 a2 r w hr0 hc0 h
  cases k with
  | zero => exact absurd h (by simp [spec_l4Check.f])
  | succ k =>
  simp only [spec_l4Check.f] at h
  have hu57 := Try.underlying57
  have HR0 := Aside0.mk hr0
  have HC0 := Aside0.mk hc0
  clear hr0 hc0
  have HB := Aside0.mk (Below.refl w.heap.size w)
  have H : (if a1 ≥ (l0.length : Int) then (spec_l4Check.j0 k l0 a1 a2 true) else (if a2 > 12 then (spec_l4Check.j0 k l0 a1 a2 true) else (if 0 ≤ a1 then (if a1 < (l0.length : Int) then ((spec_l4Plain.f k ((rd_T57 l0 a1).f0) ((rd_T57 l0 a1).f1) ((rd_T57 l0 a1).f2) ((rd_T57 l0 a1).f3) ((rd_T57 l0 a1).f4)).bind fun t115 => (spec_l4Check.j0 k l0 a1 a2 (!t115))) else (none)) else (none)))) = some r := h
  clear h
  have HC4 := Aside0.mk H
  clear H
  go_enter Try.func42, Try.ntmps42
  go_upto_region 1 with (fail)
  go_cut [27] (fun v27 wc => ∃ (kq : Nat) (x27_3 : Bool), v27 = .bool x27_3 ∧ Aside0 (spec_l4Check.j0 kq l0 a1 a2 x27_3 = some r) ∧ Aside0 (kq ≤ k) ∧ Aside0 (Below w.heap.size w wc))
  case first =>
    have H := HC4.out
    clear HC4
    by_cases c5 : a1 ≥ (l0.length : Int)
    · rw [if_pos c5] at H
      have c5b0 : decide ((l0.length : Int) ≤ a1) = true := decide_eq_true c5
      clear c5
      (first | rw [c5b0] | (simp only [i64_w, i32_w]; rw [c5b0]) | skip)
      have H' := Aside0.mk H
      clear H
      go_wp2
      go_meet
      case rel => exact ⟨_, (true), sr, H', ⟨by first | omega | exact Nat.le_refl _⟩, ⟨below_later HB.out⟩⟩
    · rw [if_neg c5] at H
      have c5b0 : decide ((l0.length : Int) ≤ a1) = false := decide_eq_false c5
      clear c5
      (first | rw [c5b0] | (simp only [i64_w, i32_w]; rw [c5b0]) | skip)
      by_cases c6 : a2 > 12
      · rw [if_pos c6] at H
        have c6b0 : decide (12 < a2) = true := decide_eq_true c6
        clear c6
        have H' := Aside0.mk H
        clear H
        go_wp2
        go_meet
        case rel => exact ⟨_, (true), sr, H', ⟨by first | omega | exact Nat.le_refl _⟩, ⟨below_later HB.out⟩⟩
      · rw [if_neg c6] at H
        have c6b0 : decide (12 < a2) = false := decide_eq_false c6
        clear c6
        replace H := ifd H
        obtain ⟨c7b0, H⟩ := H
        replace H := ifd H
        obtain ⟨c8b0, H⟩ := H
        replace H := bnd H
        obtain ⟨t115, A9, H⟩ := H
        have H' := Aside0.mk H
        clear H
        have p114 : 0 ≤ (a1 : Int) := dcd
        have q114 : a1 < (l0.length : Int) := dcd
        obtain ⟨ad114, e114, hx114_0, hx114_1, hx114_2, hx114_3, hx114_4⟩ := at_T57 HR0.out a1 p114 q114
        cases e114
        replace hx114_0 := crd HB hx114_0
        replace hx114_1 := crd HB hx114_1
        replace hx114_2 := crd HB hx114_2
        replace hx114_3 := crd HB hx114_3
        replace hx114_4 := crd HB hx114_4
        replace p114 := eq_true p114
        replace q114 := eq_true q114
        go_wp2_with (first | (go_at_call 69; (with_reducible refine (spec_l4Plain.calls k ((rd_T57 l0 a1).f0) ((rd_T57 l0 a1).f1) ((rd_T57 l0 a1).f2) ((rd_T57 l0 a1).f3) ((rd_T57 l0 a1).f4) t115 _ A9.out).mono ?_); rintro e w10 ⟨rfl, hb⟩; replace HB := bst HB hb; (try clear hb)))
        go_meet
        case rel => exact ⟨_, (!t115), sr, H', ⟨by first | omega | exact Nat.le_refl _⟩, ⟨below_later HB.out⟩⟩
  case rest =>
    clear HC4
    obtain ⟨kq, x27_3, rfl, HA, HJ3, HB⟩ := hcut
    cases kq with
    | zero => exact absurd HA.out (by simp [spec_l4Check.j0])
    | succ kj3 =>
      have H := HA.out
      clear HA
      simp only [spec_l4Check.j0] at H
      by_cases c11 : x27_3 = true
      · subst c11
        replace H := ifp rfl H
        obtain rfl := Option.some.inj H
        go_wp2
        go_ret
        exact fin_ (below_later HB.out)
      · replace c11 := Bool.eq_false_iff.mpr c11
        subst c11
        replace H := ifn Bool.false_ne_true H
        replace H := ifd H
        obtain ⟨c12b0, H⟩ := H
        replace H := ifd H
        obtain ⟨c13b0, H⟩ := H
        have H' := Aside0.mk H
        clear H
        have p116 : 0 ≤ (a1 : Int) := dcd
        have q116 : a1 < (l0.length : Int) := dcd
        obtain ⟨ad116, e116, hx116_0, hx116_1, hx116_2, hx116_3, hx116_4⟩ := at_T57 HR0.out a1 p116 q116
        cases e116
        replace hx116_0 := crd HB hx116_0
        replace hx116_1 := crd HB hx116_1
        replace hx116_2 := crd HB hx116_2
        replace hx116_3 := crd HB hx116_3
        replace hx116_4 := crd HB hx116_4
        replace p116 := eq_true p116
        replace q116 := eq_true q116
        go_wp2_with (first | ((with_reducible refine gate_dst (N := 7) rfl ?_); refine bx_ 7 #[.int .i64 0, .int .i64 0, .int .i64 0, .string (⟨#[]⟩ : ByteArray), .int .i64 0] 57 ?_; intro gb117 hg w14 hbox hb; have BK117 := Aside0.mk (hbox); have GW117 := gwe HB hg; have GE117 := GW117; replace HB := bst HB hb; clear hb hbox hg; obtain ⟨hcz15_0, hcz15_1, hcz15_2, hcz15_3, hcz15_4, hfz15_0, hfz15_1, hfz15_2, hfz15_3, hfz15_4⟩ := cl5 BK117))
        go_loopg [8, 9, 10] kj3 (fun kq v8 v9 v10 w' => ∃ (x8_2 : Int) (x9_2 : Int) (x10_2 : Int), v8 = .int .i64 x8_2 ∧ v9 = .int .i64 x9_2 ∧ v10 = .int .i64 x10_2 ∧ Aside0 (spec_l4Check.l0 kq l0 a2 x8_2 x9_2 x10_2 ((rd_T57 l0 a1).f0) ((rd_T57 l0 a1).f1) ((rd_T57 l0 a1).f2) ((rd_T57 l0 a1).f3) ((rd_T57 l0 a1).f4) = some r) ∧ Aside0 (kq ≤ kj3) ∧ Aside0 (w'.heap[gb117]? = some (.cells #[.int .i64 ((rd_T57 l0 a1).f0), .int .i64 ((rd_T57 l0 a1).f1), .int .i64 ((rd_T57 l0 a1).f2), .string ((rd_T57 l0 a1).f3), .int .i64 ((rd_T57 l0 a1).f4)] 57 (0, 0))) ∧ Aside0 (Below w.heap.size w w'))
        case atStart => exact ⟨(wrap64 (a1 + 1)), (0), (0), sr, sr, sr, H', ⟨Nat.le_refl _⟩, ⟨blk_later BK117.out⟩, ⟨below_later HB.out⟩⟩
        case round =>
          clear H'
          try clear c11
          try clear c12b0
          try clear c13b0
          try clear hcz15_0
          try clear hcz15_1
          try clear hcz15_2
          try clear hcz15_3
          try clear hcz15_4
          try clear hfz15_0
          try clear hfz15_1
          try clear hfz15_2
          try clear hfz15_3
          try clear hfz15_4
          try clear hx116_0
          try clear hx116_1
          try clear hx116_2
          try clear hx116_3
          try clear hx116_4
          try clear p116
          try clear q116
          obtain ⟨x8_2, x9_2, x10_2, rfl, rfl, rfl, HA, HK2, BK117, HB⟩ := hrel
          cases gk with
          | zero => exact absurd HA.out (by simp [spec_l4Check.l0])
          | succ k2 =>
            have H := HA.out
            clear HA
            simp only [spec_l4Check.l0] at H
            by_cases c16 : x10_2 < ((rd_T57 l0 a1).f4)
            · rw [if_pos c16] at H
              have c16b0 := decide_eq_true c16
              clear c16
              by_cases c17 : x8_2 ≥ (l0.length : Int)
              · rw [if_pos c17] at H
                have c17b0 : decide ((l0.length : Int) ≤ x8_2) = true := decide_eq_true c17
                clear c17
                obtain rfl := Option.some.inj H
                obtain ⟨hcz18_0, hcz18_1, hcz18_2, hcz18_3, hcz18_4, hfz18_0, hfz18_1, hfz18_2, hfz18_3, hfz18_4⟩ := cl5 BK117
                go_wp2
                go_ret
                exact fin_ (below_later HB.out)
              · rw [if_neg c17] at H
                have c17b0 : decide ((l0.length : Int) ≤ x8_2) = false := decide_eq_false c17
                clear c17
                replace H := ifd H
                obtain ⟨c19b0, H⟩ := H
                replace H := ifd H
                obtain ⟨c20b0, H⟩ := H
                have HC21 := Aside0.mk H
                clear H
                obtain ⟨hcz22_0, hcz22_1, hcz22_2, hcz22_3, hcz22_4, hfz22_0, hfz22_1, hfz22_2, hfz22_3, hfz22_4⟩ := cl5 BK117
                have p118 : 0 ≤ (x8_2 : Int) := dcd
                have q118 : x8_2 < (l0.length : Int) := dcd
                obtain ⟨ad118, e118, hx118_0, hx118_1, hx118_2, hx118_3, hx118_4⟩ := at_T57 HR0.out x8_2 p118 q118
                obtain rfl : ad116 = ad118 := (by injection e118)
                replace hx118_0 := crd HB hx118_0
                replace hx118_1 := crd HB hx118_1
                replace hx118_2 := crd HB hx118_2
                replace hx118_3 := crd HB hx118_3
                replace hx118_4 := crd HB hx118_4
                replace p118 := eq_true p118
                replace q118 := eq_true q118
                go_upto_region 12 with (first | ((with_reducible refine gate_dst (N := 11) rfl ?_); refine bx_ 11 #[.int .i64 0, .int .i64 0, .int .i64 0, .string (⟨#[]⟩ : ByteArray), .int .i64 0] 57 ?_; intro gb119 hg w23 hbox hb; have BK119 := Aside0.mk (hbox); have GW119 := gwe HB hg; have GE119 := GW119; have NB117_119 := nbl BK117 hg; have NB119_117 := nbr (nbl BK117 hg); replace BK117 := bkb BK117 hb; replace HB := bst HB hb; clear hb hbox hg; have hnb24 := NB119_117.out; have hnc24 := NB117_119.out; obtain ⟨hcz25_0, hcz25_1, hcz25_2, hcz25_3, hcz25_4, hfz25_0, hfz25_1, hfz25_2, hfz25_3, hfz25_4⟩ := cl5 BK119))
                (try simp only [Act.put, List.setIfInBounds_toArray, List.set_cons_zero, List.set_cons_succ])
                go_cut [78] (fun v78 wc => ∃ (kq : Nat) (x78_20 : Bool), v78 = .bool x78_20 ∧ Aside0 (spec_l4Check.j2 kq l0 a2 x8_2 x10_2 x78_20 ((rd_T57 l0 a1).f0) ((rd_T57 l0 a1).f1) ((rd_T57 l0 a1).f2) ((rd_T57 l0 a1).f3) ((rd_T57 l0 a1).f4) ((rd_T57 l0 x8_2).f0) ((rd_T57 l0 x8_2).f1) ((rd_T57 l0 x8_2).f2) ((rd_T57 l0 x8_2).f3) ((rd_T57 l0 x8_2).f4) = some r) ∧ Aside0 (kq ≤ k2) ∧ Aside0 (wc.heap[gb117]? = some (.cells #[.int .i64 ((rd_T57 l0 a1).f0), .int .i64 ((rd_T57 l0 a1).f1), .int .i64 ((rd_T57 l0 a1).f2), .string ((rd_T57 l0 a1).f3), .int .i64 ((rd_T57 l0 a1).f4)] 57 (0, 0))) ∧ Aside0 (wc.heap[gb119]? = some (.cells #[.int .i64 ((rd_T57 l0 x8_2).f0), .int .i64 ((rd_T57 l0 x8_2).f1), .int .i64 ((rd_T57 l0 x8_2).f2), .string ((rd_T57 l0 x8_2).f3), .int .i64 ((rd_T57 l0 x8_2).f4)] 57 (0, 0))) ∧ Aside0 (Below w.heap.size w wc))
                case first =>
                  have H := HC21.out
                  clear HC21
                  by_cases c26 : ((rd_T57 l0 a1).f0) = 9
                  · rw [if_pos c26] at H
                    have c26b0 : (((rd_T57 l0 a1).f0) == 9) = true := beq_iff_eq.mpr c26
                    have c26b1 : (((rd_T57 l0 a1).f0) != 9) = false := bne_eq_false_iff_eq.mpr c26
                    clear c26
                    (first | rw [c26b0] | rw [c26b1] | (simp only [i64_w, i32_w]; rw [c26b0]) | skip)
                    by_cases c27 : ((rd_T57 l0 x8_2).f0) = ((rd_T57 l0 a1).f2)
                    · rw [if_pos c27] at H
                      have c27b0 : (((rd_T57 l0 x8_2).f0) == ((rd_T57 l0 a1).f2)) = true := beq_iff_eq.mpr c27
                      have c27b1 : (((rd_T57 l0 x8_2).f0) != ((rd_T57 l0 a1).f2)) = false := bne_eq_false_iff_eq.mpr c27
                      clear c27
                      by_cases c28 : ((rd_T57 l0 x8_2).f1) = 0
                      · rw [if_pos c28] at H
                        have c28b0 : (((rd_T57 l0 x8_2).f1) == 0) = true := beq_iff_eq.mpr c28
                        have c28b1 : (((rd_T57 l0 x8_2).f1) != 0) = false := bne_eq_false_iff_eq.mpr c28
                        clear c28
                        by_cases c29 : ((rd_T57 l0 a1).f0) = 12
                        · rw [if_pos c29] at H
                          have c29b0 : (((rd_T57 l0 a1).f0) == 12) = true := beq_iff_eq.mpr c29
                          have c29b1 : (((rd_T57 l0 a1).f0) != 12) = false := bne_eq_false_iff_eq.mpr c29
                          clear c29
                          by_cases c30 : ((rd_T57 l0 x8_2).f1) ≤ x9_2
                          · rw [if_pos c30] at H
                            have c30b0 := decide_eq_true c30
                            clear c30
                            have H' := Aside0.mk H
                            clear H
                            have hnb31 := NB117_119.out
                            have hnc31 := NB119_117.out
                            obtain ⟨hcz32_0, hcz32_1, hcz32_2, hcz32_3, hcz32_4, hfz32_0, hfz32_1, hfz32_2, hfz32_3, hfz32_4⟩ := cl5 BK117
                            obtain ⟨hcz33_0, hcz33_1, hcz33_2, hcz33_3, hcz33_4, hfz33_0, hfz33_1, hfz33_2, hfz33_3, hfz33_4⟩ := cl5 BK119
                            go_wp2
                            go_meet
                            case rel => exact ⟨_, (true), sr, H', ⟨by have := HJ3.out; have := HK2.out; first | omega | exact Nat.le_refl _⟩, ⟨blk_later BK117.out⟩, ⟨blk_later BK119.out⟩, ⟨below_later HB.out⟩⟩
                          · rw [if_neg c30] at H
                            have c30b0 := decide_eq_false c30
                            clear c30
                            have H' := Aside0.mk H
                            clear H
                            have hnb34 := NB117_119.out
                            have hnc34 := NB119_117.out
                            obtain ⟨hcz35_0, hcz35_1, hcz35_2, hcz35_3, hcz35_4, hfz35_0, hfz35_1, hfz35_2, hfz35_3, hfz35_4⟩ := cl5 BK117
                            obtain ⟨hcz36_0, hcz36_1, hcz36_2, hcz36_3, hcz36_4, hfz36_0, hfz36_1, hfz36_2, hfz36_3, hfz36_4⟩ := cl5 BK119
                            go_wp2
                            go_meet
                            case rel => exact ⟨_, (decide (((rd_T57 l0 x8_2).f1) > 1000)), sr, H', ⟨by have := HJ3.out; have := HK2.out; first | omega | exact Nat.le_refl _⟩, ⟨blk_later BK117.out⟩, ⟨blk_later BK119.out⟩, ⟨below_later HB.out⟩⟩
                        · rw [if_neg c29] at H
                          have c29b0 : (((rd_T57 l0 a1).f0) == 12) = false := beq_eq_false_iff_ne.mpr c29
                          have c29b1 : (((rd_T57 l0 a1).f0) != 12) = true := bne_iff_ne.mpr c29
                          have H' := Aside0.mk H
                          clear H
                          have hnb37 := NB117_119.out
                          have hnc37 := NB119_117.out
                          obtain ⟨hcz38_0, hcz38_1, hcz38_2, hcz38_3, hcz38_4, hfz38_0, hfz38_1, hfz38_2, hfz38_3, hfz38_4⟩ := cl5 BK117
                          obtain ⟨hcz39_0, hcz39_1, hcz39_2, hcz39_3, hcz39_4, hfz39_0, hfz39_1, hfz39_2, hfz39_3, hfz39_4⟩ := cl5 BK119
                          go_wp2
                          go_meet
                          case rel => exact ⟨_, (false), sr, H', ⟨by have := HJ3.out; have := HK2.out; first | omega | exact Nat.le_refl _⟩, ⟨blk_later BK117.out⟩, ⟨blk_later BK119.out⟩, ⟨below_later HB.out⟩⟩
                      · rw [if_neg c28] at H
                        have c28b0 : (((rd_T57 l0 x8_2).f1) == 0) = false := beq_eq_false_iff_ne.mpr c28
                        have c28b1 : (((rd_T57 l0 x8_2).f1) != 0) = true := bne_iff_ne.mpr c28
                        have H' := Aside0.mk H
                        clear H
                        have hnb40 := NB117_119.out
                        have hnc40 := NB119_117.out
                        obtain ⟨hcz41_0, hcz41_1, hcz41_2, hcz41_3, hcz41_4, hfz41_0, hfz41_1, hfz41_2, hfz41_3, hfz41_4⟩ := cl5 BK117
                        obtain ⟨hcz42_0, hcz42_1, hcz42_2, hcz42_3, hcz42_4, hfz42_0, hfz42_1, hfz42_2, hfz42_3, hfz42_4⟩ := cl5 BK119
                        go_wp2
                        go_meet
                        case rel => exact ⟨_, (true), sr, H', ⟨by have := HJ3.out; have := HK2.out; first | omega | exact Nat.le_refl _⟩, ⟨blk_later BK117.out⟩, ⟨blk_later BK119.out⟩, ⟨below_later HB.out⟩⟩
                    · rw [if_neg c27] at H
                      have c27b0 : (((rd_T57 l0 x8_2).f0) == ((rd_T57 l0 a1).f2)) = false := beq_eq_false_iff_ne.mpr c27
                      have c27b1 : (((rd_T57 l0 x8_2).f0) != ((rd_T57 l0 a1).f2)) = true := bne_iff_ne.mpr c27
                      have H' := Aside0.mk H
                      clear H
                      have hnb43 := NB117_119.out
                      have hnc43 := NB119_117.out
                      obtain ⟨hcz44_0, hcz44_1, hcz44_2, hcz44_3, hcz44_4, hfz44_0, hfz44_1, hfz44_2, hfz44_3, hfz44_4⟩ := cl5 BK117
                      obtain ⟨hcz45_0, hcz45_1, hcz45_2, hcz45_3, hcz45_4, hfz45_0, hfz45_1, hfz45_2, hfz45_3, hfz45_4⟩ := cl5 BK119
                      go_wp2
                      go_meet
                      case rel => exact ⟨_, (true), sr, H', ⟨by have := HJ3.out; have := HK2.out; first | omega | exact Nat.le_refl _⟩, ⟨blk_later BK117.out⟩, ⟨blk_later BK119.out⟩, ⟨below_later HB.out⟩⟩
                  · rw [if_neg c26] at H
                    have c26b0 : (((rd_T57 l0 a1).f0) == 9) = false := beq_eq_false_iff_ne.mpr c26
                    have c26b1 : (((rd_T57 l0 a1).f0) != 9) = true := bne_iff_ne.mpr c26
                    (first | rw [c26b0] | rw [c26b1] | (simp only [i64_w, i32_w]; rw [c26b0]) | skip)
                    by_cases c46 : ((rd_T57 l0 a1).f0) = 12
                    · rw [if_pos c46] at H
                      have c46b0 : (((rd_T57 l0 a1).f0) == 12) = true := beq_iff_eq.mpr c46
                      have c46b1 : (((rd_T57 l0 a1).f0) != 12) = false := bne_eq_false_iff_eq.mpr c46
                      clear c46
                      by_cases c47 : ((rd_T57 l0 x8_2).f1) ≤ x9_2
                      · rw [if_pos c47] at H
                        have c47b0 := decide_eq_true c47
                        clear c47
                        have H' := Aside0.mk H
                        clear H
                        have hnb48 := NB117_119.out
                        have hnc48 := NB119_117.out
                        obtain ⟨hcz49_0, hcz49_1, hcz49_2, hcz49_3, hcz49_4, hfz49_0, hfz49_1, hfz49_2, hfz49_3, hfz49_4⟩ := cl5 BK117
                        obtain ⟨hcz50_0, hcz50_1, hcz50_2, hcz50_3, hcz50_4, hfz50_0, hfz50_1, hfz50_2, hfz50_3, hfz50_4⟩ := cl5 BK119
                        go_wp2
                        go_meet
                        case rel => exact ⟨_, (true), sr, H', ⟨by have := HJ3.out; have := HK2.out; first | omega | exact Nat.le_refl _⟩, ⟨blk_later BK117.out⟩, ⟨blk_later BK119.out⟩, ⟨below_later HB.out⟩⟩
                      · rw [if_neg c47] at H
                        have c47b0 := decide_eq_false c47
                        clear c47
                        have H' := Aside0.mk H
                        clear H
                        have hnb51 := NB117_119.out
                        have hnc51 := NB119_117.out
                        obtain ⟨hcz52_0, hcz52_1, hcz52_2, hcz52_3, hcz52_4, hfz52_0, hfz52_1, hfz52_2, hfz52_3, hfz52_4⟩ := cl5 BK117
                        obtain ⟨hcz53_0, hcz53_1, hcz53_2, hcz53_3, hcz53_4, hfz53_0, hfz53_1, hfz53_2, hfz53_3, hfz53_4⟩ := cl5 BK119
                        go_wp2
                        go_meet
                        case rel => exact ⟨_, (decide (((rd_T57 l0 x8_2).f1) > 1000)), sr, H', ⟨by have := HJ3.out; have := HK2.out; first | omega | exact Nat.le_refl _⟩, ⟨blk_later BK117.out⟩, ⟨blk_later BK119.out⟩, ⟨below_later HB.out⟩⟩
                    · rw [if_neg c46] at H
                      have c46b0 : (((rd_T57 l0 a1).f0) == 12) = false := beq_eq_false_iff_ne.mpr c46
                      have c46b1 : (((rd_T57 l0 a1).f0) != 12) = true := bne_iff_ne.mpr c46
                      have H' := Aside0.mk H
                      clear H
                      have hnb54 := NB117_119.out
                      have hnc54 := NB119_117.out
                      obtain ⟨hcz55_0, hcz55_1, hcz55_2, hcz55_3, hcz55_4, hfz55_0, hfz55_1, hfz55_2, hfz55_3, hfz55_4⟩ := cl5 BK117
                      go_wp2
                      go_meet
                      case rel => exact ⟨_, (false), sr, H', ⟨by have := HJ3.out; have := HK2.out; first | omega | exact Nat.le_refl _⟩, ⟨blk_later BK117.out⟩, ⟨blk_later BK119.out⟩, ⟨below_later HB.out⟩⟩
                case rest =>
                  clear HC21
                  try clear c11
                  try clear c12b0
                  try clear c13b0
                  try clear c16
                  try clear c16b0
                  try clear c17
                  try clear c17b0
                  try clear c19b0
                  try clear c20b0
                  try clear hcz15_0
                  try clear hcz15_1
                  try clear hcz15_2
                  try clear hcz15_3
                  try clear hcz15_4
                  try clear hcz22_0
                  try clear hcz22_1
                  try clear hcz22_2
                  try clear hcz22_3
                  try clear hcz22_4
                  try clear hcz25_0
                  try clear hcz25_1
                  try clear hcz25_2
                  try clear hcz25_3
                  try clear hcz25_4
                  try clear hfz15_0
                  try clear hfz15_1
                  try clear hfz15_2
                  try clear hfz15_3
                  try clear hfz15_4
                  try clear hfz22_0
                  try clear hfz22_1
                  try clear hfz22_2
                  try clear hfz22_3
                  try clear hfz22_4
                  try clear hfz25_0
                  try clear hfz25_1
                  try clear hfz25_2
                  try clear hfz25_3
                  try clear hfz25_4
                  try clear hx116_0
                  try clear hx116_1
                  try clear hx116_2
                  try clear hx116_3
                  try clear hx116_4
                  try clear hx118_0
                  try clear hx118_1
                  try clear hx118_2
                  try clear hx118_3
                  try clear hx118_4
                  try clear p116
                  try clear p118
                  try clear q116
                  try clear q118
                  obtain ⟨kq, x78_20, rfl, HA, HJ20, BK117, BK119, HB⟩ := hcut
                  cases kq with
                  | zero => exact absurd HA.out (by simp [spec_l4Check.j2])
                  | succ kj20 =>
                    have H := HA.out
                    clear HA
                    simp only [spec_l4Check.j2] at H
                    by_cases c56 : x78_20 = true
                    · subst c56
                      replace H := ifp rfl H
                      obtain rfl := Option.some.inj H
                      go_wp2
                      go_ret
                      exact fin_ (below_later HB.out)
                    · replace c56 := Bool.eq_false_iff.mpr c56
                      subst c56
                      replace H := ifn Bool.false_ne_true H
                      replace H := bnd H
                      obtain ⟨t120, A57, H⟩ := H
                      by_cases c58 : t120 < 0
                      · rw [if_pos c58] at H
                        have c58b0 := decide_eq_true c58
                        clear c58
                        obtain rfl := Option.some.inj H
                        have hnb59 := NB119_117.out
                        have hnc59 := NB117_119.out
                        obtain ⟨hcz60_0, hcz60_1, hcz60_2, hcz60_3, hcz60_4, hfz60_0, hfz60_1, hfz60_2, hfz60_3, hfz60_4⟩ := cl5 BK119
                        go_wp2_with (first | ((with_reducible refine gate_callee (f := 42) rfl ?_); refine gl_ (some 85) Try.func42 #[.slice (some ad116) l0.length c0, .int .i64 x8_2, .int .i64 (wrap64 (a2 + 1))] rfl ?_; (with_reducible refine (ih kj20 (by have := HJ3.out; have := HK2.out; have := HJ20.out; omega) _ _ l0 x8_2 (wrap64 (a2 + 1)) t120 _ ?side1 ?side2 A57.out).mono ?_); (case side1 => repeat (first | exact (Kd.C_below HR0.out HB.out) | (with_reducible refine Kd.C_alloc ?_ _) | (with_reducible refine Kd.C_drewN ?_ _) | (with_reducible refine Kd.C_drew ?_))); (case side2 => exact HC0.out); rintro e w61 ⟨rfl, hb⟩; refine ⟨_, rfl, ?_⟩; replace BK117 := bkb BK117 hb; replace BK119 := bkb BK119 hb; replace HB := bst HB hb; (try clear hb)))
                        go_ret
                        exact fin_ (below_later HB.out)
                      · rw [if_neg c58] at H
                        have c58b0 := decide_eq_false c58
                        clear c58
                        have H' := Aside0.mk H
                        clear H
                        have hnb62 := NB119_117.out
                        have hnc62 := NB117_119.out
                        obtain ⟨hcz63_0, hcz63_1, hcz63_2, hcz63_3, hcz63_4, hfz63_0, hfz63_1, hfz63_2, hfz63_3, hfz63_4⟩ := cl5 BK119
                        go_wp2_with (first | ((with_reducible refine gate_callee (f := 42) rfl ?_); refine gl_ (some 85) Try.func42 #[.slice (some ad116) l0.length c0, .int .i64 x8_2, .int .i64 (wrap64 (a2 + 1))] rfl ?_; (with_reducible refine (ih kj20 (by have := HJ3.out; have := HK2.out; have := HJ20.out; omega) _ _ l0 x8_2 (wrap64 (a2 + 1)) t120 _ ?side1 ?side2 A57.out).mono ?_); (case side1 => repeat (first | exact (Kd.C_below HR0.out HB.out) | (with_reducible refine Kd.C_alloc ?_ _) | (with_reducible refine Kd.C_drewN ?_ _) | (with_reducible refine Kd.C_drew ?_))); (case side2 => exact HC0.out); rintro e w64 ⟨rfl, hb⟩; refine ⟨_, rfl, ?_⟩; replace BK117 := bkb BK117 hb; replace BK119 := bkb BK119 hb; replace HB := bst HB hb; (try clear hb)))
                        go_roundg kj20
                        case measure => have := HJ3.out; have := HK2.out; have := HJ20.out; omega
                        case rel => exact ⟨(t120), (((rd_T57 l0 x8_2).f1)), (wrap64 (x10_2 + 1)), sr, sr, sr, H', ⟨by have := HJ3.out; have := HK2.out; have := HJ20.out; omega⟩, ⟨blk_later BK117.out⟩, ⟨below_later HB.out⟩⟩
            · rw [if_neg c16] at H
              have c16b0 := decide_eq_false c16
              clear c16
              obtain rfl := Option.some.inj H
              obtain ⟨hcz65_0, hcz65_1, hcz65_2, hcz65_3, hcz65_4, hfz65_0, hfz65_1, hfz65_2, hfz65_3, hfz65_4⟩ := cl5 BK117
              go_wp2
              go_ret
              exact fin_ (below_later HB.out)
/-! ### spec_TreeOk: function 23 -/
def spec_TreeOk.f (k : Nat) (l0 : List (S57)) : Option (Bool) := (spec_l1In.f (l0.length : Int) 1 1500).bind fun t121 => (if t121 = true then (if 0 < (l0.length : Int) then (if ((rd_T57 l0 0).f0) = 12 then (if ((rd_T57 l0 0).f1) = 0 then ((spec_l4Check.f k l0 0 1).bind fun t124 => (some (t124 == (l0.length : Int)))) else (some false)) else (some false)) else (none)) else (some false))
set_option maxHeartbeats 8000000 in
set_option maxRecDepth 100000 in
theorem spec_TreeOk.calls (k : Nat) (A0 : Option Addr) (c0 : Nat) (l0 : List (S57)) (r : Bool) (w : World) (hr0 : Kd.C k57 w A0 l0.length l0) (hc0 : l0.length ≤ c0) (h : spec_TreeOk.f k l0 = some r) :
    Calls Try.prog 23 #[.slice A0 l0.length c0] w fun e w' => e = .returned (.bool r) ∧ Below w.heap.size w w' := by
  have HR0 := Aside0.mk hr0
  have HC0 := Aside0.mk hc0
  clear hr0 hc0
  have HB := Aside0.mk (Below.refl w.heap.size w)
  have H : ((spec_l1In.f (l0.length : Int) 1 1500).bind fun t121 => (if t121 = true then (if 0 < (l0.length : Int) then (if ((rd_T57 l0 0).f0) = 12 then (if ((rd_T57 l0 0).f1) = 0 then ((spec_l4Check.f k l0 0 1).bind fun t124 => (some (t124 == (l0.length : Int)))) else (some false)) else (some false)) else (none)) else (some false))) = some r := h
  clear h
  replace H := bnd H
  obtain ⟨t121, A2, H⟩ := H
  by_cases c3 : t121 = true
  · subst c3
    replace H := ifp rfl H
    replace H := ifs H
    obtain ⟨c4, H⟩ := H
    have c4b0 := decide_eq_true c4
    have c4b1 : decide (0 < l0.length) = true := decide_eq_true (by omega)
    clear c4
    by_cases c5 : ((rd_T57 l0 0).f0) = 12
    · rw [if_pos c5] at H
      have c5b0 : (((rd_T57 l0 0).f0) == 12) = true := beq_iff_eq.mpr c5
      have c5b1 : (((rd_T57 l0 0).f0) != 12) = false := bne_eq_false_iff_eq.mpr c5
      clear c5
      by_cases c6 : ((rd_T57 l0 0).f1) = 0
      · rw [if_pos c6] at H
        have c6b0 : (((rd_T57 l0 0).f1) == 0) = true := beq_iff_eq.mpr c6
        have c6b1 : (((rd_T57 l0 0).f1) != 0) = false := bne_eq_false_iff_eq.mpr c6
        clear c6
        replace H := bnd H
        obtain ⟨t124, A7, H⟩ := H
        obtain rfl := Option.some.inj H
        go_enter Try.func23, Try.ntmps23
        go_wp2_with (first | ((with_reducible refine gate_callee (f := 24) rfl ?_); refine gl_ (some 5) Try.func24 #[.int .i64 (l0.length : Int), .int .i64 1, .int .i64 1500] rfl ?_; (with_reducible refine (spec_l1In.calls (l0.length : Int) 1 1500 true _ A2.out).mono ?_); rintro e w' ⟨rfl, ⟨nd, rfl⟩⟩; refine ⟨_, rfl, ?_⟩; have p122 : 0 ≤ (0 : Int) := (by omega); have q122 : 0 < (l0.length : Int) := dcd; obtain ⟨ad122, e122, hx122_0, hx122_1, hx122_2, hx122_3, hx122_4⟩ := at_T57 HR0.out 0 p122 q122; cases e122; have qi122 : (0 < l0.length) = True := eq_true (by omega); (try rw [show ((0 : Int)).toNat = 0 from rfl] at hx122_0); (try rw [show 0 * 5 = 0 from rfl] at hx122_0); (try rw [Addr.add_zero'] at hx122_0); (try rw [show ((0 : Int)).toNat = 0 from rfl] at hx122_1); (try rw [show 0 * 5 = 0 from rfl] at hx122_1); (try rw [Addr.add_zero'] at hx122_1); (try rw [show ((0 : Int)).toNat = 0 from rfl] at hx122_2); (try rw [show 0 * 5 = 0 from rfl] at hx122_2); (try rw [Addr.add_zero'] at hx122_2); (try rw [show ((0 : Int)).toNat = 0 from rfl] at hx122_3); (try rw [show 0 * 5 = 0 from rfl] at hx122_3); (try rw [Addr.add_zero'] at hx122_3); (try rw [show ((0 : Int)).toNat = 0 from rfl] at hx122_4); (try rw [show 0 * 5 = 0 from rfl] at hx122_4); (try rw [Addr.add_zero'] at hx122_4); replace p122 := eq_true p122; replace q122 := eq_true q122; have p123 : 0 ≤ (0 : Int) := (by omega); have q123 : 0 < (l0.length : Int) := dcd; obtain ⟨ad123, e123, hx123_0, hx123_1, hx123_2, hx123_3, hx123_4⟩ := at_T57 HR0.out 0 p123 q123; obtain rfl : ad122 = ad123 := (by injection e123); have qi123 : (0 < l0.length) = True := eq_true (by omega); (try rw [show ((0 : Int)).toNat = 0 from rfl] at hx123_0); (try rw [show 0 * 5 = 0 from rfl] at hx123_0); (try rw [Addr.add_zero'] at hx123_0); (try rw [show ((0 : Int)).toNat = 0 from rfl] at hx123_1); (try rw [show 0 * 5 = 0 from rfl] at hx123_1); (try rw [Addr.add_zero'] at hx123_1); (try rw [show ((0 : Int)).toNat = 0 from rfl] at hx123_2); (try rw [show 0 * 5 = 0 from rfl] at hx123_2); (try rw [Addr.add_zero'] at hx123_2); (try rw [show ((0 : Int)).toNat = 0 from rfl] at hx123_3); (try rw [show 0 * 5 = 0 from rfl] at hx123_3); (try rw [Addr.add_zero'] at hx123_3); (try rw [show ((0 : Int)).toNat = 0 from rfl] at hx123_4); (try rw [show 0 * 5 = 0 from rfl] at hx123_4); (try rw [Addr.add_zero'] at hx123_4); replace p123 := eq_true p123; replace q123 := eq_true q123) | ((with_reducible refine gate_callee (f := 42) rfl ?_); refine gl_ (some 22) Try.func42 #[.slice (some ad122) l0.length c0, .int .i64 0, .int .i64 1] rfl ?_; (with_reducible refine (spec_l4Check.calls k _ _ l0 0 1 t124 _ ?side1 ?side2 A7.out).mono ?_); (case side1 => exact C_later HR0.out); (case side2 => exact HC0.out); rintro e w8 ⟨rfl, hb⟩; refine ⟨_, rfl, ?_⟩; replace HB := bst HB hb; (try clear hb)))
        go_ret
        exact fin_ (below_later HB.out)
      · rw [if_neg c6] at H
        have c6b0 : (((rd_T57 l0 0).f1) == 0) = false := beq_eq_false_iff_ne.mpr c6
        have c6b1 : (((rd_T57 l0 0).f1) != 0) = true := bne_iff_ne.mpr c6
        obtain rfl := Option.some.inj H
        go_enter Try.func23, Try.ntmps23
        go_wp2_with (first | ((with_reducible refine gate_callee (f := 24) rfl ?_); refine gl_ (some 5) Try.func24 #[.int .i64 (l0.length : Int), .int .i64 1, .int .i64 1500] rfl ?_; (with_reducible refine (spec_l1In.calls (l0.length : Int) 1 1500 true _ A2.out).mono ?_); rintro e w' ⟨rfl, ⟨nd, rfl⟩⟩; refine ⟨_, rfl, ?_⟩; have p122 : 0 ≤ (0 : Int) := (by omega); have q122 : 0 < (l0.length : Int) := dcd; obtain ⟨ad122, e122, hx122_0, hx122_1, hx122_2, hx122_3, hx122_4⟩ := at_T57 HR0.out 0 p122 q122; cases e122; have qi122 : (0 < l0.length) = True := eq_true (by omega); (try rw [show ((0 : Int)).toNat = 0 from rfl] at hx122_0); (try rw [show 0 * 5 = 0 from rfl] at hx122_0); (try rw [Addr.add_zero'] at hx122_0); (try rw [show ((0 : Int)).toNat = 0 from rfl] at hx122_1); (try rw [show 0 * 5 = 0 from rfl] at hx122_1); (try rw [Addr.add_zero'] at hx122_1); (try rw [show ((0 : Int)).toNat = 0 from rfl] at hx122_2); (try rw [show 0 * 5 = 0 from rfl] at hx122_2); (try rw [Addr.add_zero'] at hx122_2); (try rw [show ((0 : Int)).toNat = 0 from rfl] at hx122_3); (try rw [show 0 * 5 = 0 from rfl] at hx122_3); (try rw [Addr.add_zero'] at hx122_3); (try rw [show ((0 : Int)).toNat = 0 from rfl] at hx122_4); (try rw [show 0 * 5 = 0 from rfl] at hx122_4); (try rw [Addr.add_zero'] at hx122_4); replace p122 := eq_true p122; replace q122 := eq_true q122; have p123 : 0 ≤ (0 : Int) := (by omega); have q123 : 0 < (l0.length : Int) := dcd; obtain ⟨ad123, e123, hx123_0, hx123_1, hx123_2, hx123_3, hx123_4⟩ := at_T57 HR0.out 0 p123 q123; obtain rfl : ad122 = ad123 := (by injection e123); have qi123 : (0 < l0.length) = True := eq_true (by omega); (try rw [show ((0 : Int)).toNat = 0 from rfl] at hx123_0); (try rw [show 0 * 5 = 0 from rfl] at hx123_0); (try rw [Addr.add_zero'] at hx123_0); (try rw [show ((0 : Int)).toNat = 0 from rfl] at hx123_1); (try rw [show 0 * 5 = 0 from rfl] at hx123_1); (try rw [Addr.add_zero'] at hx123_1); (try rw [show ((0 : Int)).toNat = 0 from rfl] at hx123_2); (try rw [show 0 * 5 = 0 from rfl] at hx123_2); (try rw [Addr.add_zero'] at hx123_2); (try rw [show ((0 : Int)).toNat = 0 from rfl] at hx123_3); (try rw [show 0 * 5 = 0 from rfl] at hx123_3); (try rw [Addr.add_zero'] at hx123_3); (try rw [show ((0 : Int)).toNat = 0 from rfl] at hx123_4); (try rw [show 0 * 5 = 0 from rfl] at hx123_4); (try rw [Addr.add_zero'] at hx123_4); replace p123 := eq_true p123; replace q123 := eq_true q123))
        go_ret
        exact fin_ (below_later HB.out)
    · rw [if_neg c5] at H
      have c5b0 : (((rd_T57 l0 0).f0) == 12) = false := beq_eq_false_iff_ne.mpr c5
      have c5b1 : (((rd_T57 l0 0).f0) != 12) = true := bne_iff_ne.mpr c5
      obtain rfl := Option.some.inj H
      go_enter Try.func23, Try.ntmps23
      go_wp2_with (first | ((with_reducible refine gate_callee (f := 24) rfl ?_); refine gl_ (some 5) Try.func24 #[.int .i64 (l0.length : Int), .int .i64 1, .int .i64 1500] rfl ?_; (with_reducible refine (spec_l1In.calls (l0.length : Int) 1 1500 true _ A2.out).mono ?_); rintro e w' ⟨rfl, ⟨nd, rfl⟩⟩; refine ⟨_, rfl, ?_⟩; have p122 : 0 ≤ (0 : Int) := (by omega); have q122 : 0 < (l0.length : Int) := dcd; obtain ⟨ad122, e122, hx122_0, hx122_1, hx122_2, hx122_3, hx122_4⟩ := at_T57 HR0.out 0 p122 q122; cases e122; have qi122 : (0 < l0.length) = True := eq_true (by omega); (try rw [show ((0 : Int)).toNat = 0 from rfl] at hx122_0); (try rw [show 0 * 5 = 0 from rfl] at hx122_0); (try rw [Addr.add_zero'] at hx122_0); (try rw [show ((0 : Int)).toNat = 0 from rfl] at hx122_1); (try rw [show 0 * 5 = 0 from rfl] at hx122_1); (try rw [Addr.add_zero'] at hx122_1); (try rw [show ((0 : Int)).toNat = 0 from rfl] at hx122_2); (try rw [show 0 * 5 = 0 from rfl] at hx122_2); (try rw [Addr.add_zero'] at hx122_2); (try rw [show ((0 : Int)).toNat = 0 from rfl] at hx122_3); (try rw [show 0 * 5 = 0 from rfl] at hx122_3); (try rw [Addr.add_zero'] at hx122_3); (try rw [show ((0 : Int)).toNat = 0 from rfl] at hx122_4); (try rw [show 0 * 5 = 0 from rfl] at hx122_4); (try rw [Addr.add_zero'] at hx122_4); replace p122 := eq_true p122; replace q122 := eq_true q122))
      go_ret
      exact fin_ (below_later HB.out)
  · replace c3 := Bool.eq_false_iff.mpr c3
    subst c3
    replace H := ifn Bool.false_ne_true H
    obtain rfl := Option.some.inj H
    go_enter Try.func23, Try.ntmps23
    go_wp2_with (first | ((with_reducible refine gate_callee (f := 24) rfl ?_); refine gl_ (some 5) Try.func24 #[.int .i64 (l0.length : Int), .int .i64 1, .int .i64 1500] rfl ?_; (with_reducible refine (spec_l1In.calls (l0.length : Int) 1 1500 false _ A2.out).mono ?_); rintro e w' ⟨rfl, ⟨nd, rfl⟩⟩; refine ⟨_, rfl, ?_⟩))
    go_ret
    exact fin_ (below_later HB.out)

/-! ### spec_l4After: function 70 -/
mutual
def spec_l4After.l0 : Nat → List (S57) → Int → Int → Int → Option (Int)
  | 0, _, _, _, _ => none
  | k + 1, x0, x1, x5, x6 => if 0 ≤ x1 then (if x1 < (x0.length : Int) then (if x6 < ((rd_T57 x0 x1).f4) then ((spec_l4After.f k x0 x5).bind fun t126 => (spec_l4After.l0 k x0 x1 t126 (wrap64 (x6 + 1)))) else (some x5)) else (none)) else (none)
def spec_l4After.f : Nat → List (S57) → Int → Option (Int)
  | 0, _, _ => none
  | k + 1, l0, a1 => spec_l4After.l0 k l0 a1 (wrap64 (a1 + 1)) 0
end
set_option maxHeartbeats 8000000 in
set_option maxRecDepth 100000 in
theorem spec_l4After.calls (k : Nat) : ∀ (A0 : Option Addr) (c0 : Nat) (l0 : List (S57)) (a1 : Int) (r : Int) (w : World) (hr0 : Kd.C k57 w A0 l0.length l0) (hc0 : l0.length ≤ c0) (h : spec_l4After.f k l0 a1 = some r),
    Calls Try.prog 70 #[.slice A0 l0.length c0, .int .i64 a1] w fun e w' => e = .returned (.int .i64 r) ∧ Drawn0 w w' := by
  induction k using Nat.strongRecOn with
  | _ k ih =>
  intro A0 c0 l0 a1 r w hr0 hc0 h
  cases k with
  | zero => exact absurd h (by simp [spec_l4After.f])
  | succ k =>
  simp only [spec_l4After.f] at h
  have HR0 := Aside0.mk hr0
  have HC0 := Aside0.mk hc0
  clear hr0 hc0
  have H : (spec_l4After.l0 k l0 a1 (wrap64 (a1 + 1)) 0) = some r := h
  clear h
  have H' := Aside0.mk H
  clear H
  go_enter Try.func70, Try.ntmps70
  go_wp2
  go_loopg [5, 6] k (fun kq v5 v6 w' => ∃ (x5_1 : Int) (x6_1 : Int), v5 = .int .i64 x5_1 ∧ v6 = .int .i64 x6_1 ∧ Aside0 (spec_l4After.l0 kq l0 a1 x5_1 x6_1 = some r) ∧ Aside0 (kq ≤ k) ∧ Drawn0 w w')
  case atStart => exact ⟨(wrap64 (a1 + 1)), (0), sr, sr, H', ⟨Nat.le_refl _⟩, by repeat (first | exact Drawn0.refl _ | apply Drawn0.step)⟩
  case round =>
    clear H'
    obtain ⟨x5_1, x6_1, rfl, rfl, HA, HK1, ⟨m1, rfl⟩⟩ := hrel
    cases gk with
    | zero => exact absurd HA.out (by simp [spec_l4After.l0])
    | succ k1 =>
      have H := HA.out
      clear HA
      simp only [spec_l4After.l0] at H
      replace H := ifd H
      obtain ⟨c3b0, H⟩ := H
      replace H := ifd H
      obtain ⟨c4b0, H⟩ := H
      by_cases c5 : x6_1 < ((rd_T57 l0 a1).f4)
      · rw [if_pos c5] at H
        have c5b0 := decide_eq_true c5
        clear c5
        replace H := bnd H
        obtain ⟨t126, A6, H⟩ := H
        have H' := Aside0.mk H
        clear H
        have p125 : 0 ≤ (a1 : Int) := dcd
        have q125 : a1 < (l0.length : Int) := dcd
        obtain ⟨ad125, e125, hx125_0, hx125_1, hx125_2, hx125_3, hx125_4⟩ := at_T57 HR0.out a1 p125 q125
        cases e125
        replace p125 := eq_true p125
        replace q125 := eq_true q125
        go_wp2_with (first | ((with_reducible refine gate_callee (f := 70) rfl ?_); refine gl_ (some 20) Try.func70 #[.slice (some ad125) l0.length c0, .int .i64 x5_1] rfl ?_; (with_reducible refine (ih k1 (by have := HK1.out; omega) _ _ l0 x5_1 t126 _ ?side1 ?side2 A6.out).mono ?_); (case side1 => exact C_later HR0.out); (case side2 => exact HC0.out); rintro e w' ⟨rfl, ⟨nd, rfl⟩⟩; refine ⟨_, rfl, ?_⟩))
        go_roundg k1
        case measure => have := HK1.out; omega
        case rel => exact ⟨(t126), (wrap64 (x6_1 + 1)), sr, sr, H', ⟨by have := HK1.out; omega⟩, by repeat (first | exact Drawn0.refl _ | apply Drawn0.step)⟩
      · rw [if_neg c5] at H
        have c5b0 := decide_eq_false c5
        clear c5
        obtain rfl := Option.some.inj H
        have p125 : 0 ≤ (a1 : Int) := dcd
        have q125 : a1 < (l0.length : Int) := dcd
        obtain ⟨ad125, e125, hx125_0, hx125_1, hx125_2, hx125_3, hx125_4⟩ := at_T57 HR0.out a1 p125 q125
        cases e125
        replace p125 := eq_true p125
        replace q125 := eq_true q125
        go_wp2
        go_ret
        exact ⟨by first | rfl | (simp; done) | (simp [*]; done), by repeat (first | exact Drawn0.refl _ | apply Drawn0.step)⟩
/-! ### spec_l4Find: function 45 -/
def spec_l4Find.l0 : Nat → List (S57) → Int → Int → Int → Int → Option (Int)
  | 0, _, _, _, _, _ => none
  | k + 1, x0, x1, x2, x7, x8 => if 0 ≤ x1 then (if x1 < (x0.length : Int) then (if x8 < ((rd_T57 x0 x1).f4) then (if 0 ≤ x7 then (if x7 < (x0.length : Int) then (if ((rd_T57 x0 x7).f1) = x2 then (some x7) else ((spec_l4After.f k x0 x7).bind fun t130 => (spec_l4Find.l0 k x0 x1 x2 t130 (wrap64 (x8 + 1))))) else (none)) else (none)) else (some (-1))) else (none)) else (none)
def spec_l4Find.f (k : Nat) (l0 : List (S57)) (a1 : Int) (a2 : Int) : Option (Int) := if 0 ≤ a1 then (if a1 < (l0.length : Int) then (if ((rd_T57 l0 a1).f0) = 12 then (spec_l4Find.l0 k l0 a1 a2 (wrap64 (a1 + 1)) 0) else (some (-1))) else (none)) else (none)
set_option maxHeartbeats 8000000 in
set_option maxRecDepth 100000 in
theorem spec_l4Find.calls (k : Nat) (A0 : Option Addr) (c0 : Nat) (l0 : List (S57)) (a1 : Int) (a2 : Int) (r : Int) (w : World) (hr0 : Kd.C k57 w A0 l0.length l0) (hc0 : l0.length ≤ c0) (h : spec_l4Find.f k l0 a1 a2 = some r) :
    Calls Try.prog 45 #[.slice A0 l0.length c0, .int .i64 a1, .int .i64 a2] w fun e w' => e = .returned (.int .i64 r) ∧ Drawn0 w w' := by
  have HR0 := Aside0.mk hr0
  have HC0 := Aside0.mk hc0
  clear hr0 hc0
  have H : (if 0 ≤ a1 then (if a1 < (l0.length : Int) then (if ((rd_T57 l0 a1).f0) = 12 then (spec_l4Find.l0 k l0 a1 a2 (wrap64 (a1 + 1)) 0) else (some (-1))) else (none)) else (none)) = some r := h
  clear h
  replace H := ifd H
  obtain ⟨c4b0, H⟩ := H
  replace H := ifd H
  obtain ⟨c5b0, H⟩ := H
  by_cases c6 : ((rd_T57 l0 a1).f0) = 12
  · rw [if_pos c6] at H
    have c6b0 : (((rd_T57 l0 a1).f0) == 12) = true := beq_iff_eq.mpr c6
    have c6b1 : (((rd_T57 l0 a1).f0) != 12) = false := bne_eq_false_iff_eq.mpr c6
    clear c6
    have H' := Aside0.mk H
    clear H
    have p127 : 0 ≤ (a1 : Int) := dcd
    have q127 : a1 < (l0.length : Int) := dcd
    obtain ⟨ad127, e127, hx127_0, hx127_1, hx127_2, hx127_3, hx127_4⟩ := at_T57 HR0.out a1 p127 q127
    cases e127
    replace p127 := eq_true p127
    replace q127 := eq_true q127
    go_enter Try.func45, Try.ntmps45
    go_wp2
    go_loopg [7, 8] k (fun kq v7 v8 w' => ∃ (x7_1 : Int) (x8_1 : Int), v7 = .int .i64 x7_1 ∧ v8 = .int .i64 x8_1 ∧ Aside0 (spec_l4Find.l0 kq l0 a1 a2 x7_1 x8_1 = some r) ∧ Aside0 (kq ≤ k) ∧ Drawn0 w w')
    case atStart => exact ⟨(wrap64 (a1 + 1)), (0), sr, sr, H', ⟨Nat.le_refl _⟩, by repeat (first | exact Drawn0.refl _ | apply Drawn0.step)⟩
    case round =>
      clear H'
      try clear c4b0
      try clear c5b0
      try clear c6
      try clear c6b0
      try clear c6b1
      try clear hx127_0
      try clear hx127_1
      try clear hx127_2
      try clear hx127_3
      try clear hx127_4
      try clear p127
      try clear q127
      obtain ⟨x7_1, x8_1, rfl, rfl, HA, HK1, ⟨m1, rfl⟩⟩ := hrel
      cases gk with
      | zero => exact absurd HA.out (by simp [spec_l4Find.l0])
      | succ k1 =>
        have H := HA.out
        clear HA
        simp only [spec_l4Find.l0] at H
        replace H := ifd H
        obtain ⟨c7b0, H⟩ := H
        replace H := ifd H
        obtain ⟨c8b0, H⟩ := H
        by_cases c9 : x8_1 < ((rd_T57 l0 a1).f4)
        · rw [if_pos c9] at H
          have c9b0 := decide_eq_true c9
          clear c9
          replace H := ifd H
          obtain ⟨c10b0, H⟩ := H
          replace H := ifd H
          obtain ⟨c11b0, H⟩ := H
          by_cases c12 : ((rd_T57 l0 x7_1).f1) = a2
          · rw [if_pos c12] at H
            have c12b0 : (((rd_T57 l0 x7_1).f1) == a2) = true := beq_iff_eq.mpr c12
            have c12b1 : (((rd_T57 l0 x7_1).f1) != a2) = false := bne_eq_false_iff_eq.mpr c12
            clear c12
            obtain rfl := Option.some.inj H
            have p128 : 0 ≤ (a1 : Int) := dcd
            have q128 : a1 < (l0.length : Int) := dcd
            obtain ⟨ad128, e128, hx128_0, hx128_1, hx128_2, hx128_3, hx128_4⟩ := at_T57 HR0.out a1 p128 q128
            obtain rfl : ad127 = ad128 := (by injection e128)
            replace p128 := eq_true p128
            replace q128 := eq_true q128
            have p129 : 0 ≤ (x7_1 : Int) := dcd
            have q129 : x7_1 < (l0.length : Int) := dcd
            obtain ⟨ad129, e129, hx129_0, hx129_1, hx129_2, hx129_3, hx129_4⟩ := at_T57 HR0.out x7_1 p129 q129
            obtain rfl : ad127 = ad129 := (by injection e129)
            replace p129 := eq_true p129
            replace q129 := eq_true q129
            go_wp2
            go_ret
            exact ⟨by first | rfl | (simp; done) | (simp [*]; done), by repeat (first | exact Drawn0.refl _ | apply Drawn0.step)⟩
          · rw [if_neg c12] at H
            have c12b0 : (((rd_T57 l0 x7_1).f1) == a2) = false := beq_eq_false_iff_ne.mpr c12
            have c12b1 : (((rd_T57 l0 x7_1).f1) != a2) = true := bne_iff_ne.mpr c12
            replace H := bnd H
            obtain ⟨t130, A13, H⟩ := H
            have H' := Aside0.mk H
            clear H
            have p128 : 0 ≤ (a1 : Int) := dcd
            have q128 : a1 < (l0.length : Int) := dcd
            obtain ⟨ad128, e128, hx128_0, hx128_1, hx128_2, hx128_3, hx128_4⟩ := at_T57 HR0.out a1 p128 q128
            obtain rfl : ad127 = ad128 := (by injection e128)
            replace p128 := eq_true p128
            replace q128 := eq_true q128
            have p129 : 0 ≤ (x7_1 : Int) := dcd
            have q129 : x7_1 < (l0.length : Int) := dcd
            obtain ⟨ad129, e129, hx129_0, hx129_1, hx129_2, hx129_3, hx129_4⟩ := at_T57 HR0.out x7_1 p129 q129
            obtain rfl : ad127 = ad129 := (by injection e129)
            replace p129 := eq_true p129
            replace q129 := eq_true q129
            go_wp2_with (first | ((with_reducible refine gate_callee (f := 70) rfl ?_); refine gl_ (some 36) Try.func70 #[.slice (some ad127) l0.length c0, .int .i64 x7_1] rfl ?_; (with_reducible refine (spec_l4After.calls k1 _ _ l0 x7_1 t130 _ ?side1 ?side2 A13.out).mono ?_); (case side1 => exact C_later HR0.out); (case side2 => exact HC0.out); rintro e w' ⟨rfl, ⟨nd, rfl⟩⟩; refine ⟨_, rfl, ?_⟩))
            go_roundg k1
            case measure => have := HK1.out; omega
            case rel => exact ⟨(t130), (wrap64 (x8_1 + 1)), sr, sr, H', ⟨by have := HK1.out; omega⟩, by repeat (first | exact Drawn0.refl _ | apply Drawn0.step)⟩
        · rw [if_neg c9] at H
          have c9b0 := decide_eq_false c9
          clear c9
          obtain rfl := Option.some.inj H
          have p128 : 0 ≤ (a1 : Int) := dcd
          have q128 : a1 < (l0.length : Int) := dcd
          obtain ⟨ad128, e128, hx128_0, hx128_1, hx128_2, hx128_3, hx128_4⟩ := at_T57 HR0.out a1 p128 q128
          obtain rfl : ad127 = ad128 := (by injection e128)
          replace p128 := eq_true p128
          replace q128 := eq_true q128
          go_wp2
          go_ret
          exact ⟨by first | rfl | (simp; done) | (simp [*]; done), by repeat (first | exact Drawn0.refl _ | apply Drawn0.step)⟩
  · rw [if_neg c6] at H
    have c6b0 : (((rd_T57 l0 a1).f0) == 12) = false := beq_eq_false_iff_ne.mpr c6
    have c6b1 : (((rd_T57 l0 a1).f0) != 12) = true := bne_iff_ne.mpr c6
    obtain rfl := Option.some.inj H
    have p127 : 0 ≤ (a1 : Int) := dcd
    have q127 : a1 < (l0.length : Int) := dcd
    obtain ⟨ad127, e127, hx127_0, hx127_1, hx127_2, hx127_3, hx127_4⟩ := at_T57 HR0.out a1 p127 q127
    cases e127
    replace p127 := eq_true p127
    replace q127 := eq_true q127
    go_enter Try.func45, Try.ntmps45
    go_wp2
    go_ret
    exact ⟨by first | rfl | (simp; done) | (simp [*]; done), by repeat (first | exact Drawn0.refl _ | apply Drawn0.step)⟩
/-! ### spec_l4NumOf: function 43 -/
def spec_l4NumOf.f (k : Nat) (l0 : List (S57)) (a1 : Int) (a2 : Int) : Option (Int × Bool) := (spec_l4Find.f k l0 a1 a2).bind fun t131 => (if t131 < 0 then (some (0, false)) else (if 0 ≤ t131 then (if t131 < (l0.length : Int) then (if ((rd_T57 l0 t131).f0) = 5 then (some ((rd_T57 l0 t131).f2, true)) else (if ((rd_T57 l0 t131).f0) = 6 then (some ((rd_T57 l0 t131).f2, true)) else (some (0, false)))) else (none)) else (none)))
set_option maxHeartbeats 8000000 in
set_option maxRecDepth 100000 in
theorem spec_l4NumOf.calls (k : Nat) (A0 : Option Addr) (c0 : Nat) (l0 : List (S57)) (a1 : Int) (a2 : Int) (r1 : Int) (r2 : Bool) (w : World) (hr0 : Kd.C k57 w A0 l0.length l0) (hc0 : l0.length ≤ c0) (h : spec_l4NumOf.f k l0 a1 a2 = some (r1, r2)) :
    Calls Try.prog 43 #[.slice A0 l0.length c0, .int .i64 a1, .int .i64 a2] w fun e w' => e = .returned (.tuple #[.int .i64 r1, .bool r2]) ∧ Drawn0 w w' := by
  have HR0 := Aside0.mk hr0
  have HC0 := Aside0.mk hc0
  clear hr0 hc0
  have H : ((spec_l4Find.f k l0 a1 a2).bind fun t131 => (if t131 < 0 then (some (0, false)) else (if 0 ≤ t131 then (if t131 < (l0.length : Int) then (if ((rd_T57 l0 t131).f0) = 5 then (some ((rd_T57 l0 t131).f2, true)) else (if ((rd_T57 l0 t131).f0) = 6 then (some ((rd_T57 l0 t131).f2, true)) else (some (0, false)))) else (none)) else (none)))) = some (r1, r2) := h
  clear h
  replace H := bnd H
  obtain ⟨t131, A4, H⟩ := H
  by_cases c5 : t131 < 0
  · rw [if_pos c5] at H
    have c5b0 := decide_eq_true c5
    clear c5
    simp only [Option.some.injEq, Prod.mk.injEq] at H
    obtain ⟨rfl, rfl⟩ := H
    go_enter Try.func43, Try.ntmps43
    go_wp2_with (first | ((with_reducible refine gate_callee (f := 45) rfl ?_); refine gl_ (some 12) Try.func45 #[.slice A0 l0.length c0, .int .i64 a1, .int .i64 a2] rfl ?_; (with_reducible refine (spec_l4Find.calls k _ _ l0 a1 a2 t131 _ ?side1 ?side2 A4.out).mono ?_); (case side1 => exact C_later HR0.out); (case side2 => exact HC0.out); rintro e w' ⟨rfl, ⟨nd, rfl⟩⟩; refine ⟨_, rfl, ?_⟩))
    go_ret2
    exact ⟨by first | rfl | (simp; done) | (simp [*]; done), by repeat (first | exact Drawn0.refl _ | apply Drawn0.step)⟩
  · rw [if_neg c5] at H
    have c5b0 := decide_eq_false c5
    clear c5
    replace H := ifd H
    obtain ⟨c6b0, H⟩ := H
    replace H := ifd H
    obtain ⟨c7b0, H⟩ := H
    by_cases c8 : ((rd_T57 l0 t131).f0) = 5
    · rw [if_pos c8] at H
      have c8b0 : (((rd_T57 l0 t131).f0) == 5) = true := beq_iff_eq.mpr c8
      have c8b1 : (((rd_T57 l0 t131).f0) != 5) = false := bne_eq_false_iff_eq.mpr c8
      clear c8
      simp only [Option.some.injEq, Prod.mk.injEq] at H
      obtain ⟨rfl, rfl⟩ := H
      go_enter Try.func43, Try.ntmps43
      go_wp2_with (first | ((with_reducible refine gate_callee (f := 45) rfl ?_); refine gl_ (some 12) Try.func45 #[.slice A0 l0.length c0, .int .i64 a1, .int .i64 a2] rfl ?_; (with_reducible refine (spec_l4Find.calls k _ _ l0 a1 a2 t131 _ ?side1 ?side2 A4.out).mono ?_); (case side1 => exact C_later HR0.out); (case side2 => exact HC0.out); rintro e w' ⟨rfl, ⟨nd, rfl⟩⟩; refine ⟨_, rfl, ?_⟩; have p132 : 0 ≤ (t131 : Int) := dcd; have q132 : t131 < (l0.length : Int) := dcd; obtain ⟨ad132, e132, hx132_0, hx132_1, hx132_2, hx132_3, hx132_4⟩ := at_T57 HR0.out t131 p132 q132; cases e132; replace p132 := eq_true p132; replace q132 := eq_true q132; have p133 : 0 ≤ (t131 : Int) := dcd; have q133 : t131 < (l0.length : Int) := dcd; obtain ⟨ad133, e133, hx133_0, hx133_1, hx133_2, hx133_3, hx133_4⟩ := at_T57 HR0.out t131 p133 q133; obtain rfl : ad132 = ad133 := (by injection e133); replace p133 := eq_true p133; replace q133 := eq_true q133))
      go_ret2
      exact ⟨by first | rfl | (simp; done) | (simp [*]; done), by repeat (first | exact Drawn0.refl _ | apply Drawn0.step)⟩
    · rw [if_neg c8] at H
      have c8b0 : (((rd_T57 l0 t131).f0) == 5) = false := beq_eq_false_iff_ne.mpr c8
      have c8b1 : (((rd_T57 l0 t131).f0) != 5) = true := bne_iff_ne.mpr c8
      by_cases c9 : ((rd_T57 l0 t131).f0) = 6
      · rw [if_pos c9] at H
        have c9b0 : (((rd_T57 l0 t131).f0) == 6) = true := beq_iff_eq.mpr c9
        have c9b1 : (((rd_T57 l0 t131).f0) != 6) = false := bne_eq_false_iff_eq.mpr c9
        clear c9
        simp only [Option.some.injEq, Prod.mk.injEq] at H
        obtain ⟨rfl, rfl⟩ := H
        go_enter Try.func43, Try.ntmps43
        go_wp2_with (first | ((with_reducible refine gate_callee (f := 45) rfl ?_); refine gl_ (some 12) Try.func45 #[.slice A0 l0.length c0, .int .i64 a1, .int .i64 a2] rfl ?_; (with_reducible refine (spec_l4Find.calls k _ _ l0 a1 a2 t131 _ ?side1 ?side2 A4.out).mono ?_); (case side1 => exact C_later HR0.out); (case side2 => exact HC0.out); rintro e w' ⟨rfl, ⟨nd, rfl⟩⟩; refine ⟨_, rfl, ?_⟩; have p132 : 0 ≤ (t131 : Int) := dcd; have q132 : t131 < (l0.length : Int) := dcd; obtain ⟨ad132, e132, hx132_0, hx132_1, hx132_2, hx132_3, hx132_4⟩ := at_T57 HR0.out t131 p132 q132; cases e132; replace p132 := eq_true p132; replace q132 := eq_true q132; have p134 : 0 ≤ (t131 : Int) := dcd; have q134 : t131 < (l0.length : Int) := dcd; obtain ⟨ad134, e134, hx134_0, hx134_1, hx134_2, hx134_3, hx134_4⟩ := at_T57 HR0.out t131 p134 q134; obtain rfl : ad132 = ad134 := (by injection e134); replace p134 := eq_true p134; replace q134 := eq_true q134; have p135 : 0 ≤ (t131 : Int) := dcd; have q135 : t131 < (l0.length : Int) := dcd; obtain ⟨ad135, e135, hx135_0, hx135_1, hx135_2, hx135_3, hx135_4⟩ := at_T57 HR0.out t131 p135 q135; obtain rfl : ad132 = ad135 := (by injection e135); replace p135 := eq_true p135; replace q135 := eq_true q135))
        go_ret2
        exact ⟨by first | rfl | (simp; done) | (simp [*]; done), by repeat (first | exact Drawn0.refl _ | apply Drawn0.step)⟩
      · rw [if_neg c9] at H
        have c9b0 : (((rd_T57 l0 t131).f0) == 6) = false := beq_eq_false_iff_ne.mpr c9
        have c9b1 : (((rd_T57 l0 t131).f0) != 6) = true := bne_iff_ne.mpr c9
        simp only [Option.some.injEq, Prod.mk.injEq] at H
        obtain ⟨rfl, rfl⟩ := H
        go_enter Try.func43, Try.ntmps43
        go_wp2_with (first | ((with_reducible refine gate_callee (f := 45) rfl ?_); refine gl_ (some 12) Try.func45 #[.slice A0 l0.length c0, .int .i64 a1, .int .i64 a2] rfl ?_; (with_reducible refine (spec_l4Find.calls k _ _ l0 a1 a2 t131 _ ?side1 ?side2 A4.out).mono ?_); (case side1 => exact C_later HR0.out); (case side2 => exact HC0.out); rintro e w' ⟨rfl, ⟨nd, rfl⟩⟩; refine ⟨_, rfl, ?_⟩; have p132 : 0 ≤ (t131 : Int) := dcd; have q132 : t131 < (l0.length : Int) := dcd; obtain ⟨ad132, e132, hx132_0, hx132_1, hx132_2, hx132_3, hx132_4⟩ := at_T57 HR0.out t131 p132 q132; cases e132; replace p132 := eq_true p132; replace q132 := eq_true q132; have p134 : 0 ≤ (t131 : Int) := dcd; have q134 : t131 < (l0.length : Int) := dcd; obtain ⟨ad134, e134, hx134_0, hx134_1, hx134_2, hx134_3, hx134_4⟩ := at_T57 HR0.out t131 p134 q134; obtain rfl : ad132 = ad134 := (by injection e134); replace p134 := eq_true p134; replace q134 := eq_true q134))
        go_ret2
        exact ⟨by first | rfl | (simp; done) | (simp [*]; done), by repeat (first | exact Drawn0.refl _ | apply Drawn0.step)⟩
/-! ### spec_l4TextOf: function 44 -/
def spec_l4TextOf.f (k : Nat) (l0 : List (S57)) (a1 : Int) (a2 : Int) : Option (ByteArray × Bool) := (spec_l4Find.f k l0 a1 a2).bind fun t136 => (if t136 < 0 then (some ((⟨#[]⟩ : ByteArray), false)) else (if 0 ≤ t136 then (if t136 < (l0.length : Int) then (if ((rd_T57 l0 t136).f0) = 8 then (some ((rd_T57 l0 t136).f3, true)) else (some ((⟨#[]⟩ : ByteArray), false))) else (none)) else (none)))
set_option maxHeartbeats 8000000 in
set_option maxRecDepth 100000 in
theorem spec_l4TextOf.calls (k : Nat) (A0 : Option Addr) (c0 : Nat) (l0 : List (S57)) (a1 : Int) (a2 : Int) (r1 : ByteArray) (r2 : Bool) (w : World) (hr0 : Kd.C k57 w A0 l0.length l0) (hc0 : l0.length ≤ c0) (h : spec_l4TextOf.f k l0 a1 a2 = some (r1, r2)) :
    Calls Try.prog 44 #[.slice A0 l0.length c0, .int .i64 a1, .int .i64 a2] w fun e w' => e = .returned (.tuple #[.string r1, .bool r2]) ∧ Drawn0 w w' := by
  have HR0 := Aside0.mk hr0
  have HC0 := Aside0.mk hc0
  clear hr0 hc0
  have H : ((spec_l4Find.f k l0 a1 a2).bind fun t136 => (if t136 < 0 then (some ((⟨#[]⟩ : ByteArray), false)) else (if 0 ≤ t136 then (if t136 < (l0.length : Int) then (if ((rd_T57 l0 t136).f0) = 8 then (some ((rd_T57 l0 t136).f3, true)) else (some ((⟨#[]⟩ : ByteArray), false))) else (none)) else (none)))) = some (r1, r2) := h
  clear h
  replace H := bnd H
  obtain ⟨t136, A4, H⟩ := H
  by_cases c5 : t136 < 0
  · rw [if_pos c5] at H
    have c5b0 := decide_eq_true c5
    clear c5
    simp only [Option.some.injEq, Prod.mk.injEq] at H
    obtain ⟨rfl, rfl⟩ := H
    go_enter Try.func44, Try.ntmps44
    go_wp2_with (first | ((with_reducible refine gate_callee (f := 45) rfl ?_); refine gl_ (some 12) Try.func45 #[.slice A0 l0.length c0, .int .i64 a1, .int .i64 a2] rfl ?_; (with_reducible refine (spec_l4Find.calls k _ _ l0 a1 a2 t136 _ ?side1 ?side2 A4.out).mono ?_); (case side1 => exact C_later HR0.out); (case side2 => exact HC0.out); rintro e w' ⟨rfl, ⟨nd, rfl⟩⟩; refine ⟨_, rfl, ?_⟩))
    go_ret2
    exact ⟨by first | rfl | (simp; done) | (simp [*]; done), by repeat (first | exact Drawn0.refl _ | apply Drawn0.step)⟩
  · rw [if_neg c5] at H
    have c5b0 := decide_eq_false c5
    clear c5
    replace H := ifd H
    obtain ⟨c6b0, H⟩ := H
    replace H := ifd H
    obtain ⟨c7b0, H⟩ := H
    by_cases c8 : ((rd_T57 l0 t136).f0) = 8
    · rw [if_pos c8] at H
      have c8b0 : (((rd_T57 l0 t136).f0) == 8) = true := beq_iff_eq.mpr c8
      have c8b1 : (((rd_T57 l0 t136).f0) != 8) = false := bne_eq_false_iff_eq.mpr c8
      clear c8
      simp only [Option.some.injEq, Prod.mk.injEq] at H
      obtain ⟨rfl, rfl⟩ := H
      go_enter Try.func44, Try.ntmps44
      go_wp2_with (first | ((with_reducible refine gate_callee (f := 45) rfl ?_); refine gl_ (some 12) Try.func45 #[.slice A0 l0.length c0, .int .i64 a1, .int .i64 a2] rfl ?_; (with_reducible refine (spec_l4Find.calls k _ _ l0 a1 a2 t136 _ ?side1 ?side2 A4.out).mono ?_); (case side1 => exact C_later HR0.out); (case side2 => exact HC0.out); rintro e w' ⟨rfl, ⟨nd, rfl⟩⟩; refine ⟨_, rfl, ?_⟩; have p137 : 0 ≤ (t136 : Int) := dcd; have q137 : t136 < (l0.length : Int) := dcd; obtain ⟨ad137, e137, hx137_0, hx137_1, hx137_2, hx137_3, hx137_4⟩ := at_T57 HR0.out t136 p137 q137; cases e137; replace p137 := eq_true p137; replace q137 := eq_true q137; have p138 : 0 ≤ (t136 : Int) := dcd; have q138 : t136 < (l0.length : Int) := dcd; obtain ⟨ad138, e138, hx138_0, hx138_1, hx138_2, hx138_3, hx138_4⟩ := at_T57 HR0.out t136 p138 q138; obtain rfl : ad137 = ad138 := (by injection e138); replace p138 := eq_true p138; replace q138 := eq_true q138))
      go_ret2
      exact ⟨by first | rfl | (simp; done) | (simp [*]; done), by repeat (first | exact Drawn0.refl _ | apply Drawn0.step)⟩
    · rw [if_neg c8] at H
      have c8b0 : (((rd_T57 l0 t136).f0) == 8) = false := beq_eq_false_iff_ne.mpr c8
      have c8b1 : (((rd_T57 l0 t136).f0) != 8) = true := bne_iff_ne.mpr c8
      simp only [Option.some.injEq, Prod.mk.injEq] at H
      obtain ⟨rfl, rfl⟩ := H
      go_enter Try.func44, Try.ntmps44
      go_wp2_with (first | ((with_reducible refine gate_callee (f := 45) rfl ?_); refine gl_ (some 12) Try.func45 #[.slice A0 l0.length c0, .int .i64 a1, .int .i64 a2] rfl ?_; (with_reducible refine (spec_l4Find.calls k _ _ l0 a1 a2 t136 _ ?side1 ?side2 A4.out).mono ?_); (case side1 => exact C_later HR0.out); (case side2 => exact HC0.out); rintro e w' ⟨rfl, ⟨nd, rfl⟩⟩; refine ⟨_, rfl, ?_⟩; have p137 : 0 ≤ (t136 : Int) := dcd; have q137 : t136 < (l0.length : Int) := dcd; obtain ⟨ad137, e137, hx137_0, hx137_1, hx137_2, hx137_3, hx137_4⟩ := at_T57 HR0.out t136 p137 q137; cases e137; replace p137 := eq_true p137; replace q137 := eq_true q137))
      go_ret2
      exact ⟨by first | rfl | (simp; done) | (simp [*]; done), by repeat (first | exact Drawn0.refl _ | apply Drawn0.step)⟩
/-! ### spec_BitsSize: function 81 -/
def spec_BitsSize.f (a0 : Int) (a1 : Int) : Option (Int) := (spec_l1In.f a0 0 2000).bind fun t139 => (if t139 = true then ((spec_l1In.f a1 0 62).bind fun t140 => (if t140 = true then (some (wrap64 (Int.tdiv (wrap64 ((wrap64 (a0 * a1)) + 7)) 8))) else (some (-1)))) else (some (-1)))
set_option maxHeartbeats 8000000 in
set_option maxRecDepth 100000 in
theorem spec_BitsSize.calls (a0 : Int) (a1 : Int) (r : Int) (w : World) (h : spec_BitsSize.f a0 a1 = some r) :
    Calls Try.prog 81 #[.int .i64 a0, .int .i64 a1] w fun e w' => e = .returned (.int .i64 r) ∧ Drawn0 w w' := by
  have H : ((spec_l1In.f a0 0 2000).bind fun t139 => (if t139 = true then ((spec_l1In.f a1 0 62).bind fun t140 => (if t140 = true then (some (wrap64 (Int.tdiv (wrap64 ((wrap64 (a0 * a1)) + 7)) 8))) else (some (-1)))) else (some (-1)))) = some r := h
  clear h
  replace H := bnd H
  obtain ⟨t139, A3, H⟩ := H
  by_cases c4 : t139 = true
  · subst c4
    replace H := ifp rfl H
    replace H := bnd H
    obtain ⟨t140, A5, H⟩ := H
    by_cases c6 : t140 = true
    · subst c6
      replace H := ifp rfl H
      obtain rfl := Option.some.inj H
      go_enter Try.func81, Try.ntmps81
      go_wp2_with (first | ((with_reducible refine gate_callee (f := 24) rfl ?_); refine gl_ (some 6) Try.func24 #[.int .i64 a0, .int .i64 0, .int .i64 2000] rfl ?_; (with_reducible refine (spec_l1In.calls a0 0 2000 true _ A3.out).mono ?_); rintro e w' ⟨rfl, ⟨nd, rfl⟩⟩; refine ⟨_, rfl, ?_⟩) | (go_at_call 24; (with_reducible refine (spec_l1In.calls a1 0 62 true _ A5.out).mono ?_); rintro e w' ⟨rfl, ⟨nd, rfl⟩⟩))
      go_ret
      exact ⟨by first | rfl | (simp; done) | (simp [*]; done), by repeat (first | exact Drawn0.refl _ | apply Drawn0.step)⟩
    · replace c6 := Bool.eq_false_iff.mpr c6
      subst c6
      replace H := ifn Bool.false_ne_true H
      obtain rfl := Option.some.inj H
      go_enter Try.func81, Try.ntmps81
      go_wp2_with (first | ((with_reducible refine gate_callee (f := 24) rfl ?_); refine gl_ (some 6) Try.func24 #[.int .i64 a0, .int .i64 0, .int .i64 2000] rfl ?_; (with_reducible refine (spec_l1In.calls a0 0 2000 true _ A3.out).mono ?_); rintro e w' ⟨rfl, ⟨nd, rfl⟩⟩; refine ⟨_, rfl, ?_⟩) | (go_at_call 24; (with_reducible refine (spec_l1In.calls a1 0 62 false _ A5.out).mono ?_); rintro e w' ⟨rfl, ⟨nd, rfl⟩⟩))
      go_ret
      exact ⟨by first | rfl | (simp; done) | (simp [*]; done), by repeat (first | exact Drawn0.refl _ | apply Drawn0.step)⟩
  · replace c4 := Bool.eq_false_iff.mpr c4
    subst c4
    replace H := ifn Bool.false_ne_true H
    obtain rfl := Option.some.inj H
    go_enter Try.func81, Try.ntmps81
    go_wp2_with (first | ((with_reducible refine gate_callee (f := 24) rfl ?_); refine gl_ (some 6) Try.func24 #[.int .i64 a0, .int .i64 0, .int .i64 2000] rfl ?_; (with_reducible refine (spec_l1In.calls a0 0 2000 false _ A3.out).mono ?_); rintro e w' ⟨rfl, ⟨nd, rfl⟩⟩; refine ⟨_, rfl, ?_⟩))
    go_ret
    exact ⟨by first | rfl | (simp; done) | (simp [*]; done), by repeat (first | exact Drawn0.refl _ | apply Drawn0.step)⟩

/-! ### spec_l1Bit: function 104 -/
def spec_l1Bit.f (l0 : List Int) (a1 : Int) : Option (Int) := if 0 ≤ (wrap64 (Int.tdiv a1 8)) then (if (wrap64 (Int.tdiv a1 8)) < (l0.length : Int) then (if 0 ≤ (Int.tmod a1 8) then (some (Go.bits .and .i64 (shr .i64 (wrap64 (rd l0 (wrap64 (Int.tdiv a1 8)))) (Int.tmod a1 8)) 1)) else (none)) else (none)) else (none)
set_option maxHeartbeats 8000000 in
set_option maxRecDepth 100000 in
theorem spec_l1Bit.calls (A0 : Option Addr) (c0 : Nat) (l0 : List Int) (a1 : Int) (r : Int) (w : World) (hr0 : Kd.C (Kd.int .u8) w A0 l0.length l0) (hc0 : l0.length ≤ c0) (h : spec_l1Bit.f l0 a1 = some r) :
    Calls Try.prog 104 #[.slice A0 l0.length c0, .int .i64 a1] w fun e w' => e = .returned (.int .i64 r) ∧ Drawn0 w w' := by
  have HR0 := Aside0.mk hr0
  have HC0 := Aside0.mk hc0
  clear hr0 hc0
  have H : (if 0 ≤ (wrap64 (Int.tdiv a1 8)) then (if (wrap64 (Int.tdiv a1 8)) < (l0.length : Int) then (if 0 ≤ (Int.tmod a1 8) then (some (Go.bits .and .i64 (shr .i64 (wrap64 (rd l0 (wrap64 (Int.tdiv a1 8)))) (Int.tmod a1 8)) 1)) else (none)) else (none)) else (none)) = some r := h
  clear h
  obtain ⟨ji3, hji3⟩ : ∃ j_ : Int, (wrap64 (Int.tdiv a1 8)) = j_ := ⟨_, rfl⟩
  replace H : (if 0 ≤ (ji3) then (if (ji3) < (l0.length : Int) then (if 0 ≤ (Int.tmod a1 8) then (some (Go.bits .and .i64 (shr .i64 (wrap64 (rd l0 (ji3))) (Int.tmod a1 8)) 1)) else (none)) else (none)) else (none)) = some r := by first | (rw [hji3] at H; exact H) | (simp only [hji3] at H ⊢; exact H)
  have hji3w : (IntKind.i64.wrap (Int.tdiv a1 8)) = ji3 := (i64_w _).trans hji3
  replace H := ifd H
  obtain ⟨c4b0, H⟩ := H
  replace H := ifd H
  obtain ⟨c5b0, H⟩ := H
  obtain ⟨ji6, hji6⟩ : ∃ j_ : Int, (Int.tmod a1 8) = j_ := ⟨_, rfl⟩
  replace H : (if 0 ≤ (ji6) then (some (Go.bits .and .i64 (shr .i64 (wrap64 (rd l0 (ji3))) (ji6)) 1)) else (none)) = some r := by first | (rw [hji6] at H; exact H) | (simp only [hji6] at H ⊢; exact H)
  replace H := ifs H
  obtain ⟨c7, H⟩ := H
  have c7b0 := eq_true c7
  have c7b1 := decide_eq_true c7
  clear c7
  obtain ⟨ji8, hji8⟩ : ∃ j_ : Int, (shr .i64 (wrap64 (rd l0 (ji3))) (ji6)) = j_ := ⟨_, rfl⟩
  replace H : (some (Go.bits .and .i64 (ji8) 1)) = some r := by first | (rw [hji8] at H; exact H) | (simp only [hji8] at H ⊢; exact H)
  have hji8_ : ((wrap64 (rd l0 (ji3))) / 2 ^ min (ji6).toNat 64) = ji8 := hji8
  have hji8z : (ji6) ≤ 64 → ((wrap64 (rd l0 (ji3))) / 2 ^ (ji6).toNat) = ji8 := shr_small hji8
  obtain rfl := Option.some.inj H
  have p141 : 0 ≤ ((ji3) : Int) := dcd
  have q141 : (ji3) < (l0.length : Int) := dcd
  obtain ⟨ad141, e141, hx141_0⟩ := Kd.at_int HR0.out (ji3) p141 q141
  cases e141
  replace p141 := eq_true p141
  replace q141 := eq_true q141
  go_enter Try.func104, Try.ntmps104
  go_wp2
  go_ret
  exact ⟨by first | rfl | (simp; done) | (simp only [← hji3, ← hji6, ← hji8] <;> (first | rfl | simp)) | (simp [*]; done), by repeat (first | exact Drawn0.refl _ | apply Drawn0.step)⟩
end Go.Proofs.Ytgiljoeekpfpmaa.PFnExactStatsFrom
