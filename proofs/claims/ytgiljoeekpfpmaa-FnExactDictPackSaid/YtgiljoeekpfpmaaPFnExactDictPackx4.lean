/- The machine's side of FnExactDictPack, written by wip/tools/hyb.py of this repo: each Go function as a plain Lean function, and the proof that the call comes to just its answer. No condition. -/
import Derived.Test.YtgiljoeekpfpmaaPFnExactDictPackx0
import Derived.Test.YtgiljoeekpfpmaaPFnExactDictPackx1
import Derived.Test.YtgiljoeekpfpmaaPFnExactDictPackx3
namespace Go.Proofs.Ytgiljoeekpfpmaa.PFnExactDictPack
open Go.RowKit Go.Proofs.YtgiljoeekpfpmaaW.PrintWords Go.Proofs.YtgiljoeekpfpmaaW.PrintLast Go.Proofs.YtgiljoeekpfpmaaW.PrintMore Go.Proofs.YtgiljoeekpfpmaaW.PrintMore2
attribute [local go_sem] max2_int min2_int max_two min_two max_three min_three max_four min_four   -- for this text's walks alone
set_option linter.unusedVariables false
set_option linter.unusedSimpArgs false

/-! ### spec_l4Check: function 42 -/
mutual
def spec_l4Check.j0 : Nat → List (S57) → Int → Int → Bool → Option (Int)
  | 0, _, _, _, _ => none
  | k + 1, x0, x1, x2, x27 => if x27 = true then (some (-1)) else (if 0 ≤ x1 then (if x1 < (x0.length : Int) then (spec_l4Check.l0 k x0 x2 (wrap64 (x1 + 1)) 0 0 ((rd_T57 x0 x1).f0) ((rd_T57 x0 x1).f1) ((rd_T57 x0 x1).f2) ((rd_T57 x0 x1).f3) ((rd_T57 x0 x1).f4)) else (none)) else (none))
def spec_l4Check.l0 : Nat → List (S57) → Int → Int → Int → Int → Int → Int → Int → ByteArray → Int → Option (Int)
  | 0, _, _, _, _, _, _, _, _, _, _ => none
  | k + 1, x0, x2, x8, x9, x10, x186000, x186001, x186002, x186003, x186004 => if x10 < x186004 then (if x8 ≥ (x0.length : Int) then (some (-1)) else (if 0 ≤ x8 then (if x8 < (x0.length : Int) then (if x186000 = 9 then (if ((rd_T57 x0 x8).f0) = x186002 then (if ((rd_T57 x0 x8).f1) = 0 then (if x186000 = 12 then (if ((rd_T57 x0 x8).f1) ≤ x9 then (spec_l4Check.j2 k x0 x2 x8 x10 true x186000 x186001 x186002 x186003 x186004 ((rd_T57 x0 x8).f0) ((rd_T57 x0 x8).f1) ((rd_T57 x0 x8).f2) ((rd_T57 x0 x8).f3) ((rd_T57 x0 x8).f4)) else (spec_l4Check.j2 k x0 x2 x8 x10 (decide (((rd_T57 x0 x8).f1) > 1000)) x186000 x186001 x186002 x186003 x186004 ((rd_T57 x0 x8).f0) ((rd_T57 x0 x8).f1) ((rd_T57 x0 x8).f2) ((rd_T57 x0 x8).f3) ((rd_T57 x0 x8).f4))) else (spec_l4Check.j2 k x0 x2 x8 x10 false x186000 x186001 x186002 x186003 x186004 ((rd_T57 x0 x8).f0) ((rd_T57 x0 x8).f1) ((rd_T57 x0 x8).f2) ((rd_T57 x0 x8).f3) ((rd_T57 x0 x8).f4))) else (spec_l4Check.j2 k x0 x2 x8 x10 true x186000 x186001 x186002 x186003 x186004 ((rd_T57 x0 x8).f0) ((rd_T57 x0 x8).f1) ((rd_T57 x0 x8).f2) ((rd_T57 x0 x8).f3) ((rd_T57 x0 x8).f4))) else (spec_l4Check.j2 k x0 x2 x8 x10 true x186000 x186001 x186002 x186003 x186004 ((rd_T57 x0 x8).f0) ((rd_T57 x0 x8).f1) ((rd_T57 x0 x8).f2) ((rd_T57 x0 x8).f3) ((rd_T57 x0 x8).f4))) else (if x186000 = 12 then (if ((rd_T57 x0 x8).f1) ≤ x9 then (spec_l4Check.j2 k x0 x2 x8 x10 true x186000 x186001 x186002 x186003 x186004 ((rd_T57 x0 x8).f0) ((rd_T57 x0 x8).f1) ((rd_T57 x0 x8).f2) ((rd_T57 x0 x8).f3) ((rd_T57 x0 x8).f4)) else (spec_l4Check.j2 k x0 x2 x8 x10 (decide (((rd_T57 x0 x8).f1) > 1000)) x186000 x186001 x186002 x186003 x186004 ((rd_T57 x0 x8).f0) ((rd_T57 x0 x8).f1) ((rd_T57 x0 x8).f2) ((rd_T57 x0 x8).f3) ((rd_T57 x0 x8).f4))) else (spec_l4Check.j2 k x0 x2 x8 x10 false x186000 x186001 x186002 x186003 x186004 ((rd_T57 x0 x8).f0) ((rd_T57 x0 x8).f1) ((rd_T57 x0 x8).f2) ((rd_T57 x0 x8).f3) ((rd_T57 x0 x8).f4)))) else (none)) else (none))) else (some x8)
def spec_l4Check.j2 : Nat → List (S57) → Int → Int → Int → Bool → Int → Int → Int → ByteArray → Int → Int → Int → Int → ByteArray → Int → Option (Int)
  | 0, _, _, _, _, _, _, _, _, _, _, _, _, _, _, _ => none
  | k + 1, x0, x2, x8, x10, x78, x186000, x186001, x186002, x186003, x186004, x188000, x188001, x188002, x188003, x188004 => if x78 = true then (some (-1)) else ((spec_l4Check.f k x0 x8 (wrap64 (x2 + 1))).bind fun t188 => (if t188 < 0 then (some (-1)) else (spec_l4Check.l0 k x0 x2 t188 x188001 (wrap64 (x10 + 1)) x186000 x186001 x186002 x186003 x186004)))
def spec_l4Check.f : Nat → List (S57) → Int → Int → Option (Int)
  | 0, _, _, _ => none
  | k + 1, l0, a1, a2 => if a1 ≥ (l0.length : Int) then (spec_l4Check.j0 k l0 a1 a2 true) else (if a2 > 12 then (spec_l4Check.j0 k l0 a1 a2 true) else (if 0 ≤ a1 then (if a1 < (l0.length : Int) then ((spec_l4Plain.f k ((rd_T57 l0 a1).f0) ((rd_T57 l0 a1).f1) ((rd_T57 l0 a1).f2) ((rd_T57 l0 a1).f3) ((rd_T57 l0 a1).f4)).bind fun t183 => (spec_l4Check.j0 k l0 a1 a2 (!t183))) else (none)) else (none)))
end
set_option maxHeartbeats 8000000 in
set_option maxRecDepth 100000 in
theorem spec_l4Check.calls (k : Nat) : ∀ (A0 : Option Addr) (c0 : Nat) (l0 : List (S57)) (a1 : Int) (a2 : Int) (r : Int) (w : World) (hr0 : Kd.C k57 w A0 l0.length l0) (hc0 : l0.length ≤ c0) (h : spec_l4Check.f k l0 a1 a2 = some r),
    Calls Try.prog 42 #[.slice A0 l0.length c0, .int .i64 a1, .int .i64 a2] w fun e w' => e = .returned (.int .i64 r) ∧ Below w.heap.size w w' := by
  induction k using Nat.strongRecOn with
  | _ k ih =>
  intro A0 c0 l0 a1 a2 r w hr0 hc0 h
  cases k with
  | zero => exact absurd h (by simp [spec_l4Check.f])
  | succ k =>
  simp only [spec_l4Check.f] at h
  have hu57 := Try.underlying57
  have HR0 := Aside0.mk hr0
  have HC0 := Aside0.mk hc0
  clear hr0 hc0
  have HB := Aside0.mk (Below.refl w.heap.size w)
  have H : (if a1 ≥ (l0.length : Int) then (spec_l4Check.j0 k l0 a1 a2 true) else (if a2 > 12 then (spec_l4Check.j0 k l0 a1 a2 true) else (if 0 ≤ a1 then (if a1 < (l0.length : Int) then ((spec_l4Plain.f k ((rd_T57 l0 a1).f0) ((rd_T57 l0 a1).f1) ((rd_T57 l0 a1).f2) ((rd_T57 l0 a1).f3) ((rd_T57 l0 a1).f4)).bind fun t183 => (spec_l4Check.j0 k l0 a1 a2 (!t183))) else (none)) else (none)))) = some r := h
  clear h
  have HC4 := Aside0.mk H
  clear H
  go_enter Try.func42, Try.ntmps42
  go_upto_region 1 with (fail)
  go_cut [27] (fun v27 wc => ∃ (kq : Nat) (x27_3 : Bool), v27 = .bool x27_3 ∧ Aside0 (spec_l4Check.j0 kq l0 a1 a2 x27_3 = some r) ∧ Aside0 (kq ≤ k) ∧ Aside0 (Below w.heap.size w wc))
  case first =>
    have H := HC4.out
    clear HC4
    by_cases c5 : a1 ≥ (l0.length : Int)
    · rw [if_pos c5] at H
      have c5b0 : decide ((l0.length : Int) ≤ a1) = true := decide_eq_true c5
      clear c5
      (first | rw [c5b0] | (simp only [i64_w, i32_w]; rw [c5b0]) | skip)
      have H' := Aside0.mk H
      clear H
      go_wp2
      go_meet
      case rel => exact ⟨_, (true), sr, H', ⟨by first | omega | exact Nat.le_refl _⟩, ⟨below_later HB.out⟩⟩
    · rw [if_neg c5] at H
      have c5b0 : decide ((l0.length : Int) ≤ a1) = false := decide_eq_false c5
      clear c5
      (first | rw [c5b0] | (simp only [i64_w, i32_w]; rw [c5b0]) | skip)
      by_cases c6 : a2 > 12
      · rw [if_pos c6] at H
        have c6b0 : decide (12 < a2) = true := decide_eq_true c6
        clear c6
        have H' := Aside0.mk H
        clear H
        go_wp2
        go_meet
        case rel => exact ⟨_, (true), sr, H', ⟨by first | omega | exact Nat.le_refl _⟩, ⟨below_later HB.out⟩⟩
      · rw [if_neg c6] at H
        have c6b0 : decide (12 < a2) = false := decide_eq_false c6
        clear c6
        replace H := ifd H
        obtain ⟨c7b0, H⟩ := H
        replace H := ifd H
        obtain ⟨c8b0, H⟩ := H
        replace H := bnd H
        obtain ⟨t183, A9, H⟩ := H
        have H' := Aside0.mk H
        clear H
        have p182 : 0 ≤ (a1 : Int) := dcd
        have q182 : a1 < (l0.length : Int) := dcd
        obtain ⟨ad182, e182, hx182_0, hx182_1, hx182_2, hx182_3, hx182_4⟩ := at_T57 HR0.out a1 p182 q182
        cases e182
        replace hx182_0 := crd HB hx182_0
        replace hx182_1 := crd HB hx182_1
        replace hx182_2 := crd HB hx182_2
        replace hx182_3 := crd HB hx182_3
        replace hx182_4 := crd HB hx182_4
        replace p182 := eq_true p182
        replace q182 := eq_true q182
        go_wp2_with (first | (go_at_call 69; (with_reducible refine (spec_l4Plain.calls k ((rd_T57 l0 a1).f0) ((rd_T57 l0 a1).f1) ((rd_T57 l0 a1).f2) ((rd_T57 l0 a1).f3) ((rd_T57 l0 a1).f4) t183 _ A9.out).mono ?_); rintro e w10 ⟨rfl, hb⟩; replace HB := bst HB hb; (try clear hb)))
        go_meet
        case rel => exact ⟨_, (!t183), sr, H', ⟨by first | omega | exact Nat.le_refl _⟩, ⟨below_later HB.out⟩⟩
  case rest =>
    clear HC4
    obtain ⟨kq, x27_3, rfl, HA, HJ3, HB⟩ := hcut
    cases kq with
    | zero => exact absurd HA.out (by simp [spec_l4Check.j0])
    | succ kj3 =>
      have H := HA.out
      clear HA
      simp only [spec_l4Check.j0] at H
      by_cases c11 : x27_3 = true
      · subst c11
        replace H := ifp rfl H
        obtain rfl := Option.some.inj H
        go_wp2
        go_ret
        exact fin_ (below_later HB.out)
      · replace c11 := Bool.eq_false_iff.mpr c11
        subst c11
        replace H := ifn Bool.false_ne_true H
        replace H := ifd H
        obtain ⟨c12b0, H⟩ := H
        replace H := ifd H
        obtain ⟨c13b0, H⟩ := H
        have H' := Aside0.mk H
        clear H
        have p184 : 0 ≤ (a1 : Int) := dcd
        have q184 : a1 < (l0.length : Int) := dcd
        obtain ⟨ad184, e184, hx184_0, hx184_1, hx184_2, hx184_3, hx184_4⟩ := at_T57 HR0.out a1 p184 q184
        cases e184
        replace hx184_0 := crd HB hx184_0
        replace hx184_1 := crd HB hx184_1
        replace hx184_2 := crd HB hx184_2
        replace hx184_3 := crd HB hx184_3
        replace hx184_4 := crd HB hx184_4
        replace p184 := eq_true p184
        replace q184 := eq_true q184
        go_wp2_with (first | ((with_reducible refine gate_dst (N := 7) rfl ?_); refine bx_ 7 #[.int .i64 0, .int .i64 0, .int .i64 0, .string (⟨#[]⟩ : ByteArray), .int .i64 0] 57 ?_; intro gb185 hg w14 hbox hb; have BK185 := Aside0.mk (hbox); have GW185 := gwe HB hg; have GE185 := GW185; replace HB := bst HB hb; clear hb hbox hg; obtain ⟨hcz15_0, hcz15_1, hcz15_2, hcz15_3, hcz15_4, hfz15_0, hfz15_1, hfz15_2, hfz15_3, hfz15_4⟩ := cl5 BK185))
        go_loopg [8, 9, 10] kj3 (fun kq v8 v9 v10 w' => ∃ (x8_2 : Int) (x9_2 : Int) (x10_2 : Int), v8 = .int .i64 x8_2 ∧ v9 = .int .i64 x9_2 ∧ v10 = .int .i64 x10_2 ∧ Aside0 (spec_l4Check.l0 kq l0 a2 x8_2 x9_2 x10_2 ((rd_T57 l0 a1).f0) ((rd_T57 l0 a1).f1) ((rd_T57 l0 a1).f2) ((rd_T57 l0 a1).f3) ((rd_T57 l0 a1).f4) = some r) ∧ Aside0 (kq ≤ kj3) ∧ Aside0 (w'.heap[gb185]? = some (.cells #[.int .i64 ((rd_T57 l0 a1).f0), .int .i64 ((rd_T57 l0 a1).f1), .int .i64 ((rd_T57 l0 a1).f2), .string ((rd_T57 l0 a1).f3), .int .i64 ((rd_T57 l0 a1).f4)] 57 (0, 0))) ∧ Aside0 (Below w.heap.size w w'))
        case atStart => exact ⟨(wrap64 (a1 + 1)), (0), (0), sr, sr, sr, H', ⟨Nat.le_refl _⟩, ⟨blk_later BK185.out⟩, ⟨below_later HB.out⟩⟩
        case round =>
          clear H'
          try clear c11
          try clear c12b0
          try clear c13b0
          try clear hcz15_0
          try clear hcz15_1
          try clear hcz15_2
          try clear hcz15_3
          try clear hcz15_4
          try clear hfz15_0
          try clear hfz15_1
          try clear hfz15_2
          try clear hfz15_3
          try clear hfz15_4
          try clear hx184_0
          try clear hx184_1
          try clear hx184_2
          try clear hx184_3
          try clear hx184_4
          try clear p184
          try clear q184
          obtain ⟨x8_2, x9_2, x10_2, rfl, rfl, rfl, HA, HK2, BK185, HB⟩ := hrel
          cases gk with
          | zero => exact absurd HA.out (by simp [spec_l4Check.l0])
          | succ k2 =>
            have H := HA.out
            clear HA
            simp only [spec_l4Check.l0] at H
            by_cases c16 : x10_2 < ((rd_T57 l0 a1).f4)
            · rw [if_pos c16] at H
              have c16b0 := decide_eq_true c16
              clear c16
              by_cases c17 : x8_2 ≥ (l0.length : Int)
              · rw [if_pos c17] at H
                have c17b0 : decide ((l0.length : Int) ≤ x8_2) = true := decide_eq_true c17
                clear c17
                obtain rfl := Option.some.inj H
                obtain ⟨hcz18_0, hcz18_1, hcz18_2, hcz18_3, hcz18_4, hfz18_0, hfz18_1, hfz18_2, hfz18_3, hfz18_4⟩ := cl5 BK185
                go_wp2
                go_ret
                exact fin_ (below_later HB.out)
              · rw [if_neg c17] at H
                have c17b0 : decide ((l0.length : Int) ≤ x8_2) = false := decide_eq_false c17
                clear c17
                replace H := ifd H
                obtain ⟨c19b0, H⟩ := H
                replace H := ifd H
                obtain ⟨c20b0, H⟩ := H
                have HC21 := Aside0.mk H
                clear H
                obtain ⟨hcz22_0, hcz22_1, hcz22_2, hcz22_3, hcz22_4, hfz22_0, hfz22_1, hfz22_2, hfz22_3, hfz22_4⟩ := cl5 BK185
                have p186 : 0 ≤ (x8_2 : Int) := dcd
                have q186 : x8_2 < (l0.length : Int) := dcd
                obtain ⟨ad186, e186, hx186_0, hx186_1, hx186_2, hx186_3, hx186_4⟩ := at_T57 HR0.out x8_2 p186 q186
                obtain rfl : ad184 = ad186 := (by injection e186)
                replace hx186_0 := crd HB hx186_0
                replace hx186_1 := crd HB hx186_1
                replace hx186_2 := crd HB hx186_2
                replace hx186_3 := crd HB hx186_3
                replace hx186_4 := crd HB hx186_4
                replace p186 := eq_true p186
                replace q186 := eq_true q186
                go_upto_region 12 with (first | ((with_reducible refine gate_dst (N := 11) rfl ?_); refine bx_ 11 #[.int .i64 0, .int .i64 0, .int .i64 0, .string (⟨#[]⟩ : ByteArray), .int .i64 0] 57 ?_; intro gb187 hg w23 hbox hb; have BK187 := Aside0.mk (hbox); have GW187 := gwe HB hg; have GE187 := GW187; have NB185_187 := nbl BK185 hg; have NB187_185 := nbr (nbl BK185 hg); replace BK185 := bkb BK185 hb; replace HB := bst HB hb; clear hb hbox hg; have hnb24 := NB187_185.out; have hnc24 := NB185_187.out; obtain ⟨hcz25_0, hcz25_1, hcz25_2, hcz25_3, hcz25_4, hfz25_0, hfz25_1, hfz25_2, hfz25_3, hfz25_4⟩ := cl5 BK187))
                (try simp only [Act.put, List.setIfInBounds_toArray, List.set_cons_zero, List.set_cons_succ])
                go_cut [78] (fun v78 wc => ∃ (kq : Nat) (x78_20 : Bool), v78 = .bool x78_20 ∧ Aside0 (spec_l4Check.j2 kq l0 a2 x8_2 x10_2 x78_20 ((rd_T57 l0 a1).f0) ((rd_T57 l0 a1).f1) ((rd_T57 l0 a1).f2) ((rd_T57 l0 a1).f3) ((rd_T57 l0 a1).f4) ((rd_T57 l0 x8_2).f0) ((rd_T57 l0 x8_2).f1) ((rd_T57 l0 x8_2).f2) ((rd_T57 l0 x8_2).f3) ((rd_T57 l0 x8_2).f4) = some r) ∧ Aside0 (kq ≤ k2) ∧ Aside0 (wc.heap[gb185]? = some (.cells #[.int .i64 ((rd_T57 l0 a1).f0), .int .i64 ((rd_T57 l0 a1).f1), .int .i64 ((rd_T57 l0 a1).f2), .string ((rd_T57 l0 a1).f3), .int .i64 ((rd_T57 l0 a1).f4)] 57 (0, 0))) ∧ Aside0 (wc.heap[gb187]? = some (.cells #[.int .i64 ((rd_T57 l0 x8_2).f0), .int .i64 ((rd_T57 l0 x8_2).f1), .int .i64 ((rd_T57 l0 x8_2).f2), .string ((rd_T57 l0 x8_2).f3), .int .i64 ((rd_T57 l0 x8_2).f4)] 57 (0, 0))) ∧ Aside0 (Below w.heap.size w wc))
                case first =>
                  have H := HC21.out
                  clear HC21
                  by_cases c26 : ((rd_T57 l0 a1).f0) = 9
                  · rw [if_pos c26] at H
                    have c26b0 : (((rd_T57 l0 a1).f0) == 9) = true := beq_iff_eq.mpr c26
                    have c26b1 : (((rd_T57 l0 a1).f0) != 9) = false := bne_eq_false_iff_eq.mpr c26
                    clear c26
                    (first | rw [c26b0] | rw [c26b1] | (simp only [i64_w, i32_w]; rw [c26b0]) | skip)
                    by_cases c27 : ((rd_T57 l0 x8_2).f0) = ((rd_T57 l0 a1).f2)
                    · rw [if_pos c27] at H
                      have c27b0 : (((rd_T57 l0 x8_2).f0) == ((rd_T57 l0 a1).f2)) = true := beq_iff_eq.mpr c27
                      have c27b1 : (((rd_T57 l0 x8_2).f0) != ((rd_T57 l0 a1).f2)) = false := bne_eq_false_iff_eq.mpr c27
                      clear c27
                      by_cases c28 : ((rd_T57 l0 x8_2).f1) = 0
                      · rw [if_pos c28] at H
                        have c28b0 : (((rd_T57 l0 x8_2).f1) == 0) = true := beq_iff_eq.mpr c28
                        have c28b1 : (((rd_T57 l0 x8_2).f1) != 0) = false := bne_eq_false_iff_eq.mpr c28
                        clear c28
                        by_cases c29 : ((rd_T57 l0 a1).f0) = 12
                        · rw [if_pos c29] at H
                          have c29b0 : (((rd_T57 l0 a1).f0) == 12) = true := beq_iff_eq.mpr c29
                          have c29b1 : (((rd_T57 l0 a1).f0) != 12) = false := bne_eq_false_iff_eq.mpr c29
                          clear c29
                          by_cases c30 : ((rd_T57 l0 x8_2).f1) ≤ x9_2
                          · rw [if_pos c30] at H
                            have c30b0 := decide_eq_true c30
                            clear c30
                            have H' := Aside0.mk H
                            clear H
                            have hnb31 := NB185_187.out
                            have hnc31 := NB187_185.out
                            obtain ⟨hcz32_0, hcz32_1, hcz32_2, hcz32_3, hcz32_4, hfz32_0, hfz32_1, hfz32_2, hfz32_3, hfz32_4⟩ := cl5 BK185
                            obtain ⟨hcz33_0, hcz33_1, hcz33_2, hcz33_3, hcz33_4, hfz33_0, hfz33_1, hfz33_2, hfz33_3, hfz33_4⟩ := cl5 BK187
                            go_wp2
                            go_meet
                            case rel => exact ⟨_, (true), sr, H', ⟨by have := HJ3.out; have := HK2.out; first | omega | exact Nat.le_refl _⟩, ⟨blk_later BK185.out⟩, ⟨blk_later BK187.out⟩, ⟨below_later HB.out⟩⟩
                          · rw [if_neg c30] at H
                            have c30b0 := decide_eq_false c30
                            clear c30
                            have H' := Aside0.mk H
                            clear H
                            have hnb34 := NB185_187.out
                            have hnc34 := NB187_185.out
                            obtain ⟨hcz35_0, hcz35_1, hcz35_2, hcz35_3, hcz35_4, hfz35_0, hfz35_1, hfz35_2, hfz35_3, hfz35_4⟩ := cl5 BK185
                            obtain ⟨hcz36_0, hcz36_1, hcz36_2, hcz36_3, hcz36_4, hfz36_0, hfz36_1, hfz36_2, hfz36_3, hfz36_4⟩ := cl5 BK187
                            go_wp2
                            go_meet
                            case rel => exact ⟨_, (decide (((rd_T57 l0 x8_2).f1) > 1000)), sr, H', ⟨by have := HJ3.out; have := HK2.out; first | omega | exact Nat.le_refl _⟩, ⟨blk_later BK185.out⟩, ⟨blk_later BK187.out⟩, ⟨below_later HB.out⟩⟩
                        · rw [if_neg c29] at H
                          have c29b0 : (((rd_T57 l0 a1).f0) == 12) = false := beq_eq_false_iff_ne.mpr c29
                          have c29b1 : (((rd_T57 l0 a1).f0) != 12) = true := bne_iff_ne.mpr c29
                          have H' := Aside0.mk H
                          clear H
                          have hnb37 := NB185_187.out
                          have hnc37 := NB187_185.out
                          obtain ⟨hcz38_0, hcz38_1, hcz38_2, hcz38_3, hcz38_4, hfz38_0, hfz38_1, hfz38_2, hfz38_3, hfz38_4⟩ := cl5 BK185
                          obtain ⟨hcz39_0, hcz39_1, hcz39_2, hcz39_3, hcz39_4, hfz39_0, hfz39_1, hfz39_2, hfz39_3, hfz39_4⟩ := cl5 BK187
                          go_wp2
                          go_meet
                          case rel => exact ⟨_, (false), sr, H', ⟨by have := HJ3.out; have := HK2.out; first | omega | exact Nat.le_refl _⟩, ⟨blk_later BK185.out⟩, ⟨blk_later BK187.out⟩, ⟨below_later HB.out⟩⟩
                      · rw [if_neg c28] at H
                        have c28b0 : (((rd_T57 l0 x8_2).f1) == 0) = false := beq_eq_false_iff_ne.mpr c28
                        have c28b1 : (((rd_T57 l0 x8_2).f1) != 0) = true := bne_iff_ne.mpr c28
                        have H' := Aside0.mk H
                        clear H
                        have hnb40 := NB185_187.out
                        have hnc40 := NB187_185.out
                        obtain ⟨hcz41_0, hcz41_1, hcz41_2, hcz41_3, hcz41_4, hfz41_0, hfz41_1, hfz41_2, hfz41_3, hfz41_4⟩ := cl5 BK185
                        obtain ⟨hcz42_0, hcz42_1, hcz42_2, hcz42_3, hcz42_4, hfz42_0, hfz42_1, hfz42_2, hfz42_3, hfz42_4⟩ := cl5 BK187
                        go_wp2
                        go_meet
                        case rel => exact ⟨_, (true), sr, H', ⟨by have := HJ3.out; have := HK2.out; first | omega | exact Nat.le_refl _⟩, ⟨blk_later BK185.out⟩, ⟨blk_later BK187.out⟩, ⟨below_later HB.out⟩⟩
                    · rw [if_neg c27] at H
                      have c27b0 : (((rd_T57 l0 x8_2).f0) == ((rd_T57 l0 a1).f2)) = false := beq_eq_false_iff_ne.mpr c27
                      have c27b1 : (((rd_T57 l0 x8_2).f0) != ((rd_T57 l0 a1).f2)) = true := bne_iff_ne.mpr c27
                      have H' := Aside0.mk H
                      clear H
                      have hnb43 := NB185_187.out
                      have hnc43 := NB187_185.out
                      obtain ⟨hcz44_0, hcz44_1, hcz44_2, hcz44_3, hcz44_4, hfz44_0, hfz44_1, hfz44_2, hfz44_3, hfz44_4⟩ := cl5 BK185
                      obtain ⟨hcz45_0, hcz45_1, hcz45_2, hcz45_3, hcz45_4, hfz45_0, hfz45_1, hfz45_2, hfz45_3, hfz45_4⟩ := cl5 BK187
                      go_wp2
                      go_meet
                      case rel => exact ⟨_, (true), sr, H', ⟨by have := HJ3.out; have := HK2.out; first | omega | exact Nat.le_refl _⟩, ⟨blk_later BK185.out⟩, ⟨blk_later BK187.out⟩, ⟨below_later HB.out⟩⟩
                  · rw [if_neg c26] at H
                    have c26b0 : (((rd_T57 l0 a1).f0) == 9) = false := beq_eq_false_iff_ne.mpr c26
                    have c26b1 : (((rd_T57 l0 a1).f0) != 9) = true := bne_iff_ne.mpr c26
                    (first | rw [c26b0] | rw [c26b1] | (simp only [i64_w, i32_w]; rw [c26b0]) | skip)
                    by_cases c46 : ((rd_T57 l0 a1).f0) = 12
                    · rw [if_pos c46] at H
                      have c46b0 : (((rd_T57 l0 a1).f0) == 12) = true := beq_iff_eq.mpr c46
                      have c46b1 : (((rd_T57 l0 a1).f0) != 12) = false := bne_eq_false_iff_eq.mpr c46
                      clear c46
                      by_cases c47 : ((rd_T57 l0 x8_2).f1) ≤ x9_2
                      · rw [if_pos c47] at H
                        have c47b0 := decide_eq_true c47
                        clear c47
                        have H' := Aside0.mk H
                        clear H
                        have hnb48 := NB185_187.out
                        have hnc48 := NB187_185.out
                        obtain ⟨hcz49_0, hcz49_1, hcz49_2, hcz49_3, hcz49_4, hfz49_0, hfz49_1, hfz49_2, hfz49_3, hfz49_4⟩ := cl5 BK185
                        obtain ⟨hcz50_0, hcz50_1, hcz50_2, hcz50_3, hcz50_4, hfz50_0, hfz50_1, hfz50_2, hfz50_3, hfz50_4⟩ := cl5 BK187
                        go_wp2
                        go_meet
                        case rel => exact ⟨_, (true), sr, H', ⟨by have := HJ3.out; have := HK2.out; first | omega | exact Nat.le_refl _⟩, ⟨blk_later BK185.out⟩, ⟨blk_later BK187.out⟩, ⟨below_later HB.out⟩⟩
                      · rw [if_neg c47] at H
                        have c47b0 := decide_eq_false c47
                        clear c47
                        have H' := Aside0.mk H
                        clear H
                        have hnb51 := NB185_187.out
                        have hnc51 := NB187_185.out
                        obtain ⟨hcz52_0, hcz52_1, hcz52_2, hcz52_3, hcz52_4, hfz52_0, hfz52_1, hfz52_2, hfz52_3, hfz52_4⟩ := cl5 BK185
                        obtain ⟨hcz53_0, hcz53_1, hcz53_2, hcz53_3, hcz53_4, hfz53_0, hfz53_1, hfz53_2, hfz53_3, hfz53_4⟩ := cl5 BK187
                        go_wp2
                        go_meet
                        case rel => exact ⟨_, (decide (((rd_T57 l0 x8_2).f1) > 1000)), sr, H', ⟨by have := HJ3.out; have := HK2.out; first | omega | exact Nat.le_refl _⟩, ⟨blk_later BK185.out⟩, ⟨blk_later BK187.out⟩, ⟨below_later HB.out⟩⟩
                    · rw [if_neg c46] at H
                      have c46b0 : (((rd_T57 l0 a1).f0) == 12) = false := beq_eq_false_iff_ne.mpr c46
                      have c46b1 : (((rd_T57 l0 a1).f0) != 12) = true := bne_iff_ne.mpr c46
                      have H' := Aside0.mk H
                      clear H
                      have hnb54 := NB185_187.out
                      have hnc54 := NB187_185.out
                      obtain ⟨hcz55_0, hcz55_1, hcz55_2, hcz55_3, hcz55_4, hfz55_0, hfz55_1, hfz55_2, hfz55_3, hfz55_4⟩ := cl5 BK185
                      go_wp2
                      go_meet
                      case rel => exact ⟨_, (false), sr, H', ⟨by have := HJ3.out; have := HK2.out; first | omega | exact Nat.le_refl _⟩, ⟨blk_later BK185.out⟩, ⟨blk_later BK187.out⟩, ⟨below_later HB.out⟩⟩
                case rest =>
                  clear HC21
                  try clear c11
                  try clear c12b0
                  try clear c13b0
                  try clear c16
                  try clear c16b0
                  try clear c17
                  try clear c17b0
                  try clear c19b0
                  try clear c20b0
                  try clear hcz15_0
                  try clear hcz15_1
                  try clear hcz15_2
                  try clear hcz15_3
                  try clear hcz15_4
                  try clear hcz22_0
                  try clear hcz22_1
                  try clear hcz22_2
                  try clear hcz22_3
                  try clear hcz22_4
                  try clear hcz25_0
                  try clear hcz25_1
                  try clear hcz25_2
                  try clear hcz25_3
                  try clear hcz25_4
                  try clear hfz15_0
                  try clear hfz15_1
                  try clear hfz15_2
                  try clear hfz15_3
                  try clear hfz15_4
                  try clear hfz22_0
                  try clear hfz22_1
                  try clear hfz22_2
                  try clear hfz22_3
                  try clear hfz22_4
                  try clear hfz25_0
                  try clear hfz25_1
                  try clear hfz25_2
                  try clear hfz25_3
                  try clear hfz25_4
                  try clear hx184_0
                  try clear hx184_1
                  try clear hx184_2
                  try clear hx184_3
                  try clear hx184_4
                  try clear hx186_0
                  try clear hx186_1
                  try clear hx186_2
                  try clear hx186_3
                  try clear hx186_4
                  try clear p184
                  try clear p186
                  try clear q184
                  try clear q186
                  obtain ⟨kq, x78_20, rfl, HA, HJ20, BK185, BK187, HB⟩ := hcut
                  cases kq with
                  | zero => exact absurd HA.out (by simp [spec_l4Check.j2])
                  | succ kj20 =>
                    have H := HA.out
                    clear HA
                    simp only [spec_l4Check.j2] at H
                    by_cases c56 : x78_20 = true
                    · subst c56
                      replace H := ifp rfl H
                      obtain rfl := Option.some.inj H
                      go_wp2
                      go_ret
                      exact fin_ (below_later HB.out)
                    · replace c56 := Bool.eq_false_iff.mpr c56
                      subst c56
                      replace H := ifn Bool.false_ne_true H
                      replace H := bnd H
                      obtain ⟨t188, A57, H⟩ := H
                      by_cases c58 : t188 < 0
                      · rw [if_pos c58] at H
                        have c58b0 := decide_eq_true c58
                        clear c58
                        obtain rfl := Option.some.inj H
                        have hnb59 := NB187_185.out
                        have hnc59 := NB185_187.out
                        obtain ⟨hcz60_0, hcz60_1, hcz60_2, hcz60_3, hcz60_4, hfz60_0, hfz60_1, hfz60_2, hfz60_3, hfz60_4⟩ := cl5 BK187
                        go_wp2_with (first | ((with_reducible refine gate_callee (f := 42) rfl ?_); refine gl_ (some 85) Try.func42 #[.slice (some ad184) l0.length c0, .int .i64 x8_2, .int .i64 (wrap64 (a2 + 1))] rfl ?_; (with_reducible refine (ih kj20 (by have := HJ3.out; have := HK2.out; have := HJ20.out; omega) _ _ l0 x8_2 (wrap64 (a2 + 1)) t188 _ ?side1 ?side2 A57.out).mono ?_); (case side1 => repeat (first | exact (Kd.C_below HR0.out HB.out) | (with_reducible refine Kd.C_alloc ?_ _) | (with_reducible refine Kd.C_drewN ?_ _) | (with_reducible refine Kd.C_drew ?_))); (case side2 => exact HC0.out); rintro e w61 ⟨rfl, hb⟩; refine ⟨_, rfl, ?_⟩; replace BK185 := bkb BK185 hb; replace BK187 := bkb BK187 hb; replace HB := bst HB hb; (try clear hb)))
                        go_ret
                        exact fin_ (below_later HB.out)
                      · rw [if_neg c58] at H
                        have c58b0 := decide_eq_false c58
                        clear c58
                        have H' := Aside0.mk H
                        clear H
                        have hnb62 := NB187_185.out
                        have hnc62 := NB185_187.out
                        obtain ⟨hcz63_0, hcz63_1, hcz63_2, hcz63_3, hcz63_4, hfz63_0, hfz63_1, hfz63_2, hfz63_3, hfz63_4⟩ := cl5 BK187
                        go_wp2_with (first | ((with_reducible refine gate_callee (f := 42) rfl ?_); refine gl_ (some 85) Try.func42 #[.slice (some ad184) l0.length c0, .int .i64 x8_2, .int .i64 (wrap64 (a2 + 1))] rfl ?_; (with_reducible refine (ih kj20 (by have := HJ3.out; have := HK2.out; have := HJ20.out; omega) _ _ l0 x8_2 (wrap64 (a2 + 1)) t188 _ ?side1 ?side2 A57.out).mono ?_); (case side1 => repeat (first | exact (Kd.C_below HR0.out HB.out) | (with_reducible refine Kd.C_alloc ?_ _) | (with_reducible refine Kd.C_drewN ?_ _) | (with_reducible refine Kd.C_drew ?_))); (case side2 => exact HC0.out); rintro e w64 ⟨rfl, hb⟩; refine ⟨_, rfl, ?_⟩; replace BK185 := bkb BK185 hb; replace BK187 := bkb BK187 hb; replace HB := bst HB hb; (try clear hb)))
                        go_roundg kj20
                        case measure => have := HJ3.out; have := HK2.out; have := HJ20.out; omega
                        case rel => exact ⟨(t188), (((rd_T57 l0 x8_2).f1)), (wrap64 (x10_2 + 1)), sr, sr, sr, H', ⟨by have := HJ3.out; have := HK2.out; have := HJ20.out; omega⟩, ⟨blk_later BK185.out⟩, ⟨below_later HB.out⟩⟩
            · rw [if_neg c16] at H
              have c16b0 := decide_eq_false c16
              clear c16
              obtain rfl := Option.some.inj H
              obtain ⟨hcz65_0, hcz65_1, hcz65_2, hcz65_3, hcz65_4, hfz65_0, hfz65_1, hfz65_2, hfz65_3, hfz65_4⟩ := cl5 BK185
              go_wp2
              go_ret
              exact fin_ (below_later HB.out)
/-! ### spec_TreeOk: function 23 -/
def spec_TreeOk.f (k : Nat) (l0 : List (S57)) : Option (Bool) := (spec_l1In.f (l0.length : Int) 1 1500).bind fun t189 => (if t189 = true then (if 0 < (l0.length : Int) then (if ((rd_T57 l0 0).f0) = 12 then (if ((rd_T57 l0 0).f1) = 0 then ((spec_l4Check.f k l0 0 1).bind fun t192 => (some (t192 == (l0.length : Int)))) else (some false)) else (some false)) else (none)) else (some false))
set_option maxHeartbeats 8000000 in
set_option maxRecDepth 100000 in
theorem spec_TreeOk.calls (k : Nat) (A0 : Option Addr) (c0 : Nat) (l0 : List (S57)) (r : Bool) (w : World) (hr0 : Kd.C k57 w A0 l0.length l0) (hc0 : l0.length ≤ c0) (h : spec_TreeOk.f k l0 = some r) :
    Calls Try.prog 23 #[.slice A0 l0.length c0] w fun e w' => e = .returned (.bool r) ∧ Below w.heap.size w w' := by
  have HR0 := Aside0.mk hr0
  have HC0 := Aside0.mk hc0
  clear hr0 hc0
  have HB := Aside0.mk (Below.refl w.heap.size w)
  have H : ((spec_l1In.f (l0.length : Int) 1 1500).bind fun t189 => (if t189 = true then (if 0 < (l0.length : Int) then (if ((rd_T57 l0 0).f0) = 12 then (if ((rd_T57 l0 0).f1) = 0 then ((spec_l4Check.f k l0 0 1).bind fun t192 => (some (t192 == (l0.length : Int)))) else (some false)) else (some false)) else (none)) else (some false))) = some r := h
  clear h
  replace H := bnd H
  obtain ⟨t189, A2, H⟩ := H
  by_cases c3 : t189 = true
  · subst c3
    replace H := ifp rfl H
    replace H := ifs H
    obtain ⟨c4, H⟩ := H
    have c4b0 := decide_eq_true c4
    have c4b1 : decide (0 < l0.length) = true := decide_eq_true (by omega)
    clear c4
    by_cases c5 : ((rd_T57 l0 0).f0) = 12
    · rw [if_pos c5] at H
      have c5b0 : (((rd_T57 l0 0).f0) == 12) = true := beq_iff_eq.mpr c5
      have c5b1 : (((rd_T57 l0 0).f0) != 12) = false := bne_eq_false_iff_eq.mpr c5
      clear c5
      by_cases c6 : ((rd_T57 l0 0).f1) = 0
      · rw [if_pos c6] at H
        have c6b0 : (((rd_T57 l0 0).f1) == 0) = true := beq_iff_eq.mpr c6
        have c6b1 : (((rd_T57 l0 0).f1) != 0) = false := bne_eq_false_iff_eq.mpr c6
        clear c6
        replace H := bnd H
        obtain ⟨t192, A7, H⟩ := H
        obtain rfl := Option.some.inj H
        go_enter Try.func23, Try.ntmps23
        go_wp2_with (first | ((with_reducible refine gate_callee (f := 24) rfl ?_); refine gl_ (some 5) Try.func24 #[.int .i64 (l0.length : Int), .int .i64 1, .int .i64 1500] rfl ?_; (with_reducible refine (spec_l1In.calls (l0.length : Int) 1 1500 true _ A2.out).mono ?_); rintro e w' ⟨rfl, ⟨nd, rfl⟩⟩; refine ⟨_, rfl, ?_⟩; have p190 : 0 ≤ (0 : Int) := (by omega); have q190 : 0 < (l0.length : Int) := dcd; obtain ⟨ad190, e190, hx190_0, hx190_1, hx190_2, hx190_3, hx190_4⟩ := at_T57 HR0.out 0 p190 q190; cases e190; have qi190 : (0 < l0.length) = True := eq_true (by omega); (try rw [show ((0 : Int)).toNat = 0 from rfl] at hx190_0); (try rw [show 0 * 5 = 0 from rfl] at hx190_0); (try rw [Addr.add_zero'] at hx190_0); (try rw [show ((0 : Int)).toNat = 0 from rfl] at hx190_1); (try rw [show 0 * 5 = 0 from rfl] at hx190_1); (try rw [Addr.add_zero'] at hx190_1); (try rw [show ((0 : Int)).toNat = 0 from rfl] at hx190_2); (try rw [show 0 * 5 = 0 from rfl] at hx190_2); (try rw [Addr.add_zero'] at hx190_2); (try rw [show ((0 : Int)).toNat = 0 from rfl] at hx190_3); (try rw [show 0 * 5 = 0 from rfl] at hx190_3); (try rw [Addr.add_zero'] at hx190_3); (try rw [show ((0 : Int)).toNat = 0 from rfl] at hx190_4); (try rw [show 0 * 5 = 0 from rfl] at hx190_4); (try rw [Addr.add_zero'] at hx190_4); replace p190 := eq_true p190; replace q190 := eq_true q190; have p191 : 0 ≤ (0 : Int) := (by omega); have q191 : 0 < (l0.length : Int) := dcd; obtain ⟨ad191, e191, hx191_0, hx191_1, hx191_2, hx191_3, hx191_4⟩ := at_T57 HR0.out 0 p191 q191; obtain rfl : ad190 = ad191 := (by injection e191); have qi191 : (0 < l0.length) = True := eq_true (by omega); (try rw [show ((0 : Int)).toNat = 0 from rfl] at hx191_0); (try rw [show 0 * 5 = 0 from rfl] at hx191_0); (try rw [Addr.add_zero'] at hx191_0); (try rw [show ((0 : Int)).toNat = 0 from rfl] at hx191_1); (try rw [show 0 * 5 = 0 from rfl] at hx191_1); (try rw [Addr.add_zero'] at hx191_1); (try rw [show ((0 : Int)).toNat = 0 from rfl] at hx191_2); (try rw [show 0 * 5 = 0 from rfl] at hx191_2); (try rw [Addr.add_zero'] at hx191_2); (try rw [show ((0 : Int)).toNat = 0 from rfl] at hx191_3); (try rw [show 0 * 5 = 0 from rfl] at hx191_3); (try rw [Addr.add_zero'] at hx191_3); (try rw [show ((0 : Int)).toNat = 0 from rfl] at hx191_4); (try rw [show 0 * 5 = 0 from rfl] at hx191_4); (try rw [Addr.add_zero'] at hx191_4); replace p191 := eq_true p191; replace q191 := eq_true q191) | ((with_reducible refine gate_callee (f := 42) rfl ?_); refine gl_ (some 22) Try.func42 #[.slice (some ad190) l0.length c0, .int .i64 0, .int .i64 1] rfl ?_; (with_reducible refine (spec_l4Check.calls k _ _ l0 0 1 t192 _ ?side1 ?side2 A7.out).mono ?_); (case side1 => exact C_later HR0.out); (case side2 => exact HC0.out); rintro e w8 ⟨rfl, hb⟩; refine ⟨_, rfl, ?_⟩; replace HB := bst HB hb; (try clear hb)))
        go_ret
        exact fin_ (below_later HB.out)
      · rw [if_neg c6] at H
        have c6b0 : (((rd_T57 l0 0).f1) == 0) = false := beq_eq_false_iff_ne.mpr c6
        have c6b1 : (((rd_T57 l0 0).f1) != 0) = true := bne_iff_ne.mpr c6
        obtain rfl := Option.some.inj H
        go_enter Try.func23, Try.ntmps23
        go_wp2_with (first | ((with_reducible refine gate_callee (f := 24) rfl ?_); refine gl_ (some 5) Try.func24 #[.int .i64 (l0.length : Int), .int .i64 1, .int .i64 1500] rfl ?_; (with_reducible refine (spec_l1In.calls (l0.length : Int) 1 1500 true _ A2.out).mono ?_); rintro e w' ⟨rfl, ⟨nd, rfl⟩⟩; refine ⟨_, rfl, ?_⟩; have p190 : 0 ≤ (0 : Int) := (by omega); have q190 : 0 < (l0.length : Int) := dcd; obtain ⟨ad190, e190, hx190_0, hx190_1, hx190_2, hx190_3, hx190_4⟩ := at_T57 HR0.out 0 p190 q190; cases e190; have qi190 : (0 < l0.length) = True := eq_true (by omega); (try rw [show ((0 : Int)).toNat = 0 from rfl] at hx190_0); (try rw [show 0 * 5 = 0 from rfl] at hx190_0); (try rw [Addr.add_zero'] at hx190_0); (try rw [show ((0 : Int)).toNat = 0 from rfl] at hx190_1); (try rw [show 0 * 5 = 0 from rfl] at hx190_1); (try rw [Addr.add_zero'] at hx190_1); (try rw [show ((0 : Int)).toNat = 0 from rfl] at hx190_2); (try rw [show 0 * 5 = 0 from rfl] at hx190_2); (try rw [Addr.add_zero'] at hx190_2); (try rw [show ((0 : Int)).toNat = 0 from rfl] at hx190_3); (try rw [show 0 * 5 = 0 from rfl] at hx190_3); (try rw [Addr.add_zero'] at hx190_3); (try rw [show ((0 : Int)).toNat = 0 from rfl] at hx190_4); (try rw [show 0 * 5 = 0 from rfl] at hx190_4); (try rw [Addr.add_zero'] at hx190_4); replace p190 := eq_true p190; replace q190 := eq_true q190; have p191 : 0 ≤ (0 : Int) := (by omega); have q191 : 0 < (l0.length : Int) := dcd; obtain ⟨ad191, e191, hx191_0, hx191_1, hx191_2, hx191_3, hx191_4⟩ := at_T57 HR0.out 0 p191 q191; obtain rfl : ad190 = ad191 := (by injection e191); have qi191 : (0 < l0.length) = True := eq_true (by omega); (try rw [show ((0 : Int)).toNat = 0 from rfl] at hx191_0); (try rw [show 0 * 5 = 0 from rfl] at hx191_0); (try rw [Addr.add_zero'] at hx191_0); (try rw [show ((0 : Int)).toNat = 0 from rfl] at hx191_1); (try rw [show 0 * 5 = 0 from rfl] at hx191_1); (try rw [Addr.add_zero'] at hx191_1); (try rw [show ((0 : Int)).toNat = 0 from rfl] at hx191_2); (try rw [show 0 * 5 = 0 from rfl] at hx191_2); (try rw [Addr.add_zero'] at hx191_2); (try rw [show ((0 : Int)).toNat = 0 from rfl] at hx191_3); (try rw [show 0 * 5 = 0 from rfl] at hx191_3); (try rw [Addr.add_zero'] at hx191_3); (try rw [show ((0 : Int)).toNat = 0 from rfl] at hx191_4); (try rw [show 0 * 5 = 0 from rfl] at hx191_4); (try rw [Addr.add_zero'] at hx191_4); replace p191 := eq_true p191; replace q191 := eq_true q191))
        go_ret
        exact fin_ (below_later HB.out)
    · rw [if_neg c5] at H
      have c5b0 : (((rd_T57 l0 0).f0) == 12) = false := beq_eq_false_iff_ne.mpr c5
      have c5b1 : (((rd_T57 l0 0).f0) != 12) = true := bne_iff_ne.mpr c5
      obtain rfl := Option.some.inj H
      go_enter Try.func23, Try.ntmps23
      go_wp2_with (first | ((with_reducible refine gate_callee (f := 24) rfl ?_); refine gl_ (some 5) Try.func24 #[.int .i64 (l0.length : Int), .int .i64 1, .int .i64 1500] rfl ?_; (with_reducible refine (spec_l1In.calls (l0.length : Int) 1 1500 true _ A2.out).mono ?_); rintro e w' ⟨rfl, ⟨nd, rfl⟩⟩; refine ⟨_, rfl, ?_⟩; have p190 : 0 ≤ (0 : Int) := (by omega); have q190 : 0 < (l0.length : Int) := dcd; obtain ⟨ad190, e190, hx190_0, hx190_1, hx190_2, hx190_3, hx190_4⟩ := at_T57 HR0.out 0 p190 q190; cases e190; have qi190 : (0 < l0.length) = True := eq_true (by omega); (try rw [show ((0 : Int)).toNat = 0 from rfl] at hx190_0); (try rw [show 0 * 5 = 0 from rfl] at hx190_0); (try rw [Addr.add_zero'] at hx190_0); (try rw [show ((0 : Int)).toNat = 0 from rfl] at hx190_1); (try rw [show 0 * 5 = 0 from rfl] at hx190_1); (try rw [Addr.add_zero'] at hx190_1); (try rw [show ((0 : Int)).toNat = 0 from rfl] at hx190_2); (try rw [show 0 * 5 = 0 from rfl] at hx190_2); (try rw [Addr.add_zero'] at hx190_2); (try rw [show ((0 : Int)).toNat = 0 from rfl] at hx190_3); (try rw [show 0 * 5 = 0 from rfl] at hx190_3); (try rw [Addr.add_zero'] at hx190_3); (try rw [show ((0 : Int)).toNat = 0 from rfl] at hx190_4); (try rw [show 0 * 5 = 0 from rfl] at hx190_4); (try rw [Addr.add_zero'] at hx190_4); replace p190 := eq_true p190; replace q190 := eq_true q190))
      go_ret
      exact fin_ (below_later HB.out)
  · replace c3 := Bool.eq_false_iff.mpr c3
    subst c3
    replace H := ifn Bool.false_ne_true H
    obtain rfl := Option.some.inj H
    go_enter Try.func23, Try.ntmps23
    go_wp2_with (first | ((with_reducible refine gate_callee (f := 24) rfl ?_); refine gl_ (some 5) Try.func24 #[.int .i64 (l0.length : Int), .int .i64 1, .int .i64 1500] rfl ?_; (with_reducible refine (spec_l1In.calls (l0.length : Int) 1 1500 false _ A2.out).mono ?_); rintro e w' ⟨rfl, ⟨nd, rfl⟩⟩; refine ⟨_, rfl, ?_⟩))
    go_ret
    exact fin_ (below_later HB.out)

/-! ### spec_l2Down: function 111 -/
def spec_l2Down.f (a0 : Int) (a1 : Int) : Option (Int) := if a1 = 0 then (some a0) else (if 0 ≤ a1 then (if 0 ≤ (wrap64 (64 - a1)) then (some (Go.bits .and .i64 (shr .i64 a0 a1) (wrap64 ((shl .i64 1 (wrap64 (64 - a1))) - 1)))) else (none)) else (none))
set_option maxHeartbeats 8000000 in
set_option maxRecDepth 100000 in
theorem spec_l2Down.calls (a0 : Int) (a1 : Int) (r : Int) (w : World) (h : spec_l2Down.f a0 a1 = some r) :
    Calls Try.prog 111 #[.int .i64 a0, .int .i64 a1] w fun e w' => e = .returned (.int .i64 r) ∧ Drawn0 w w' := by
  have H : (if a1 = 0 then (some a0) else (if 0 ≤ a1 then (if 0 ≤ (wrap64 (64 - a1)) then (some (Go.bits .and .i64 (shr .i64 a0 a1) (wrap64 ((shl .i64 1 (wrap64 (64 - a1))) - 1)))) else (none)) else (none))) = some r := h
  clear h
  by_cases c3 : a1 = 0
  · rw [if_pos c3] at H
    have c3b0 : (a1 == 0) = true := beq_iff_eq.mpr c3
    have c3b1 : (a1 != 0) = false := bne_eq_false_iff_eq.mpr c3
    clear c3
    obtain rfl := Option.some.inj H
    go_enter Try.func111, Try.ntmps111
    go_wp2
    repeat (go_quiet (fail); try go_wp2)
    go_ret
    exact ⟨by first | rfl | (simp; done) | (simp [*]; done), by repeat (first | exact Drawn0.refl _ | apply Drawn0.step)⟩
  · rw [if_neg c3] at H
    have c3b0 : (a1 == 0) = false := beq_eq_false_iff_ne.mpr c3
    have c3b1 : (a1 != 0) = true := bne_iff_ne.mpr c3
    replace H := ifs H
    obtain ⟨c4, H⟩ := H
    have c4b0 := eq_true c4
    have c4b1 := decide_eq_true c4
    clear c4
    obtain ⟨ji5, hji5⟩ : ∃ j_ : Int, (shr .i64 a0 a1) = j_ := ⟨_, rfl⟩
    replace H : (if 0 ≤ (wrap64 (64 - a1)) then (some (Go.bits .and .i64 (ji5) (wrap64 ((shl .i64 1 (wrap64 (64 - a1))) - 1)))) else (none)) = some r := by first | (rw [hji5] at H; exact H) | (simp only [hji5] at H ⊢; exact H)
    have hji5_ : (a0 / 2 ^ min a1.toNat 64) = ji5 := hji5
    have hji5z : a1 ≤ 64 → (a0 / 2 ^ a1.toNat) = ji5 := shr_small hji5
    obtain ⟨ji6, hji6⟩ : ∃ j_ : Int, (wrap64 (64 - a1)) = j_ := ⟨_, rfl⟩
    replace H : (if 0 ≤ (ji6) then (some (Go.bits .and .i64 (ji5) (wrap64 ((shl .i64 1 (ji6)) - 1)))) else (none)) = some r := by first | (rw [hji6] at H; exact H) | (simp only [hji6] at H ⊢; exact H)
    have hji6w : (IntKind.i64.wrap (64 - a1)) = ji6 := (i64_w _).trans hji6
    replace H := ifs H
    obtain ⟨c7, H⟩ := H
    have c7b0 := eq_true c7
    have c7b1 := decide_eq_true c7
    clear c7
    obtain ⟨ji8, hji8⟩ : ∃ j_ : Int, (shl .i64 1 (ji6)) = j_ := ⟨_, rfl⟩
    replace H : (some (Go.bits .and .i64 (ji5) (wrap64 ((ji8) - 1)))) = some r := by first | (rw [hji8] at H; exact H) | (simp only [hji8] at H ⊢; exact H)
    have hji8_ : (IntKind.i64.wrap (1 * 2 ^ min (ji6).toNat 64)) = ji8 := hji8
    have hji8z : (ji6) ≤ 64 → (IntKind.i64.wrap (1 * 2 ^ (ji6).toNat)) = ji8 := shl_small hji8
    have hji8u : (IntKind.i64.wrap (2 ^ min (ji6).toNat 64)) = ji8 := by have h_ := hji8_; rw [Int.one_mul] at h_; exact h_
    have hji8v : (ji6) ≤ 64 → (IntKind.i64.wrap (2 ^ (ji6).toNat)) = ji8 := fun hle_ => by have h_ := hji8z hle_; rw [Int.one_mul] at h_; exact h_
    have hji8y : (wrap64 (1 * 2 ^ min (ji6).toNat 64)) = ji8 := (i64_w _).symm.trans hji8_
    have hji8x : (ji6) ≤ 64 → (wrap64 (1 * 2 ^ (ji6).toNat)) = ji8 := fun h_ => (i64_w _).symm.trans (hji8z h_)
    obtain rfl := Option.some.inj H
    go_enter Try.func111, Try.ntmps111
    go_wp2
    repeat (go_quiet (fail); try go_wp2)
    go_ret
    exact ⟨by first | rfl | (simp; done) | (simp only [← hji5, ← hji6, ← hji8] <;> (first | rfl | simp)) | (simp [*]; done), by repeat (first | exact Drawn0.refl _ | apply Drawn0.step)⟩
/-! ### spec_UvarPut: function 98 -/
def spec_UvarPut.l0 : Nat → Int → List Int → Option (List Int)
  | 0, _, _ => none
  | k + 1, x0, x3 => (spec_l2Down.f x0 7).bind fun t196 => (if t196 = 0 then (if x3.length < 140737488355328 then (some (x3 ++ [(x0) % 256])) else (none)) else (if x3.length < 140737488355328 then ((spec_l2Down.f x0 7).bind fun t203 => (spec_UvarPut.l0 k t203 (x3 ++ [(wrap64 ((Go.bits .and .i64 x0 127) + 128)) % 256]))) else (none)))
def spec_UvarPut.f (k : Nat) (a0 : Int) : Option (List Int) := spec_UvarPut.l0 k a0 (([] : List Int))
set_option maxHeartbeats 8000000 in
set_option maxRecDepth 100000 in
theorem spec_UvarPut.calls (k : Nat) (a0 : Int) (r : List Int) (w : World) (h : spec_UvarPut.f k a0 = some r) :
    Calls Try.prog 98 #[.int .i64 a0] w fun e w' => ∃ v0_ : Value, e = .returned (v0_) ∧ Kd.R (Kd.int .u8) 5 w' w.heap.size (fun _ => True) v0_ r ∧ Below w.heap.size w w' := by
  have HB := Aside0.mk (Below.refl w.heap.size w)
  have H : (spec_UvarPut.l0 k a0 (([] : List Int))) = some r := h
  clear h
  obtain ⟨y193, hy193⟩ : ∃ y_ : List Int, y_ = (([] : List Int)) := ⟨_, rfl⟩
  replace H : (spec_UvarPut.l0 k a0 y193) = some r := by first | (rw [hy193]; with_reducible exact H) | (rw [hy193]; exact H) | exact H
  have Ny193 := Aside0.mk hy193
  clear hy193
  have H' := Aside0.mk H
  clear H
  go_enter Try.func98, Try.ntmps98
  go_wp2_with (first | ((with_reducible refine gate_dst (N := 4) rfl ?_); refine Kd.R_lit (Kd.int .u8) _ 5 ?hg (N := 4) ?hd (xs := ([] : List Int)) (inner := []) (ok := fun _ => True) (okp := fun _ => True) ?hr ?hp (fun _ hk => hk) trivial (Below.refl _ _) (Nat.le_refl _) (by simp) ?_; (case hd => rfl); (case hg => rfl); (case hr => first | (go_simp; done) | (go_simp; rfl)); (case hp => exact (Reps.none _ _)); intro v194 w2 ho3 hb hg_ hnew_; clear hg_ hnew_; (first | rw [← Ny193.out] at ho3 | (simp only [Int.reduceToNat] at ho3; rw [← Ny193.out] at ho3)); have HO195 := Aside0.mk (Kd.R_lower ho3 (below_size (below_later HB.out))); replace HB := bst HB hb; clear hb ho3))
  go_loopg [0, 3] k (fun kq v0 v3 w' => ∃ (x0_1 : Int) (x3_1 : List Int), v0 = .int .i64 x0_1 ∧ Aside0 (spec_UvarPut.l0 kq x0_1 x3_1 = some r) ∧ Aside0 (kq ≤ k) ∧ Aside0 (Kd.R (Kd.int .u8) 5 w' w.heap.size (fun _ => True) v3 x3_1) ∧ Aside0 (Below w.heap.size w w'))
  case atStart => exact ⟨(a0), (y193), sr, H', ⟨Nat.le_refl _⟩, ⟨R_later HO195.out⟩, ⟨below_later HB.out⟩⟩
  case round =>
    clear H'
    obtain ⟨x0_1, x3_1, rfl, HA, HK1, HO_3, HB⟩ := hrel
    cases gk with
    | zero => exact absurd HA.out (by simp [spec_UvarPut.l0])
    | succ k1 =>
      have H := HA.out
      clear HA
      simp only [spec_UvarPut.l0] at H
      replace H := bnd H
      obtain ⟨t196, A4, H⟩ := H
      by_cases c5 : t196 = 0
      · rw [if_pos c5] at H
        have c5b0 : (t196 == 0) = true := beq_iff_eq.mpr c5
        have c5b1 : (t196 != 0) = false := bne_eq_false_iff_eq.mpr c5
        clear c5
        replace H := ifs H
        obtain ⟨c6, H⟩ := H
        have LMc6 := Aside0.mk c6
        clear c6
        obtain ⟨y197, hy197⟩ : ∃ y_ : List Int, y_ = (x3_1 ++ [(x0_1) % 256]) := ⟨_, rfl⟩
        replace H : (some y197) = some r := by first | (rw [hy197]; with_reducible exact H) | (rw [hy197]; exact H) | exact H
        have Ny197 := Aside0.mk hy197
        clear hy197
        obtain rfl := Option.some.inj H
        go_wp2_with (first | ((with_reducible refine gate_callee (f := 111) rfl ?_); refine gl_ (some 6) Try.func111 #[.int .i64 x0_1, .int .i64 7] rfl ?_; (with_reducible refine (spec_l2Down.calls x0_1 7 t196 _ A4.out).mono ?_); rintro e w' ⟨rfl, ⟨nd, rfl⟩⟩; refine ⟨_, rfl, ?_⟩) | ((with_reducible refine gate_builtin (b := .append) (xs := #[.tmp 17, .tmp 20]) rfl ?_); at_builtin; refine Kd.R_append (Kd.int .u8) (w0 := w) w.heap.size rfl (.tmp 17) (.tmp 20) 41 5 (.int .u8 0) 1 rfl Try.underlying41 info5 rfl (by decide) (by omega) u3 x3_1 ((x0_1) % 256) [.int .u8 ((x0_1) % 256)] (fun _ => True) (fun _ => False) rfl rfl ?aP (fun _ hk => hk.elim) ?aF ?aO ?aB ?aS ?aL ?_; (case aP => exact rfl); (case aB => exact (below_later HB.out)); (case aF => exact (fun _ _ => trivial)); (case aO => exact (R_later HO_3.out)); (case aS => exact (below_size (below_later HB.out))); (case aL => have := LMc6.out; omega); intro v198 w7 ho hb hg hat; rw [← Ny197.out] at ho; have n0_ := Aside0.mk (hb); have n1_ := Aside0.mk (ho); clear HB; clear HO_3; have HB := n0_; have HO199 := n1_; clear n0_ n1_; clear ho hb hg hat))
        go_ret
        exact ⟨_, by first | rfl | (simp [errW_none, errW_some] <;> rfl) | (simp [*, errW_none, errW_some] <;> rfl), by (with_reducible repeat (first | apply Kd.R_alloc | apply Kd.R_drewN | apply Kd.R_drew)); exact HO199.out, below_later HB.out⟩
      · rw [if_neg c5] at H
        have c5b0 : (t196 == 0) = false := beq_eq_false_iff_ne.mpr c5
        have c5b1 : (t196 != 0) = true := bne_iff_ne.mpr c5
        replace H := ifs H
        obtain ⟨c8, H⟩ := H
        have LMc8 := Aside0.mk c8
        clear c8
        obtain ⟨y200, hy200⟩ : ∃ y_ : List Int, y_ = (x3_1 ++ [(wrap64 ((Go.bits .and .i64 x0_1 127) + 128)) % 256]) := ⟨_, rfl⟩
        replace H : ((spec_l2Down.f x0_1 7).bind fun t203 => (spec_UvarPut.l0 k1 t203 y200)) = some r := by first | (rw [hy200]; with_reducible exact H) | (rw [hy200]; exact H) | exact H
        have Ny200 := Aside0.mk hy200
        clear hy200
        replace H := bnd H
        obtain ⟨t203, A9, H⟩ := H
        have H' := Aside0.mk H
        clear H
        go_wp2_with (first | ((with_reducible refine gate_callee (f := 111) rfl ?_); refine gl_ (some 6) Try.func111 #[.int .i64 x0_1, .int .i64 7] rfl ?_; (with_reducible refine (spec_l2Down.calls x0_1 7 t196 _ A4.out).mono ?_); rintro e w' ⟨rfl, ⟨nd, rfl⟩⟩; refine ⟨_, rfl, ?_⟩) | ((with_reducible refine gate_builtin (b := .append) (xs := #[.tmp 8, .tmp 13]) rfl ?_); at_builtin; refine Kd.R_append (Kd.int .u8) (w0 := w) w.heap.size rfl (.tmp 8) (.tmp 13) 41 5 (.int .u8 0) 1 rfl Try.underlying41 info5 rfl (by decide) (by omega) u3 x3_1 ((wrap64 ((Go.bits .and .i64 x0_1 127) + 128)) % 256) [.int .u8 ((wrap64 ((Go.bits .and .i64 x0_1 127) + 128)) % 256)] (fun _ => True) (fun _ => False) rfl rfl ?aP (fun _ hk => hk.elim) ?aF ?aO ?aB ?aS ?aL ?_; (case aP => exact rfl); (case aB => exact (below_later HB.out)); (case aF => exact (fun _ _ => trivial)); (case aO => exact (R_later HO_3.out)); (case aS => exact (below_size (below_later HB.out))); (case aL => have := LMc8.out; omega); intro v201 w10 ho hb hg hat; rw [← Ny200.out] at ho; have n0_ := Aside0.mk (hb); have n1_ := Aside0.mk (ho); clear HB; clear HO_3; have HB := n0_; have HO202 := n1_; clear n0_ n1_; clear ho hb hg hat) | ((with_reducible refine gate_callee (f := 111) rfl ?_); refine gl_ (some 16) Try.func111 #[.int .i64 x0_1, .int .i64 7] rfl ?_; (with_reducible refine (spec_l2Down.calls x0_1 7 t203 _ A9.out).mono ?_); rintro e w' ⟨rfl, ⟨nd, rfl⟩⟩; refine ⟨_, rfl, ?_⟩))
        go_roundg k1
        case measure => have := HK1.out; omega
        case rel => exact ⟨(t203), (y200), sr, H', ⟨by have := HK1.out; omega⟩, ⟨R_later HO202.out⟩, ⟨below_later HB.out⟩⟩
/-! ### spec_Zig: function 110 -/
def spec_Zig.f (a0 : Int) : Option (Int) := if a0 < 0 then (some (Go.bits .xor .i64 (-1) (wrap64 (a0 * 2)))) else (some (wrap64 (a0 * 2)))
set_option maxHeartbeats 8000000 in
set_option maxRecDepth 100000 in
theorem spec_Zig.calls (a0 : Int) (r : Int) (w : World) (h : spec_Zig.f a0 = some r) :
    Calls Try.prog 110 #[.int .i64 a0] w fun e w' => e = .returned (.int .i64 r) ∧ Drawn0 w w' := by
  have H : (if a0 < 0 then (some (Go.bits .xor .i64 (-1) (wrap64 (a0 * 2)))) else (some (wrap64 (a0 * 2)))) = some r := h
  clear h
  by_cases c2 : a0 < 0
  · rw [if_pos c2] at H
    have c2b0 := decide_eq_true c2
    clear c2
    obtain rfl := Option.some.inj H
    go_enter Try.func110, Try.ntmps110
    go_wp2
    go_ret
    exact ⟨by first | rfl | (simp; done) | (simp [*]; done), by repeat (first | exact Drawn0.refl _ | apply Drawn0.step)⟩
  · rw [if_neg c2] at H
    have c2b0 := decide_eq_false c2
    clear c2
    obtain rfl := Option.some.inj H
    go_enter Try.func110, Try.ntmps110
    go_wp2
    go_ret
    exact ⟨by first | rfl | (simp; done) | (simp [*]; done), by repeat (first | exact Drawn0.refl _ | apply Drawn0.step)⟩

/-! ### spec_ZigPut: function 97 -/
def spec_ZigPut.f (k : Nat) (a0 : Int) : Option (List Int) := (spec_Zig.f a0).bind fun t204 => ((spec_UvarPut.f k t204).bind fun t205 => (some t205))
set_option maxHeartbeats 8000000 in
set_option maxRecDepth 100000 in
theorem spec_ZigPut.calls (k : Nat) (a0 : Int) (r : List Int) (w : World) (h : spec_ZigPut.f k a0 = some r) :
    Calls Try.prog 97 #[.int .i64 a0] w fun e w' => ∃ v0_ : Value, e = .returned (v0_) ∧ Kd.R (Kd.int .u8) 5 w' w.heap.size (fun _ => True) v0_ r ∧ Below w.heap.size w w' := by
  have HB := Aside0.mk (Below.refl w.heap.size w)
  have H : ((spec_Zig.f a0).bind fun t204 => ((spec_UvarPut.f k t204).bind fun t205 => (some t205))) = some r := h
  clear h
  replace H := bnd H
  obtain ⟨t204, A2, H⟩ := H
  replace H := bnd H
  obtain ⟨t205, A3, H⟩ := H
  obtain rfl := Option.some.inj H
  go_enter Try.func97, Try.ntmps97
  go_wp2_with (first | ((with_reducible refine gate_callee (f := 110) rfl ?_); refine gl_ (some 4) Try.func110 #[.int .i64 a0] rfl ?_; (with_reducible refine (spec_Zig.calls a0 t204 _ A2.out).mono ?_); rintro e w' ⟨rfl, ⟨nd, rfl⟩⟩; refine ⟨_, rfl, ?_⟩) | ((with_reducible refine gate_callee (f := 98) rfl ?_); refine gl_ (some 5) Try.func98 #[.int .i64 t204] rfl ?_; (with_reducible refine (spec_UvarPut.calls k t204 t205 _ A3.out).mono ?_); rintro e w4 ⟨v206, rfl, ho0, hb⟩; refine ⟨_, rfl, ?_⟩; have HO207 := Aside0.mk (Kd.R_lower ho0 (below_size (below_later HB.out))); replace HB := bst HB hb; (try clear hb); (try clear ho0)))
  go_ret
  exact ⟨_, by first | rfl | (simp [errW_none, errW_some] <;> rfl) | (simp [*, errW_none, errW_some] <;> rfl), by (with_reducible repeat (first | apply Kd.R_alloc | apply Kd.R_drewN | apply Kd.R_drew)); exact HO207.out, below_later HB.out⟩

end Go.Proofs.Ytgiljoeekpfpmaa.PFnExactDictPack
