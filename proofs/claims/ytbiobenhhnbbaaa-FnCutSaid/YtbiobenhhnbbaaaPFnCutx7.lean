/- The machine's side of FnCut, written by wip/tools/hyb.py of this repo: each Go function as a plain Lean function, and the proof that the call comes to just its answer. No condition. -/
import Derived.Test.YtbiobenhhnbbaaaPFnCutx0
import Derived.Test.YtbiobenhhnbbaaaPFnCutx2
import Derived.Test.YtbiobenhhnbbaaaPFnCutx6
namespace Go.Proofs.Ytbiobenhhnbbaaa.PFnCut
open Go.RowKit Go.Proofs.YtbiobenhhnbbaaaW.PrintWords Go.Proofs.YtbiobenhhnbbaaaW.PrintLast Go.Proofs.YtbiobenhhnbbaaaW.PrintMore Go.Proofs.YtbiobenhhnbbaaaW.PrintMore2
attribute [local go_sem] max2_int min2_int max_two min_two max_three min_three max_four min_four   -- for this text's walks alone
set_option linter.unusedVariables false
set_option linter.unusedSimpArgs false

/-! ### spec_l5Max: function 27 -/
def spec_l5Max.l0 : Nat → List (S61) → Int → Int → List Int → Int → Option (Int × Int)
  | 0, _, _, _, _, _ => none
  | k + 1, x0, x6, x7, x8, x9 => if x9 < (x8.length : Int) then (if 0 ≤ x9 then (if 0 ≤ (rd x8 x9) then (if (rd x8 x9) < (x0.length : Int) then (if ((rd_T61 x0 (rd x8 x9)).f2) = 0 then (if ((rd_T61 x0 (rd x8 x9)).f2) = 2 then (spec_l5Max.l0 k x0 x6 (wrap64 (x7 + 1)) x8 (wrap64 (x9 + 1))) else (spec_l5Max.l0 k x0 x6 x7 x8 (wrap64 (x9 + 1)))) else (if ((rd_T61 x0 (rd x8 x9)).f2) = 2 then (spec_l5Max.l0 k x0 (wrap64 (x6 + 1)) (wrap64 (x7 + 1)) x8 (wrap64 (x9 + 1))) else (spec_l5Max.l0 k x0 (wrap64 (x6 + 1)) x7 x8 (wrap64 (x9 + 1))))) else (none)) else (none)) else (none)) else (some (x6, x7))
def spec_l5Max.f (k : Nat) (l0 : List (S61)) (a1 : Int) : Option (Int × Int) := (spec_l5Way.f k l0 a1).bind fun t428 => (spec_l5Max.l0 k l0 0 0 t428 0)
set_option maxHeartbeats 8000000 in
set_option maxRecDepth 100000 in
theorem spec_l5Max.calls (k : Nat) (A0 : Option Addr) (c0 : Nat) (l0 : List (S61)) (a1 : Int) (r1 : Int) (r2 : Int) (w : World) (hr0 : Kd.C k61 w A0 l0.length l0) (hc0 : l0.length ≤ c0) (h : spec_l5Max.f k l0 a1 = some (r1, r2)) :
    Calls Try.prog 27 #[.slice A0 l0.length c0, .int .i64 a1] w fun e w' => e = .returned (.tuple #[.int .i64 r1, .int .i64 r2]) ∧ Below w.heap.size w w' := by
  have HR0 := Aside0.mk hr0
  have HC0 := Aside0.mk hc0
  clear hr0 hc0
  have HB := Aside0.mk (Below.refl w.heap.size w)
  have H : ((spec_l5Way.f k l0 a1).bind fun t428 => (spec_l5Max.l0 k l0 0 0 t428 0)) = some (r1, r2) := h
  clear h
  replace H := bnd H
  obtain ⟨t428, A3, H⟩ := H
  have H' := Aside0.mk H
  clear H
  go_enter Try.func27, Try.ntmps27
  go_wp2_with (first | ((with_reducible refine gate_callee (f := 36) rfl ?_); refine gl_ (some 12) Try.func36 #[.slice A0 l0.length c0, .int .i64 a1] rfl ?_; (with_reducible refine (spec_l5Way.calls k _ _ l0 a1 t428 _ ?side1 ?side2 A3.out).mono ?_); (case side1 => exact C_later HR0.out); (case side2 => exact HC0.out); rintro e w4 ⟨v429, rfl, ho0, hb⟩; refine ⟨_, rfl, ?_⟩; have HO430 := Aside0.mk (Kd.R_lower ho0 (below_size (below_later HB.out))); replace HB := bst HB hb; (try clear hb); (try clear ho0)))
  go_loopg [6, 7, 9] k (fun kq v6 v7 v9 w' => ∃ (x6_1 : Int) (x7_1 : Int) (x9_1 : Int), v6 = .int .i64 x6_1 ∧ v7 = .int .i64 x7_1 ∧ v9 = .int .i64 x9_1 ∧ Aside0 (spec_l5Max.l0 kq l0 x6_1 x7_1 t428 x9_1 = some (r1, r2)) ∧ Aside0 (kq ≤ k) ∧ Aside0 (Kd.R (Kd.int .i64) 3 w' w.heap.size (fun _ => True) v429 t428) ∧ Aside0 (Below w.heap.size w w'))
  case atStart => exact ⟨(0), (0), (0), sr, sr, sr, H', ⟨Nat.le_refl _⟩, ⟨R_later HO430.out⟩, ⟨below_later HB.out⟩⟩
  case round =>
    clear H'
    obtain ⟨x6_1, x7_1, x9_1, rfl, rfl, rfl, HA, HK1, HO_8, HB⟩ := hrel
    cases gk with
    | zero => exact absurd HA.out (by simp [spec_l5Max.l0])
    | succ k1 =>
      have H := HA.out
      clear HA
      simp only [spec_l5Max.l0] at H
      by_cases c5 : x9_1 < (t428.length : Int)
      · rw [if_pos c5] at H
        have c5b0 := decide_eq_true c5
        clear c5
        replace H := ifd H
        obtain ⟨c6b0, H⟩ := H
        replace H := ifd H
        obtain ⟨c7b0, H⟩ := H
        replace H := ifd H
        obtain ⟨c8b0, H⟩ := H
        by_cases c9 : ((rd_T61 l0 (rd t428 x9_1)).f2) = 0
        · rw [if_pos c9] at H
          have c9b0 : (((rd_T61 l0 (rd t428 x9_1)).f2) == 0) = true := beq_iff_eq.mpr c9
          have c9b1 : (((rd_T61 l0 (rd t428 x9_1)).f2) != 0) = false := bne_eq_false_iff_eq.mpr c9
          clear c9
          by_cases c10 : ((rd_T61 l0 (rd t428 x9_1)).f2) = 2
          · rw [if_pos c10] at H
            have c10b0 : (((rd_T61 l0 (rd t428 x9_1)).f2) == 2) = true := beq_iff_eq.mpr c10
            have c10b1 : (((rd_T61 l0 (rd t428 x9_1)).f2) != 2) = false := bne_eq_false_iff_eq.mpr c10
            clear c10
            have H' := Aside0.mk H
            clear H
            obtain ⟨Ao11, co11, eo11⟩ := Kd.R_slice HO_8.out
            subst eo11
            have p431 : 0 ≤ (x9_1 : Int) := dcd
            have q431 : x9_1 < (t428.length : Int) := dcd
            obtain ⟨ad431, e431, hx431_0⟩ := Kd.at_int (Kd.R_reads' HO_8.out).2.2 x9_1 p431 q431
            cases e431
            replace p431 := eq_true p431
            replace q431 := eq_true q431
            have p432 : 0 ≤ ((rd t428 x9_1) : Int) := dcd
            have q432 : (rd t428 x9_1) < (l0.length : Int) := dcd
            obtain ⟨ad432, e432, hx432_0, hx432_1, hx432_2, hx432_3⟩ := at_T61 HR0.out (rd t428 x9_1) p432 q432
            cases e432
            replace hx432_0 := crd HB hx432_0
            replace hx432_1 := crd HB hx432_1
            replace hx432_2 := crd HB hx432_2
            replace hx432_3 := crd HB hx432_3
            replace p432 := eq_true p432
            replace q432 := eq_true q432
            have p433 : 0 ≤ (x9_1 : Int) := dcd
            have q433 : x9_1 < (t428.length : Int) := dcd
            obtain ⟨ad433, e433, hx433_0⟩ := Kd.at_int (Kd.R_reads' HO_8.out).2.2 x9_1 p433 q433
            obtain rfl : ad431 = ad433 := (by injection e433)
            replace p433 := eq_true p433
            replace q433 := eq_true q433
            have p434 : 0 ≤ ((rd t428 x9_1) : Int) := dcd
            have q434 : (rd t428 x9_1) < (l0.length : Int) := dcd
            obtain ⟨ad434, e434, hx434_0, hx434_1, hx434_2, hx434_3⟩ := at_T61 HR0.out (rd t428 x9_1) p434 q434
            obtain rfl : ad432 = ad434 := (by injection e434)
            replace hx434_0 := crd HB hx434_0
            replace hx434_1 := crd HB hx434_1
            replace hx434_2 := crd HB hx434_2
            replace hx434_3 := crd HB hx434_3
            replace p434 := eq_true p434
            replace q434 := eq_true q434
            go_wp2
            go_roundg k1
            case measure => have := HK1.out; omega
            case rel => exact ⟨(x6_1), (wrap64 (x7_1 + 1)), (wrap64 (x9_1 + 1)), sr, sr, sr, H', ⟨by have := HK1.out; omega⟩, ⟨R_later HO_8.out⟩, ⟨below_later HB.out⟩⟩
          · rw [if_neg c10] at H
            have c10b0 : (((rd_T61 l0 (rd t428 x9_1)).f2) == 2) = false := beq_eq_false_iff_ne.mpr c10
            have c10b1 : (((rd_T61 l0 (rd t428 x9_1)).f2) != 2) = true := bne_iff_ne.mpr c10
            have H' := Aside0.mk H
            clear H
            obtain ⟨Ao12, co12, eo12⟩ := Kd.R_slice HO_8.out
            subst eo12
            have p431 : 0 ≤ (x9_1 : Int) := dcd
            have q431 : x9_1 < (t428.length : Int) := dcd
            obtain ⟨ad431, e431, hx431_0⟩ := Kd.at_int (Kd.R_reads' HO_8.out).2.2 x9_1 p431 q431
            cases e431
            replace p431 := eq_true p431
            replace q431 := eq_true q431
            have p432 : 0 ≤ ((rd t428 x9_1) : Int) := dcd
            have q432 : (rd t428 x9_1) < (l0.length : Int) := dcd
            obtain ⟨ad432, e432, hx432_0, hx432_1, hx432_2, hx432_3⟩ := at_T61 HR0.out (rd t428 x9_1) p432 q432
            cases e432
            replace hx432_0 := crd HB hx432_0
            replace hx432_1 := crd HB hx432_1
            replace hx432_2 := crd HB hx432_2
            replace hx432_3 := crd HB hx432_3
            replace p432 := eq_true p432
            replace q432 := eq_true q432
            have p433 : 0 ≤ (x9_1 : Int) := dcd
            have q433 : x9_1 < (t428.length : Int) := dcd
            obtain ⟨ad433, e433, hx433_0⟩ := Kd.at_int (Kd.R_reads' HO_8.out).2.2 x9_1 p433 q433
            obtain rfl : ad431 = ad433 := (by injection e433)
            replace p433 := eq_true p433
            replace q433 := eq_true q433
            have p434 : 0 ≤ ((rd t428 x9_1) : Int) := dcd
            have q434 : (rd t428 x9_1) < (l0.length : Int) := dcd
            obtain ⟨ad434, e434, hx434_0, hx434_1, hx434_2, hx434_3⟩ := at_T61 HR0.out (rd t428 x9_1) p434 q434
            obtain rfl : ad432 = ad434 := (by injection e434)
            replace hx434_0 := crd HB hx434_0
            replace hx434_1 := crd HB hx434_1
            replace hx434_2 := crd HB hx434_2
            replace hx434_3 := crd HB hx434_3
            replace p434 := eq_true p434
            replace q434 := eq_true q434
            go_wp2
            go_roundg k1
            case measure => have := HK1.out; omega
            case rel => exact ⟨(x6_1), (x7_1), (wrap64 (x9_1 + 1)), sr, sr, sr, H', ⟨by have := HK1.out; omega⟩, ⟨R_later HO_8.out⟩, ⟨below_later HB.out⟩⟩
        · rw [if_neg c9] at H
          have c9b0 : (((rd_T61 l0 (rd t428 x9_1)).f2) == 0) = false := beq_eq_false_iff_ne.mpr c9
          have c9b1 : (((rd_T61 l0 (rd t428 x9_1)).f2) != 0) = true := bne_iff_ne.mpr c9
          by_cases c13 : ((rd_T61 l0 (rd t428 x9_1)).f2) = 2
          · rw [if_pos c13] at H
            have c13b0 : (((rd_T61 l0 (rd t428 x9_1)).f2) == 2) = true := beq_iff_eq.mpr c13
            have c13b1 : (((rd_T61 l0 (rd t428 x9_1)).f2) != 2) = false := bne_eq_false_iff_eq.mpr c13
            clear c13
            have H' := Aside0.mk H
            clear H
            obtain ⟨Ao14, co14, eo14⟩ := Kd.R_slice HO_8.out
            subst eo14
            have p431 : 0 ≤ (x9_1 : Int) := dcd
            have q431 : x9_1 < (t428.length : Int) := dcd
            obtain ⟨ad431, e431, hx431_0⟩ := Kd.at_int (Kd.R_reads' HO_8.out).2.2 x9_1 p431 q431
            cases e431
            replace p431 := eq_true p431
            replace q431 := eq_true q431
            have p432 : 0 ≤ ((rd t428 x9_1) : Int) := dcd
            have q432 : (rd t428 x9_1) < (l0.length : Int) := dcd
            obtain ⟨ad432, e432, hx432_0, hx432_1, hx432_2, hx432_3⟩ := at_T61 HR0.out (rd t428 x9_1) p432 q432
            cases e432
            replace hx432_0 := crd HB hx432_0
            replace hx432_1 := crd HB hx432_1
            replace hx432_2 := crd HB hx432_2
            replace hx432_3 := crd HB hx432_3
            replace p432 := eq_true p432
            replace q432 := eq_true q432
            have p435 : 0 ≤ (x9_1 : Int) := dcd
            have q435 : x9_1 < (t428.length : Int) := dcd
            obtain ⟨ad435, e435, hx435_0⟩ := Kd.at_int (Kd.R_reads' HO_8.out).2.2 x9_1 p435 q435
            obtain rfl : ad431 = ad435 := (by injection e435)
            replace p435 := eq_true p435
            replace q435 := eq_true q435
            have p436 : 0 ≤ ((rd t428 x9_1) : Int) := dcd
            have q436 : (rd t428 x9_1) < (l0.length : Int) := dcd
            obtain ⟨ad436, e436, hx436_0, hx436_1, hx436_2, hx436_3⟩ := at_T61 HR0.out (rd t428 x9_1) p436 q436
            obtain rfl : ad432 = ad436 := (by injection e436)
            replace hx436_0 := crd HB hx436_0
            replace hx436_1 := crd HB hx436_1
            replace hx436_2 := crd HB hx436_2
            replace hx436_3 := crd HB hx436_3
            replace p436 := eq_true p436
            replace q436 := eq_true q436
            go_wp2
            go_roundg k1
            case measure => have := HK1.out; omega
            case rel => exact ⟨(wrap64 (x6_1 + 1)), (wrap64 (x7_1 + 1)), (wrap64 (x9_1 + 1)), sr, sr, sr, H', ⟨by have := HK1.out; omega⟩, ⟨R_later HO_8.out⟩, ⟨below_later HB.out⟩⟩
          · rw [if_neg c13] at H
            have c13b0 : (((rd_T61 l0 (rd t428 x9_1)).f2) == 2) = false := beq_eq_false_iff_ne.mpr c13
            have c13b1 : (((rd_T61 l0 (rd t428 x9_1)).f2) != 2) = true := bne_iff_ne.mpr c13
            have H' := Aside0.mk H
            clear H
            obtain ⟨Ao15, co15, eo15⟩ := Kd.R_slice HO_8.out
            subst eo15
            have p431 : 0 ≤ (x9_1 : Int) := dcd
            have q431 : x9_1 < (t428.length : Int) := dcd
            obtain ⟨ad431, e431, hx431_0⟩ := Kd.at_int (Kd.R_reads' HO_8.out).2.2 x9_1 p431 q431
            cases e431
            replace p431 := eq_true p431
            replace q431 := eq_true q431
            have p432 : 0 ≤ ((rd t428 x9_1) : Int) := dcd
            have q432 : (rd t428 x9_1) < (l0.length : Int) := dcd
            obtain ⟨ad432, e432, hx432_0, hx432_1, hx432_2, hx432_3⟩ := at_T61 HR0.out (rd t428 x9_1) p432 q432
            cases e432
            replace hx432_0 := crd HB hx432_0
            replace hx432_1 := crd HB hx432_1
            replace hx432_2 := crd HB hx432_2
            replace hx432_3 := crd HB hx432_3
            replace p432 := eq_true p432
            replace q432 := eq_true q432
            have p435 : 0 ≤ (x9_1 : Int) := dcd
            have q435 : x9_1 < (t428.length : Int) := dcd
            obtain ⟨ad435, e435, hx435_0⟩ := Kd.at_int (Kd.R_reads' HO_8.out).2.2 x9_1 p435 q435
            obtain rfl : ad431 = ad435 := (by injection e435)
            replace p435 := eq_true p435
            replace q435 := eq_true q435
            have p436 : 0 ≤ ((rd t428 x9_1) : Int) := dcd
            have q436 : (rd t428 x9_1) < (l0.length : Int) := dcd
            obtain ⟨ad436, e436, hx436_0, hx436_1, hx436_2, hx436_3⟩ := at_T61 HR0.out (rd t428 x9_1) p436 q436
            obtain rfl : ad432 = ad436 := (by injection e436)
            replace hx436_0 := crd HB hx436_0
            replace hx436_1 := crd HB hx436_1
            replace hx436_2 := crd HB hx436_2
            replace hx436_3 := crd HB hx436_3
            replace p436 := eq_true p436
            replace q436 := eq_true q436
            go_wp2
            go_roundg k1
            case measure => have := HK1.out; omega
            case rel => exact ⟨(wrap64 (x6_1 + 1)), (x7_1), (wrap64 (x9_1 + 1)), sr, sr, sr, H', ⟨by have := HK1.out; omega⟩, ⟨R_later HO_8.out⟩, ⟨below_later HB.out⟩⟩
      · rw [if_neg c5] at H
        have c5b0 := decide_eq_false c5
        clear c5
        simp only [Option.some.injEq, Prod.mk.injEq] at H
        obtain ⟨rfl, rfl⟩ := H
        obtain ⟨Ao16, co16, eo16⟩ := Kd.R_slice HO_8.out
        subst eo16
        go_wp2
        go_ret2
        exact fin_ (below_later HB.out)

/-! ### spec_LeafOf: function 18 -/
def spec_LeafOf.f (k : Nat) (l0 : List (S61)) (a1 : Int) : Option (Int × Int × Int × Bool) := (spec_SchemaLeaves.f k l0).bind fun t438 => ((spec_l1In.f a1 0 (wrap64 ((t438.length : Int) - 1))).bind fun t441 => (if t441 = true then (if 0 ≤ a1 then (if a1 < (t438.length : Int) then ((spec_l5Max.f k l0 (rd t438 a1)).bind fun bt443 => (if 0 ≤ (rd t438 a1) then (if (rd t438 a1) < (l0.length : Int) then (some ((rd_T61 l0 (rd t438 a1)).f1, bt443.2, bt443.1, true)) else (none)) else (none))) else (none)) else (none)) else (some (0, 0, 0, false))))
set_option maxHeartbeats 8000000 in
set_option maxRecDepth 100000 in
theorem spec_LeafOf.calls (k : Nat) (A0 : Option Addr) (c0 : Nat) (l0 : List (S61)) (a1 : Int) (r1 : Int) (r2 : Int) (r3 : Int) (r4 : Bool) (w : World) (hr0 : Kd.C k61 w A0 l0.length l0) (hc0 : l0.length ≤ c0) (h : spec_LeafOf.f k l0 a1 = some (r1, r2, r3, r4)) :
    Calls Try.prog 18 #[.slice A0 l0.length c0, .int .i64 a1] w fun e w' => e = .returned (.tuple #[.agg #[.int .i64 r1, .int .i64 r2, .int .i64 r3], .bool r4]) ∧ Below w.heap.size w w' := by
  have hu40 := Try.underlying40
  have HR0 := Aside0.mk hr0
  have HC0 := Aside0.mk hc0
  clear hr0 hc0
  have HB := Aside0.mk (Below.refl w.heap.size w)
  have H : ((spec_SchemaLeaves.f k l0).bind fun t438 => ((spec_l1In.f a1 0 (wrap64 ((t438.length : Int) - 1))).bind fun t441 => (if t441 = true then (if 0 ≤ a1 then (if a1 < (t438.length : Int) then ((spec_l5Max.f k l0 (rd t438 a1)).bind fun bt443 => (if 0 ≤ (rd t438 a1) then (if (rd t438 a1) < (l0.length : Int) then (some ((rd_T61 l0 (rd t438 a1)).f1, bt443.2, bt443.1, true)) else (none)) else (none))) else (none)) else (none)) else (some (0, 0, 0, false))))) = some (r1, r2, r3, r4) := h
  clear h
  replace H := bnd H
  obtain ⟨t438, A3, H⟩ := H
  replace H := bnd H
  obtain ⟨t441, A4, H⟩ := H
  by_cases c5 : t441 = true
  · subst c5
    replace H := ifp rfl H
    replace H := ifd H
    obtain ⟨c6b0, H⟩ := H
    replace H := ifd H
    obtain ⟨c7b0, H⟩ := H
    replace H := Option.bind_eq_some_iff.mp H
    obtain ⟨⟨t443, t444⟩, A80, H⟩ := H
    replace H : (if 0 ≤ (rd t438 a1) then (if (rd t438 a1) < (l0.length : Int) then (some ((rd_T61 l0 (rd t438 a1)).f1, t444, t443, true)) else (none)) else (none)) = some (r1, r2, r3, r4) := H
    have A8 := Aside0.mk A80
    clear A80
    replace H := ifd H
    obtain ⟨c9b0, H⟩ := H
    replace H := ifd H
    obtain ⟨c10b0, H⟩ := H
    simp only [Option.some.injEq, Prod.mk.injEq] at H
    obtain ⟨rfl, rfl, rfl, rfl⟩ := H
    go_enter Try.func18, Try.ntmps18
    go_wp2_with (first | ((with_reducible refine gate_dst (N := 4) rfl ?_); refine bx_ 4 #[.int .i64 0, .int .i64 0, .int .i64 0] 40 ?_; intro gb437 hg w11 hbox hb; have BK437 := Aside0.mk (hbox); have GW437 := gwe HB hg; have GE437 := GW437; replace HB := bst HB hb; clear hb hbox hg) | ((with_reducible refine gate_callee (f := 26) rfl ?_); refine gl_ (some 10) Try.func26 #[.slice A0 l0.length c0] rfl ?_; (with_reducible refine (spec_SchemaLeaves.calls k _ _ l0 t438 _ ?side1 ?side2 A3.out).mono ?_); (case side1 => repeat (first | exact (Kd.C_below HR0.out HB.out) | (with_reducible refine Kd.C_alloc ?_ _) | (with_reducible refine Kd.C_drewN ?_ _) | (with_reducible refine Kd.C_drew ?_))); (case side2 => exact HC0.out); rintro e w12 ⟨v439, rfl, ho0, hb⟩; refine ⟨_, rfl, ?_⟩; have HO440 := Aside0.mk (Kd.R_lower ho0 (below_size (below_later HB.out))); replace BK437 := bkb BK437 hb; replace HB := bst HB hb; (try clear hb); (try clear ho0); obtain ⟨Ao13, co13, eo13⟩ := Kd.R_slice HO440.out; subst eo13) | ((with_reducible refine gate_callee (f := 14) rfl ?_); refine gl_ (some 15) Try.func14 #[.int .i64 a1, .int .i64 0, .int .i64 (wrap64 ((t438.length : Int) - 1))] rfl ?_; (with_reducible refine (spec_l1In.calls a1 0 (wrap64 ((t438.length : Int) - 1)) true _ A4.out).mono ?_); rintro e w' ⟨rfl, ⟨nd, rfl⟩⟩; refine ⟨_, rfl, ?_⟩; (try (rw [drewN_self w12]; generalize hq_ : World.drewN w12 _ = w12; have n0_ : Aside0 (Kd.R (Kd.int .i64) 3 w12 w.heap.size (fun _ => True) (.slice Ao13 t438.length co13) t438) := ⟨by rw [← hq_]; exact (R_later HO440.out)⟩; have n1_ : Aside0 (w12.heap[gb437]? = some (.cells #[.int .i64 0, .int .i64 0, .int .i64 0] 40 (0, 0))) := ⟨by rw [← hq_]; exact (blk_later BK437.out)⟩; have n2_ : Aside0 (Below w.heap.size w w12) := ⟨by rw [← hq_]; exact (below_later HB.out)⟩; clear HO440 BK437 HB hq_; have HO440 := n0_; have BK437 := n1_; have HB := n2_; clear n0_ n1_ n2_)); have p442 : 0 ≤ (a1 : Int) := dcd; have q442 : a1 < (t438.length : Int) := dcd; obtain ⟨ad442, e442, hx442_0⟩ := Kd.at_int (Kd.R_reads' HO440.out).2.2 a1 p442 q442; cases e442; replace p442 := eq_true p442; replace q442 := eq_true q442) | ((with_reducible refine gate_callee (f := 27) rfl ?_); refine gl_ (some 24) Try.func27 #[.slice A0 l0.length c0, .int .i64 (rd t438 a1)] rfl ?_; (with_reducible refine (spec_l5Max.calls k _ _ l0 (rd t438 a1) t443 t444 _ ?side1 ?side2 A8.out).mono ?_); (case side1 => repeat (first | exact (Kd.C_below HR0.out HB.out) | (with_reducible refine Kd.C_alloc ?_ _) | (with_reducible refine Kd.C_drewN ?_ _) | (with_reducible refine Kd.C_drew ?_))); (case side2 => exact HC0.out); rintro e w14 ⟨rfl, hb⟩; refine ⟨_, rfl, ?_⟩; replace HO440 := Aside0.mk (Kd.R_below (R_later HO440.out) hb); replace BK437 := bkb BK437 hb; replace HB := bst HB hb; (try clear hb); have p445 : 0 ≤ (a1 : Int) := dcd; have q445 : a1 < (t438.length : Int) := dcd; obtain ⟨ad445, e445, hx445_0⟩ := Kd.at_int (Kd.R_reads' HO440.out).2.2 a1 p445 q445; obtain rfl : ad442 = ad445 := (by injection e445); replace p445 := eq_true p445; replace q445 := eq_true q445; have p446 : 0 ≤ ((rd t438 a1) : Int) := dcd; have q446 : (rd t438 a1) < (l0.length : Int) := dcd; obtain ⟨ad446, e446, hx446_0, hx446_1, hx446_2, hx446_3⟩ := at_T61 HR0.out (rd t438 a1) p446 q446; cases e446; replace hx446_0 := crd HB hx446_0; replace hx446_1 := crd HB hx446_1; replace hx446_2 := crd HB hx446_2; replace hx446_3 := crd HB hx446_3; replace p446 := eq_true p446; replace q446 := eq_true q446; obtain ⟨hcz15_0, hcz15_1, hcz15_2, hfz15_0, hfz15_1, hfz15_2⟩ := cl3 BK437))
    refine bodyPost_ret (results_ct rfl _ _ gb437 40 #[.int .i64 ((rd_T61 l0 (rd t438 a1)).f1), .int .i64 t444, .int .i64 t443] (0, 0) _ rfl (by (with_reducible repeat (first | refine blk_drewN ?_ _ | refine blk_drew ?_ | refine blk_alloc ?_ _)); refine blk_put (cs := #[.int .i64 ((rd_T61 l0 (rd t438 a1)).f1), .int .i64 t444, .int .i64 0]) ?_ 2 _ rfl; (with_reducible repeat (first | refine blk_drewN ?_ _ | refine blk_drew ?_ | refine blk_alloc ?_ _)); refine blk_put (cs := #[.int .i64 ((rd_T61 l0 (rd t438 a1)).f1), .int .i64 0, .int .i64 0]) ?_ 1 _ rfl; (with_reducible repeat (first | refine blk_drewN ?_ _ | refine blk_drew ?_ | refine blk_alloc ?_ _)); refine blk_put (cs := #[.int .i64 0, .int .i64 0, .int .i64 0]) ?_ 0 _ rfl; (with_reducible repeat (first | refine blk_drewN ?_ _ | refine blk_drew ?_ | refine blk_alloc ?_ _)); exact BK437.out) Try.underlying40 rfl (by kernel_rfl)) rfl ?_
    exact fin_ (below_later HB.out)
  · replace c5 := Bool.eq_false_iff.mpr c5
    subst c5
    replace H := ifn Bool.false_ne_true H
    simp only [Option.some.injEq, Prod.mk.injEq] at H
    obtain ⟨rfl, rfl, rfl, rfl⟩ := H
    go_enter Try.func18, Try.ntmps18
    go_wp2_with (first | ((with_reducible refine gate_dst (N := 4) rfl ?_); refine bx_ 4 #[.int .i64 0, .int .i64 0, .int .i64 0] 40 ?_; intro gb437 hg w16 hbox hb; have BK437 := Aside0.mk (hbox); have GW437 := gwe HB hg; have GE437 := GW437; replace HB := bst HB hb; clear hb hbox hg) | ((with_reducible refine gate_callee (f := 26) rfl ?_); refine gl_ (some 10) Try.func26 #[.slice A0 l0.length c0] rfl ?_; (with_reducible refine (spec_SchemaLeaves.calls k _ _ l0 t438 _ ?side1 ?side2 A3.out).mono ?_); (case side1 => repeat (first | exact (Kd.C_below HR0.out HB.out) | (with_reducible refine Kd.C_alloc ?_ _) | (with_reducible refine Kd.C_drewN ?_ _) | (with_reducible refine Kd.C_drew ?_))); (case side2 => exact HC0.out); rintro e w17 ⟨v439, rfl, ho0, hb⟩; refine ⟨_, rfl, ?_⟩; have HO440 := Aside0.mk (Kd.R_lower ho0 (below_size (below_later HB.out))); replace BK437 := bkb BK437 hb; replace HB := bst HB hb; (try clear hb); (try clear ho0); obtain ⟨Ao18, co18, eo18⟩ := Kd.R_slice HO440.out; subst eo18) | ((with_reducible refine gate_callee (f := 14) rfl ?_); refine gl_ (some 15) Try.func14 #[.int .i64 a1, .int .i64 0, .int .i64 (wrap64 ((t438.length : Int) - 1))] rfl ?_; (with_reducible refine (spec_l1In.calls a1 0 (wrap64 ((t438.length : Int) - 1)) false _ A4.out).mono ?_); rintro e w' ⟨rfl, ⟨nd, rfl⟩⟩; refine ⟨_, rfl, ?_⟩; (try (rw [drewN_self w17]; generalize hq_ : World.drewN w17 _ = w17; have n0_ : Aside0 (Kd.R (Kd.int .i64) 3 w17 w.heap.size (fun _ => True) (.slice Ao18 t438.length co18) t438) := ⟨by rw [← hq_]; exact (R_later HO440.out)⟩; have n1_ : Aside0 (w17.heap[gb437]? = some (.cells #[.int .i64 0, .int .i64 0, .int .i64 0] 40 (0, 0))) := ⟨by rw [← hq_]; exact (blk_later BK437.out)⟩; have n2_ : Aside0 (Below w.heap.size w w17) := ⟨by rw [← hq_]; exact (below_later HB.out)⟩; clear HO440 BK437 HB hq_; have HO440 := n0_; have BK437 := n1_; have HB := n2_; clear n0_ n1_ n2_)); obtain ⟨hcz19_0, hcz19_1, hcz19_2, hfz19_0, hfz19_1, hfz19_2⟩ := cl3 BK437))
    refine bodyPost_ret (results_ct rfl _ _ gb437 40 #[.int .i64 0, .int .i64 0, .int .i64 0] (0, 0) _ rfl (by (with_reducible repeat (first | refine blk_drewN ?_ _ | refine blk_drew ?_ | refine blk_alloc ?_ _)); refine blk_put (cs := #[.int .i64 0, .int .i64 0, .int .i64 0]) ?_ 2 _ rfl; (with_reducible repeat (first | refine blk_drewN ?_ _ | refine blk_drew ?_ | refine blk_alloc ?_ _)); refine blk_put (cs := #[.int .i64 0, .int .i64 0, .int .i64 0]) ?_ 1 _ rfl; (with_reducible repeat (first | refine blk_drewN ?_ _ | refine blk_drew ?_ | refine blk_alloc ?_ _)); refine blk_put (cs := #[.int .i64 0, .int .i64 0, .int .i64 0]) ?_ 0 _ rfl; (with_reducible repeat (first | refine blk_drewN ?_ _ | refine blk_drew ?_ | refine blk_alloc ?_ _)); exact BK437.out) Try.underlying40 rfl (by kernel_rfl)) rfl ?_
    exact fin_ (below_later HB.out)

-- NOT PRINTED: function 11 (spec_l15Draw)

end Go.Proofs.Ytbiobenhhnbbaaa.PFnCut
