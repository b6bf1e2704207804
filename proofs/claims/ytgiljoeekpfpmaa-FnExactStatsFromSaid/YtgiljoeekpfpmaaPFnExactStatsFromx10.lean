/- The machine's side of FnExactStatsFrom, written by wip/tools/hyb.py of this repo: each Go function as a plain Lean function, and the proof that the call comes to just its answer. No condition. -/
import Derived.Test.YtgiljoeekpfpmaaPFnExactStatsFromx0
import Derived.Test.YtgiljoeekpfpmaaPFnExactStatsFromx8
import Derived.Test.YtgiljoeekpfpmaaPFnExactStatsFromx9
namespace Go.Proofs.Ytgiljoeekpfpmaa.PFnExactStatsFrom
open Go.RowKit Go.Proofs.YtgiljoeekpfpmaaW.PrintWords Go.Proofs.YtgiljoeekpfpmaaW.PrintLast Go.Proofs.YtgiljoeekpfpmaaW.PrintMore Go.Proofs.YtgiljoeekpfpmaaW.PrintMore2
attribute [local go_sem] max2_int min2_int max_two min_two max_three min_three max_four min_four   -- for this text's walks alone
set_option linter.unusedVariables false
set_option linter.unusedSimpArgs false

/-! ### impl_tree_find: function 52 -/
mutual
def impl_tree_find.j0 : Nat → Int → Int → Bool → List (S57) → List Int → Option (Int)
  | 0, _, _, _, _, _ => none
  | k + 1, x1, x2, x27, x1000, x1001 => if x27 = true then (some (-1)) else (if 0 ≤ x1 then (if x1 < (x1000.length : Int) then (impl_tree_find.l0 k x2 (wrap64 (x1 + 1)) ((rd_T57 x1000 x1).f4) 0 x1000 x1001) else (none)) else (none))
def impl_tree_find.l0 : Nat → Int → Int → Int → Int → List (S57) → List Int → Option (Int)
  | 0, _, _, _, _, _, _ => none
  | k + 1, x2, x7, x37, x38, x1000, x1001 => if x38 < x37 then (if 0 ≤ x7 then (if x7 < (x1000.length : Int) then (if ((rd_T57 x1000 x7).f1) = x2 then (some x7) else (if x7 < (x1001.length : Int) then (impl_tree_find.l0 k x2 (rd x1001 x7) x37 (wrap64 (x38 + 1)) x1000 x1001) else (none))) else (none)) else (none)) else (some (-1))
end
def impl_tree_find.f (k : Nat) (s0_0 : List (S57)) (s0_1 : List Int) (a1 : Int) (a2 : Int) : Option (Int) := (impl_within.f a1 0 (wrap64 ((s0_0.length : Int) - 1))).bind fun t353 => (if t353 = true then (if 0 ≤ a1 then (if a1 < (s0_0.length : Int) then (impl_tree_find.j0 k a1 a2 (((rd_T57 s0_0 a1).f0) != 12) s0_0 s0_1) else (none)) else (none)) else (impl_tree_find.j0 k a1 a2 true s0_0 s0_1))
set_option maxHeartbeats 8000000 in
set_option maxRecDepth 100000 in
theorem impl_tree_find.calls (k : Nat) (g : Nat) (s0_0 : List (S57)) (s0_1 : List Int) (a1 : Int) (a2 : Int) (r : Int) (w0 w : World) (hI : IsS85 w0 w g s0_0 s0_1) (hB : Below w0.heap.size w0 w) (h : impl_tree_find.f k s0_0 s0_1 a1 a2 = some r) :
    Calls Try.prog 52 #[.pointer (some ⟨g, 0, none⟩), .int .i64 a1, .int .i64 a2] w fun e w' => e = .returned (.int .i64 r) ∧ IsS85 w0 w' g s0_0 s0_1 ∧ Below w0.heap.size w0 w' ∧ KeepBut w w' g none := by
  have HI0 := Aside0.mk hI
  have HK := Aside0.mk (KeepBut.refl w g none)
  have HL := Aside0.mk hB.size
  clear hI
  have HW0 := Aside0.mk hB.size
  have HB := Aside0.mk hB
  clear hB
  have H : ((impl_within.f a1 0 (wrap64 ((s0_0.length : Int) - 1))).bind fun t353 => (if t353 = true then (if 0 ≤ a1 then (if a1 < (s0_0.length : Int) then (impl_tree_find.j0 k a1 a2 (((rd_T57 s0_0 a1).f0) != 12) s0_0 s0_1) else (none)) else (none)) else (impl_tree_find.j0 k a1 a2 true s0_0 s0_1))) = some r := h
  clear h
  have HC4 := Aside0.mk H
  clear H
  go_enter Try.func52, Try.ntmps52
  go_upto_region 1 with (fail)
  go_cut [27] (fun v27 wc => ∃ (kq : Nat) (x27_3 : Bool), v27 = .bool x27_3 ∧ Aside0 (impl_tree_find.j0 kq a1 a2 x27_3 s0_0 s0_1 = some r) ∧ Aside0 (kq ≤ k) ∧ Aside0 (IsS85 w0 wc g s0_0 s0_1) ∧ Aside0 (KeepBut w wc g none) ∧ Aside0 (Below w0.heap.size w0 wc))
  case first =>
    have H := HC4.out
    clear HC4
    replace H := bnd H
    obtain ⟨t353, A5, H⟩ := H
    by_cases c6 : t353 = true
    · subst c6
      replace H := ifp rfl H
      replace H := ifd H
      obtain ⟨c7b0, H⟩ := H
      (first | rw [c7b0] | (simp only [i64_w, i32_w]; rw [c7b0]) | skip)
      replace H := ifd H
      obtain ⟨c8b0, H⟩ := H
      have H' := Aside0.mk H
      clear H
      obtain ⟨ASz9_0, cSz9_0, ASz9_1, cSz9_1, HGz9, hgz9, HSz9_0, HSz9_1⟩ := HI0.out
      have hcz9_0 := cellS85_0 HGz9
      have hcz9_1 := cellS85_1 HGz9
      clear HGz9 hgz9
      go_wp2_with (first | ((with_reducible refine gate_callee (f := 48) rfl ?_); refine gl_ (some 15) Try.func48 #[.int .i64 a1, .int .i64 0, .int .i64 (wrap64 ((s0_0.length : Int) - 1))] rfl ?_; (with_reducible refine (impl_within.calls a1 0 (wrap64 ((s0_0.length : Int) - 1)) true _ A5.out).mono ?_); rintro e w' ⟨rfl, ⟨nd, rfl⟩⟩; refine ⟨_, rfl, ?_⟩; have p354 : 0 ≤ (a1 : Int) := dcd; have q354 : a1 < (s0_0.length : Int) := dcd; obtain ⟨ad354, e354, hx354_0, hx354_1, hx354_2, hx354_3, hx354_4⟩ := at_T57 HSz9_0 a1 p354 q354; cases e354; replace hx354_0 := pw_cell_below HB.out hx354_0; replace hx354_1 := pw_cell_below HB.out hx354_1; replace hx354_2 := pw_cell_below HB.out hx354_2; replace hx354_3 := pw_cell_below HB.out hx354_3; replace hx354_4 := pw_cell_below HB.out hx354_4; replace p354 := eq_true p354; replace q354 := eq_true q354))
      go_meet
      case rel => exact ⟨_, ((((rd_T57 s0_0 a1).f0) != 12)), sr, H', ⟨by first | omega | exact Nat.le_refl _⟩, ⟨by repeat (first | (with_reducible first | exact HI0.out | apply IsS85.alloc | apply IsS85.drewN | apply IsS85.drew) | exact HI0.out)⟩, ⟨by repeat (first | (with_reducible first | exact HK.out | apply KeepBut.set_ | apply keep_drewN | apply keep_drew | apply keep_alloc) | exact HK.out)⟩, ⟨by repeat (first | (with_reducible first | exact HB.out | apply below_alloc | apply pw_below_drewN | apply below_drew1 | refine below_set ?_ (IsS85.ge HI0.out)) | exact HB.out)⟩⟩
    · replace c6 := Bool.eq_false_iff.mpr c6
      subst c6
      replace H := ifn Bool.false_ne_true H
      have H' := Aside0.mk H
      clear H
      obtain ⟨ASz10_0, cSz10_0, ASz10_1, cSz10_1, HGz10, hgz10, HSz10_0, HSz10_1⟩ := HI0.out
      have hcz10_0 := cellS85_0 HGz10
      have hcz10_1 := cellS85_1 HGz10
      clear HGz10 hgz10
      go_wp2_with (first | ((with_reducible refine gate_callee (f := 48) rfl ?_); refine gl_ (some 15) Try.func48 #[.int .i64 a1, .int .i64 0, .int .i64 (wrap64 ((s0_0.length : Int) - 1))] rfl ?_; (with_reducible refine (impl_within.calls a1 0 (wrap64 ((s0_0.length : Int) - 1)) false _ A5.out).mono ?_); rintro e w' ⟨rfl, ⟨nd, rfl⟩⟩; refine ⟨_, rfl, ?_⟩))
      go_meet
      case rel => exact ⟨_, (true), sr, H', ⟨by first | omega | exact Nat.le_refl _⟩, ⟨by repeat (first | (with_reducible first | exact HI0.out | apply IsS85.alloc | apply IsS85.drewN | apply IsS85.drew) | exact HI0.out)⟩, ⟨by repeat (first | (with_reducible first | exact HK.out | apply KeepBut.set_ | apply keep_drewN | apply keep_drew | apply keep_alloc) | exact HK.out)⟩, ⟨by repeat (first | (with_reducible first | exact HB.out | apply below_alloc | apply pw_below_drewN | apply below_drew1 | refine below_set ?_ (IsS85.ge HI0.out)) | exact HB.out)⟩⟩
  case rest =>
    clear HC4
    obtain ⟨kq, x27_3, rfl, HA, HJ3, HI0, HK, HB⟩ := hcut
    cases kq with
    | zero => exact absurd HA.out (by simp [impl_tree_find.j0])
    | succ kj3 =>
      have H := HA.out
      clear HA
      simp only [impl_tree_find.j0] at H
      by_cases c11 : x27_3 = true
      · subst c11
        replace H := ifp rfl H
        obtain rfl := Option.some.inj H
        go_wp2
        go_ret
        exact ⟨by first | rfl | (simp [errW_none, errW_some] <;> rfl) | (simp [*, errW_none, errW_some] <;> rfl), by repeat (first | (with_reducible first | exact HI0.out | apply IsS85.alloc | apply IsS85.drewN | apply IsS85.drew) | exact HI0.out), by repeat (first | (with_reducible first | exact HB.out | apply below_alloc | apply pw_below_drewN | apply below_drew1 | refine below_set ?_ (IsS85.ge HI0.out)) | exact HB.out), by repeat (first | (with_reducible first | exact HK.out | apply KeepBut.set_ | apply keep_drewN | apply keep_drew | apply keep_alloc) | exact HK.out)⟩
      · replace c11 := Bool.eq_false_iff.mpr c11
        subst c11
        replace H := ifn Bool.false_ne_true H
        replace H := ifd H
        obtain ⟨c12b0, H⟩ := H
        replace H := ifd H
        obtain ⟨c13b0, H⟩ := H
        have H' := Aside0.mk H
        clear H
        obtain ⟨ASz14_0, cSz14_0, ASz14_1, cSz14_1, HGz14, hgz14, HSz14_0, HSz14_1⟩ := HI0.out
        have hcz14_0 := cellS85_0 HGz14
        have hcz14_1 := cellS85_1 HGz14
        clear HGz14 hgz14
        have p355 : 0 ≤ (a1 : Int) := dcd
        have q355 : a1 < (s0_0.length : Int) := dcd
        obtain ⟨ad355, e355, hx355_0, hx355_1, hx355_2, hx355_3, hx355_4⟩ := at_T57 HSz14_0 a1 p355 q355
        cases e355
        replace hx355_0 := pw_cell_below HB.out hx355_0
        replace hx355_1 := pw_cell_below HB.out hx355_1
        replace hx355_2 := pw_cell_below HB.out hx355_2
        replace hx355_3 := pw_cell_below HB.out hx355_3
        replace hx355_4 := pw_cell_below HB.out hx355_4
        replace p355 := eq_true p355
        replace q355 := eq_true q355
        go_wp2
        go_loopg [7, 38] kj3 (fun kq v7 v38 w' => ∃ (x7_2 : Int) (x38_2 : Int), v7 = .int .i64 x7_2 ∧ v38 = .int .i64 x38_2 ∧ Aside0 (impl_tree_find.l0 kq a2 x7_2 ((rd_T57 s0_0 a1).f4) x38_2 s0_0 s0_1 = some r) ∧ Aside0 (kq ≤ kj3) ∧ Aside0 (IsS85 w0 w' g s0_0 s0_1) ∧ Aside0 (KeepBut w w' g none) ∧ Aside0 (Below w0.heap.size w0 w'))
        case atStart => exact ⟨(wrap64 (a1 + 1)), (0), sr, sr, H', ⟨Nat.le_refl _⟩, ⟨by repeat (first | (with_reducible first | exact HI0.out | apply IsS85.alloc | apply IsS85.drewN | apply IsS85.drew) | exact HI0.out)⟩, ⟨by repeat (first | (with_reducible first | exact HK.out | apply KeepBut.set_ | apply keep_drewN | apply keep_drew | apply keep_alloc) | exact HK.out)⟩, ⟨by repeat (first | (with_reducible first | exact HB.out | apply below_alloc | apply pw_below_drewN | apply below_drew1 | refine below_set ?_ (IsS85.ge HI0.out)) | exact HB.out)⟩⟩
        case round =>
          clear H'
          try clear c11
          try clear c12b0
          try clear c13b0
          try clear hcz14_0
          try clear hcz14_1
          try clear hx355_0
          try clear hx355_1
          try clear hx355_2
          try clear hx355_3
          try clear hx355_4
          try clear p355
          try clear q355
          obtain ⟨x7_2, x38_2, rfl, rfl, HA, HK2, HI0, HK, HB⟩ := hrel
          cases gk with
          | zero => exact absurd HA.out (by simp [impl_tree_find.l0])
          | succ k2 =>
            have H := HA.out
            clear HA
            simp only [impl_tree_find.l0] at H
            by_cases c15 : x38_2 < ((rd_T57 s0_0 a1).f4)
            · rw [if_pos c15] at H
              have c15b0 := decide_eq_true c15
              clear c15
              replace H := ifd H
              obtain ⟨c16b0, H⟩ := H
              replace H := ifd H
              obtain ⟨c17b0, H⟩ := H
              by_cases c18 : ((rd_T57 s0_0 x7_2).f1) = a2
              · rw [if_pos c18] at H
                have c18b0 : (((rd_T57 s0_0 x7_2).f1) == a2) = true := beq_iff_eq.mpr c18
                have c18b1 : (((rd_T57 s0_0 x7_2).f1) != a2) = false := bne_eq_false_iff_eq.mpr c18
                clear c18
                obtain rfl := Option.some.inj H
                obtain ⟨ASz19_0, cSz19_0, ASz19_1, cSz19_1, HGz19, hgz19, HSz19_0, HSz19_1⟩ := HI0.out
                have hcz19_0 := cellS85_0 HGz19
                have hcz19_1 := cellS85_1 HGz19
                clear HGz19 hgz19
                have p356 : 0 ≤ (x7_2 : Int) := dcd
                have q356 : x7_2 < (s0_0.length : Int) := dcd
                obtain ⟨ad356, e356, hx356_0, hx356_1, hx356_2, hx356_3, hx356_4⟩ := at_T57 HSz19_0 x7_2 p356 q356
                cases e356
                replace hx356_0 := pw_cell_below HB.out hx356_0
                replace hx356_1 := pw_cell_below HB.out hx356_1
                replace hx356_2 := pw_cell_below HB.out hx356_2
                replace hx356_3 := pw_cell_below HB.out hx356_3
                replace hx356_4 := pw_cell_below HB.out hx356_4
                replace p356 := eq_true p356
                replace q356 := eq_true q356
                go_wp2
                go_ret
                exact ⟨by first | rfl | (simp [errW_none, errW_some] <;> rfl) | (simp [*, errW_none, errW_some] <;> rfl), by repeat (first | (with_reducible first | exact HI0.out | apply IsS85.alloc | apply IsS85.drewN | apply IsS85.drew) | exact HI0.out), by repeat (first | (with_reducible first | exact HB.out | apply below_alloc | apply pw_below_drewN | apply below_drew1 | refine below_set ?_ (IsS85.ge HI0.out)) | exact HB.out), by repeat (first | (with_reducible first | exact HK.out | apply KeepBut.set_ | apply keep_drewN | apply keep_drew | apply keep_alloc) | exact HK.out)⟩
              · rw [if_neg c18] at H
                have c18b0 : (((rd_T57 s0_0 x7_2).f1) == a2) = false := beq_eq_false_iff_ne.mpr c18
                have c18b1 : (((rd_T57 s0_0 x7_2).f1) != a2) = true := bne_iff_ne.mpr c18
                replace H := ifd H
                obtain ⟨c20b0, H⟩ := H
                have H' := Aside0.mk H
                clear H
                obtain ⟨ASz21_0, cSz21_0, ASz21_1, cSz21_1, HGz21, hgz21, HSz21_0, HSz21_1⟩ := HI0.out
                have hcz21_0 := cellS85_0 HGz21
                have hcz21_1 := cellS85_1 HGz21
                clear HGz21 hgz21
                have p356 : 0 ≤ (x7_2 : Int) := dcd
                have q356 : x7_2 < (s0_0.length : Int) := dcd
                obtain ⟨ad356, e356, hx356_0, hx356_1, hx356_2, hx356_3, hx356_4⟩ := at_T57 HSz21_0 x7_2 p356 q356
                cases e356
                replace hx356_0 := pw_cell_below HB.out hx356_0
                replace hx356_1 := pw_cell_below HB.out hx356_1
                replace hx356_2 := pw_cell_below HB.out hx356_2
                replace hx356_3 := pw_cell_below HB.out hx356_3
                replace hx356_4 := pw_cell_below HB.out hx356_4
                replace p356 := eq_true p356
                replace q356 := eq_true q356
                have p357 : 0 ≤ (x7_2 : Int) := dcd
                have q357 : x7_2 < (s0_1.length : Int) := dcd
                obtain ⟨ad357, e357, hx357_0⟩ := Kd.at_int HSz21_1 x7_2 p357 q357
                cases e357
                replace hx357_0 := pw_cell_below HB.out hx357_0
                replace p357 := eq_true p357
                replace q357 := eq_true q357
                go_wp2
                go_roundg k2
                case measure => have := HJ3.out; have := HK2.out; omega
                case rel => exact ⟨(rd s0_1 x7_2), (wrap64 (x38_2 + 1)), sr, sr, H', ⟨by have := HJ3.out; have := HK2.out; omega⟩, ⟨by repeat (first | (with_reducible first | exact HI0.out | apply IsS85.alloc | apply IsS85.drewN | apply IsS85.drew) | exact HI0.out)⟩, ⟨by repeat (first | (with_reducible first | exact HK.out | apply KeepBut.set_ | apply keep_drewN | apply keep_drew | apply keep_alloc) | exact HK.out)⟩, ⟨by repeat (first | (with_reducible first | exact HB.out | apply below_alloc | apply pw_below_drewN | apply below_drew1 | refine below_set ?_ (IsS85.ge HI0.out)) | exact HB.out)⟩⟩
            · rw [if_neg c15] at H
              have c15b0 := decide_eq_false c15
              clear c15
              obtain rfl := Option.some.inj H
              go_wp2
              go_ret
              exact ⟨by first | rfl | (simp [errW_none, errW_some] <;> rfl) | (simp [*, errW_none, errW_some] <;> rfl), by repeat (first | (with_reducible first | exact HI0.out | apply IsS85.alloc | apply IsS85.drewN | apply IsS85.drew) | exact HI0.out), by repeat (first | (with_reducible first | exact HB.out | apply below_alloc | apply pw_below_drewN | apply below_drew1 | refine below_set ?_ (IsS85.ge HI0.out)) | exact HB.out), by repeat (first | (with_reducible first | exact HK.out | apply KeepBut.set_ | apply keep_drewN | apply keep_drew | apply keep_alloc) | exact HK.out)⟩
/-! ### impl_tree_num: function 50 -/
def impl_tree_num.f (k : Nat) (s0_0 : List (S57)) (s0_1 : List Int) (a1 : Int) (a2 : Int) : Option (Int × Bool) := (impl_tree_find.f k s0_0 s0_1 a1 a2).bind fun t358 => (if t358 < 0 then (some (0, false)) else (if 0 ≤ t358 then (if t358 < (s0_0.length : Int) then (if ((rd_T57 s0_0 t358).f0) = 5 then (some ((rd_T57 s0_0 t358).f2, true)) else (if ((rd_T57 s0_0 t358).f0) = 6 then (some ((rd_T57 s0_0 t358).f2, true)) else (some (0, false)))) else (none)) else (none)))
set_option maxHeartbeats 8000000 in
set_option maxRecDepth 100000 in
theorem impl_tree_num.calls (k : Nat) (g : Nat) (s0_0 : List (S57)) (s0_1 : List Int) (a1 : Int) (a2 : Int) (r1 : Int) (r2 : Bool) (w0 w : World) (hI : IsS85 w0 w g s0_0 s0_1) (hB : Below w0.heap.size w0 w) (h : impl_tree_num.f k s0_0 s0_1 a1 a2 = some (r1, r2)) :
    Calls Try.prog 50 #[.pointer (some ⟨g, 0, none⟩), .int .i64 a1, .int .i64 a2] w fun e w' => e = .returned (.tuple #[.int .i64 r1, .bool r2]) ∧ IsS85 w0 w' g s0_0 s0_1 ∧ Below w0.heap.size w0 w' ∧ KeepBut w w' g none := by
  have HI0 := Aside0.mk hI
  have HK := Aside0.mk (KeepBut.refl w g none)
  have HL := Aside0.mk hB.size
  clear hI
  have HW0 := Aside0.mk hB.size
  have HB := Aside0.mk hB
  clear hB
  have H : ((impl_tree_find.f k s0_0 s0_1 a1 a2).bind fun t358 => (if t358 < 0 then (some (0, false)) else (if 0 ≤ t358 then (if t358 < (s0_0.length : Int) then (if ((rd_T57 s0_0 t358).f0) = 5 then (some ((rd_T57 s0_0 t358).f2, true)) else (if ((rd_T57 s0_0 t358).f0) = 6 then (some ((rd_T57 s0_0 t358).f2, true)) else (some (0, false)))) else (none)) else (none)))) = some (r1, r2) := h
  clear h
  replace H := bnd H
  obtain ⟨t358, A4, H⟩ := H
  by_cases c5 : t358 < 0
  · rw [if_pos c5] at H
    have c5b0 := decide_eq_true c5
    clear c5
    simp only [Option.some.injEq, Prod.mk.injEq] at H
    obtain ⟨rfl, rfl⟩ := H
    go_enter Try.func50, Try.ntmps50
    go_wp2_with (first | ((with_reducible refine gate_callee (f := 52) rfl ?_); refine gl_ (some 12) Try.func52 #[.pointer (some ⟨g, 0, none⟩), .int .i64 a1, .int .i64 a2] rfl ?_; (with_reducible refine (impl_tree_find.calls k g s0_0 s0_1 a1 a2 t358 w0 _ ?side1 ?side2 A4.out).mono ?_); (case side1 => repeat (first | (with_reducible first | exact HI0.out | apply IsS85.alloc | apply IsS85.drewN | apply IsS85.drew) | exact HI0.out)); (case side2 => repeat (first | (with_reducible first | exact HB.out | apply below_alloc | apply pw_below_drewN | apply below_drew1 | refine below_set ?_ (IsS85.ge HI0.out)) | exact HB.out)); rintro e w6 ⟨rfl, hi, hb, hk⟩; refine ⟨_, rfl, ?_⟩; replace HK := Aside0.mk (KeepBut.trans (by repeat (first | (with_reducible first | exact HK.out | apply KeepBut.set_ | apply keep_drewN | apply keep_drew | apply keep_alloc) | exact HK.out)) hk (.inl rfl)); replace HB := Aside0.mk (hb); replace HI0 := Aside0.mk (hi); (try clear hb); (try clear hk); (try clear hi)))
    go_ret2
    exact ⟨by first | rfl | (simp [errW_none, errW_some] <;> rfl) | (simp [*, errW_none, errW_some] <;> rfl), by repeat (first | (with_reducible first | exact HI0.out | apply IsS85.alloc | apply IsS85.drewN | apply IsS85.drew) | exact HI0.out), by repeat (first | (with_reducible first | exact HB.out | apply below_alloc | apply pw_below_drewN | apply below_drew1 | refine below_set ?_ (IsS85.ge HI0.out)) | exact HB.out), by repeat (first | (with_reducible first | exact HK.out | apply KeepBut.set_ | apply keep_drewN | apply keep_drew | apply keep_alloc) | exact HK.out)⟩
  · rw [if_neg c5] at H
    have c5b0 := decide_eq_false c5
    clear c5
    replace H := ifd H
    obtain ⟨c7b0, H⟩ := H
    replace H := ifd H
    obtain ⟨c8b0, H⟩ := H
    by_cases c9 : ((rd_T57 s0_0 t358).f0) = 5
    · rw [if_pos c9] at H
      have c9b0 : (((rd_T57 s0_0 t358).f0) == 5) = true := beq_iff_eq.mpr c9
      have c9b1 : (((rd_T57 s0_0 t358).f0) != 5) = false := bne_eq_false_iff_eq.mpr c9
      clear c9
      simp only [Option.some.injEq, Prod.mk.injEq] at H
      obtain ⟨rfl, rfl⟩ := H
      go_enter Try.func50, Try.ntmps50
      go_wp2_with (first | ((with_reducible refine gate_callee (f := 52) rfl ?_); refine gl_ (some 12) Try.func52 #[.pointer (some ⟨g, 0, none⟩), .int .i64 a1, .int .i64 a2] rfl ?_; (with_reducible refine (impl_tree_find.calls k g s0_0 s0_1 a1 a2 t358 w0 _ ?side1 ?side2 A4.out).mono ?_); (case side1 => repeat (first | (with_reducible first | exact HI0.out | apply IsS85.alloc | apply IsS85.drewN | apply IsS85.drew) | exact HI0.out)); (case side2 => repeat (first | (with_reducible first | exact HB.out | apply below_alloc | apply pw_below_drewN | apply below_drew1 | refine below_set ?_ (IsS85.ge HI0.out)) | exact HB.out)); rintro e w10 ⟨rfl, hi, hb, hk⟩; refine ⟨_, rfl, ?_⟩; replace HK := Aside0.mk (KeepBut.trans (by repeat (first | (with_reducible first | exact HK.out | apply KeepBut.set_ | apply keep_drewN | apply keep_drew | apply keep_alloc) | exact HK.out)) hk (.inl rfl)); replace HB := Aside0.mk (hb); replace HI0 := Aside0.mk (hi); (try clear hb); (try clear hk); (try clear hi); obtain ⟨ASz11_0, cSz11_0, ASz11_1, cSz11_1, HGz11, hgz11, HSz11_0, HSz11_1⟩ := HI0.out; have hcz11_0 := cellS85_0 HGz11; have hcz11_1 := cellS85_1 HGz11; clear HGz11 hgz11; have p359 : 0 ≤ (t358 : Int) := dcd; have q359 : t358 < (s0_0.length : Int) := dcd; obtain ⟨ad359, e359, hx359_0, hx359_1, hx359_2, hx359_3, hx359_4⟩ := at_T57 HSz11_0 t358 p359 q359; cases e359; replace hx359_0 := pw_cell_below HB.out hx359_0; replace hx359_1 := pw_cell_below HB.out hx359_1; replace hx359_2 := pw_cell_below HB.out hx359_2; replace hx359_3 := pw_cell_below HB.out hx359_3; replace hx359_4 := pw_cell_below HB.out hx359_4; replace p359 := eq_true p359; replace q359 := eq_true q359; have p360 : 0 ≤ (t358 : Int) := dcd; have q360 : t358 < (s0_0.length : Int) := dcd; obtain ⟨ad360, e360, hx360_0, hx360_1, hx360_2, hx360_3, hx360_4⟩ := at_T57 HSz11_0 t358 p360 q360; obtain rfl : ad359 = ad360 := (by injection e360); replace hx360_0 := pw_cell_below HB.out hx360_0; replace hx360_1 := pw_cell_below HB.out hx360_1; replace hx360_2 := pw_cell_below HB.out hx360_2; replace hx360_3 := pw_cell_below HB.out hx360_3; replace hx360_4 := pw_cell_below HB.out hx360_4; replace p360 := eq_true p360; replace q360 := eq_true q360))
      go_ret2
      exact ⟨by first | rfl | (simp [errW_none, errW_some] <;> rfl) | (simp [*, errW_none, errW_some] <;> rfl), by repeat (first | (with_reducible first | exact HI0.out | apply IsS85.alloc | apply IsS85.drewN | apply IsS85.drew) | exact HI0.out), by repeat (first | (with_reducible first | exact HB.out | apply below_alloc | apply pw_below_drewN | apply below_drew1 | refine below_set ?_ (IsS85.ge HI0.out)) | exact HB.out), by repeat (first | (with_reducible first | exact HK.out | apply KeepBut.set_ | apply keep_drewN | apply keep_drew | apply keep_alloc) | exact HK.out)⟩
    · rw [if_neg c9] at H
      have c9b0 : (((rd_T57 s0_0 t358).f0) == 5) = false := beq_eq_false_iff_ne.mpr c9
      have c9b1 : (((rd_T57 s0_0 t358).f0) != 5) = true := bne_iff_ne.mpr c9
      by_cases c12 : ((rd_T57 s0_0 t358).f0) = 6
      · rw [if_pos c12] at H
        have c12b0 : (((rd_T57 s0_0 t358).f0) == 6) = true := beq_iff_eq.mpr c12
        have c12b1 : (((rd_T57 s0_0 t358).f0) != 6) = false := bne_eq_false_iff_eq.mpr c12
        clear c12
        simp only [Option.some.injEq, Prod.mk.injEq] at H
        obtain ⟨rfl, rfl⟩ := H
        go_enter Try.func50, Try.ntmps50
        go_wp2_with (first | ((with_reducible refine gate_callee (f := 52) rfl ?_); refine gl_ (some 12) Try.func52 #[.pointer (some ⟨g, 0, none⟩), .int .i64 a1, .int .i64 a2] rfl ?_; (with_reducible refine (impl_tree_find.calls k g s0_0 s0_1 a1 a2 t358 w0 _ ?side1 ?side2 A4.out).mono ?_); (case side1 => repeat (first | (with_reducible first | exact HI0.out | apply IsS85.alloc | apply IsS85.drewN | apply IsS85.drew) | exact HI0.out)); (case side2 => repeat (first | (with_reducible first | exact HB.out | apply below_alloc | apply pw_below_drewN | apply below_drew1 | refine below_set ?_ (IsS85.ge HI0.out)) | exact HB.out)); rintro e w13 ⟨rfl, hi, hb, hk⟩; refine ⟨_, rfl, ?_⟩; replace HK := Aside0.mk (KeepBut.trans (by repeat (first | (with_reducible first | exact HK.out | apply KeepBut.set_ | apply keep_drewN | apply keep_drew | apply keep_alloc) | exact HK.out)) hk (.inl rfl)); replace HB := Aside0.mk (hb); replace HI0 := Aside0.mk (hi); (try clear hb); (try clear hk); (try clear hi); obtain ⟨ASz14_0, cSz14_0, ASz14_1, cSz14_1, HGz14, hgz14, HSz14_0, HSz14_1⟩ := HI0.out; have hcz14_0 := cellS85_0 HGz14; have hcz14_1 := cellS85_1 HGz14; clear HGz14 hgz14; have p359 : 0 ≤ (t358 : Int) := dcd; have q359 : t358 < (s0_0.length : Int) := dcd; obtain ⟨ad359, e359, hx359_0, hx359_1, hx359_2, hx359_3, hx359_4⟩ := at_T57 HSz14_0 t358 p359 q359; cases e359; replace hx359_0 := pw_cell_below HB.out hx359_0; replace hx359_1 := pw_cell_below HB.out hx359_1; replace hx359_2 := pw_cell_below HB.out hx359_2; replace hx359_3 := pw_cell_below HB.out hx359_3; replace hx359_4 := pw_cell_below HB.out hx359_4; replace p359 := eq_true p359; replace q359 := eq_true q359; have p361 : 0 ≤ (t358 : Int) := dcd; have q361 : t358 < (s0_0.length : Int) := dcd; obtain ⟨ad361, e361, hx361_0, hx361_1, hx361_2, hx361_3, hx361_4⟩ := at_T57 HSz14_0 t358 p361 q361; obtain rfl : ad359 = ad361 := (by injection e361); replace hx361_0 := pw_cell_below HB.out hx361_0; replace hx361_1 := pw_cell_below HB.out hx361_1; replace hx361_2 := pw_cell_below HB.out hx361_2; replace hx361_3 := pw_cell_below HB.out hx361_3; replace hx361_4 := pw_cell_below HB.out hx361_4; replace p361 := eq_true p361; replace q361 := eq_true q361; have p362 : 0 ≤ (t358 : Int) := dcd; have q362 : t358 < (s0_0.length : Int) := dcd; obtain ⟨ad362, e362, hx362_0, hx362_1, hx362_2, hx362_3, hx362_4⟩ := at_T57 HSz14_0 t358 p362 q362; obtain rfl : ad359 = ad362 := (by injection e362); replace hx362_0 := pw_cell_below HB.out hx362_0; replace hx362_1 := pw_cell_below HB.out hx362_1; replace hx362_2 := pw_cell_below HB.out hx362_2; replace hx362_3 := pw_cell_below HB.out hx362_3; replace hx362_4 := pw_cell_below HB.out hx362_4; replace p362 := eq_true p362; replace q362 := eq_true q362))
        go_ret2
        exact ⟨by first | rfl | (simp [errW_none, errW_some] <;> rfl) | (simp [*, errW_none, errW_some] <;> rfl), by repeat (first | (with_reducible first | exact HI0.out | apply IsS85.alloc | apply IsS85.drewN | apply IsS85.drew) | exact HI0.out), by repeat (first | (with_reducible first | exact HB.out | apply below_alloc | apply pw_below_drewN | apply below_drew1 | refine below_set ?_ (IsS85.ge HI0.out)) | exact HB.out), by repeat (first | (with_reducible first | exact HK.out | apply KeepBut.set_ | apply keep_drewN | apply keep_drew | apply keep_alloc) | exact HK.out)⟩
      · rw [if_neg c12] at H
        have c12b0 : (((rd_T57 s0_0 t358).f0) == 6) = false := beq_eq_false_iff_ne.mpr c12
        have c12b1 : (((rd_T57 s0_0 t358).f0) != 6) = true := bne_iff_ne.mpr c12
        simp only [Option.some.injEq, Prod.mk.injEq] at H
        obtain ⟨rfl, rfl⟩ := H
        go_enter Try.func50, Try.ntmps50
        go_wp2_with (first | ((with_reducible refine gate_callee (f := 52) rfl ?_); refine gl_ (some 12) Try.func52 #[.pointer (some ⟨g, 0, none⟩), .int .i64 a1, .int .i64 a2] rfl ?_; (with_reducible refine (impl_tree_find.calls k g s0_0 s0_1 a1 a2 t358 w0 _ ?side1 ?side2 A4.out).mono ?_); (case side1 => repeat (first | (with_reducible first | exact HI0.out | apply IsS85.alloc | apply IsS85.drewN | apply IsS85.drew) | exact HI0.out)); (case side2 => repeat (first | (with_reducible first | exact HB.out | apply below_alloc | apply pw_below_drewN | apply below_drew1 | refine below_set ?_ (IsS85.ge HI0.out)) | exact HB.out)); rintro e w15 ⟨rfl, hi, hb, hk⟩; refine ⟨_, rfl, ?_⟩; replace HK := Aside0.mk (KeepBut.trans (by repeat (first | (with_reducible first | exact HK.out | apply KeepBut.set_ | apply keep_drewN | apply keep_drew | apply keep_alloc) | exact HK.out)) hk (.inl rfl)); replace HB := Aside0.mk (hb); replace HI0 := Aside0.mk (hi); (try clear hb); (try clear hk); (try clear hi); obtain ⟨ASz16_0, cSz16_0, ASz16_1, cSz16_1, HGz16, hgz16, HSz16_0, HSz16_1⟩ := HI0.out; have hcz16_0 := cellS85_0 HGz16; have hcz16_1 := cellS85_1 HGz16; clear HGz16 hgz16; have p359 : 0 ≤ (t358 : Int) := dcd; have q359 : t358 < (s0_0.length : Int) := dcd; obtain ⟨ad359, e359, hx359_0, hx359_1, hx359_2, hx359_3, hx359_4⟩ := at_T57 HSz16_0 t358 p359 q359; cases e359; replace hx359_0 := pw_cell_below HB.out hx359_0; replace hx359_1 := pw_cell_below HB.out hx359_1; replace hx359_2 := pw_cell_below HB.out hx359_2; replace hx359_3 := pw_cell_below HB.out hx359_3; replace hx359_4 := pw_cell_below HB.out hx359_4; replace p359 := eq_true p359; replace q359 := eq_true q359; have p361 : 0 ≤ (t358 : Int) := dcd; have q361 : t358 < (s0_0.length : Int) := dcd; obtain ⟨ad361, e361, hx361_0, hx361_1, hx361_2, hx361_3, hx361_4⟩ := at_T57 HSz16_0 t358 p361 q361; obtain rfl : ad359 = ad361 := (by injection e361); replace hx361_0 := pw_cell_below HB.out hx361_0; replace hx361_1 := pw_cell_below HB.out hx361_1; replace hx361_2 := pw_cell_below HB.out hx361_2; replace hx361_3 := pw_cell_below HB.out hx361_3; replace hx361_4 := pw_cell_below HB.out hx361_4; replace p361 := eq_true p361; replace q361 := eq_true q361))
        go_ret2
        exact ⟨by first | rfl | (simp [errW_none, errW_some] <;> rfl) | (simp [*, errW_none, errW_some] <;> rfl), by repeat (first | (with_reducible first | exact HI0.out | apply IsS85.alloc | apply IsS85.drewN | apply IsS85.drew) | exact HI0.out), by repeat (first | (with_reducible first | exact HB.out | apply below_alloc | apply pw_below_drewN | apply below_drew1 | refine below_set ?_ (IsS85.ge HI0.out)) | exact HB.out), by repeat (first | (with_reducible first | exact HK.out | apply KeepBut.set_ | apply keep_drewN | apply keep_drew | apply keep_alloc) | exact HK.out)⟩
/-! ### impl_TypeOk: function 76 -/
def impl_TypeOk.f (a0 : Int) : Option (Bool) := (impl_within.f a0 0 2).bind fun t363 => (if t363 = true then (some true) else (if a0 = 5 then (some true) else (some (a0 == 6))))
set_option maxHeartbeats 8000000 in
set_option maxRecDepth 100000 in
theorem impl_TypeOk.calls (a0 : Int) (r : Bool) (w : World) (h : impl_TypeOk.f a0 = some r) :
    Calls Try.prog 76 #[.int .i64 a0] w fun e w' => e = .returned (.bool r) ∧ Drawn0 w w' := by
  have H : ((impl_within.f a0 0 2).bind fun t363 => (if t363 = true then (some true) else (if a0 = 5 then (some true) else (some (a0 == 6))))) = some r := h
  clear h
  replace H := bnd H
  obtain ⟨t363, A2, H⟩ := H
  by_cases c3 : t363 = true
  · subst c3
    replace H := ifp rfl H
    obtain rfl := Option.some.inj H
    go_enter Try.func76, Try.ntmps76
    go_wp2_with (first | ((with_reducible refine gate_callee (f := 48) rfl ?_); refine gl_ (some 4) Try.func48 #[.int .i64 a0, .int .i64 0, .int .i64 2] rfl ?_; (with_reducible refine (impl_within.calls a0 0 2 true _ A2.out).mono ?_); rintro e w' ⟨rfl, ⟨nd, rfl⟩⟩; refine ⟨_, rfl, ?_⟩))
    go_ret
    exact ⟨by first | rfl | (simp; done) | (simp [*]; done), by repeat (first | exact Drawn0.refl _ | apply Drawn0.step)⟩
  · replace c3 := Bool.eq_false_iff.mpr c3
    subst c3
    replace H := ifn Bool.false_ne_true H
    by_cases c4 : a0 = 5
    · rw [if_pos c4] at H
      have c4b0 : (a0 == 5) = true := beq_iff_eq.mpr c4
      have c4b1 : (a0 != 5) = false := bne_eq_false_iff_eq.mpr c4
      clear c4
      obtain rfl := Option.some.inj H
      go_enter Try.func76, Try.ntmps76
      go_wp2_with (first | ((with_reducible refine gate_callee (f := 48) rfl ?_); refine gl_ (some 4) Try.func48 #[.int .i64 a0, .int .i64 0, .int .i64 2] rfl ?_; (with_reducible refine (impl_within.calls a0 0 2 false _ A2.out).mono ?_); rintro e w' ⟨rfl, ⟨nd, rfl⟩⟩; refine ⟨_, rfl, ?_⟩))
      go_ret
      exact ⟨by first | rfl | (simp; done) | (simp [*]; done), by repeat (first | exact Drawn0.refl _ | apply Drawn0.step)⟩
    · rw [if_neg c4] at H
      have c4b0 : (a0 == 5) = false := beq_eq_false_iff_ne.mpr c4
      have c4b1 : (a0 != 5) = true := bne_iff_ne.mpr c4
      obtain rfl := Option.some.inj H
      go_enter Try.func76, Try.ntmps76
      go_wp2_with (first | ((with_reducible refine gate_callee (f := 48) rfl ?_); refine gl_ (some 4) Try.func48 #[.int .i64 a0, .int .i64 0, .int .i64 2] rfl ?_; (with_reducible refine (impl_within.calls a0 0 2 false _ A2.out).mono ?_); rintro e w' ⟨rfl, ⟨nd, rfl⟩⟩; refine ⟨_, rfl, ?_⟩))
      go_ret
      exact ⟨by first | rfl | (simp; done) | (simp [*]; done), by repeat (first | exact Drawn0.refl _ | apply Drawn0.step)⟩

/-! ### impl_LeafOk: function 51 -/
def impl_LeafOk.f (a0_0 : Int) (a0_1 : Int) (a0_2 : Int) : Option (Bool) := (impl_TypeOk.f a0_0).bind fun t365 => (if t365 = true then ((impl_within.f a0_2 0 6).bind fun t366 => (if t366 = true then ((impl_within.f a0_1 0 a0_2).bind fun t367 => (some t367)) else (some false))) else (some false))
set_option maxHeartbeats 8000000 in
set_option maxRecDepth 100000 in
theorem impl_LeafOk.calls (a0_0 : Int) (a0_1 : Int) (a0_2 : Int) (r : Bool) (w : World) (h : impl_LeafOk.f a0_0 a0_1 a0_2 = some r) :
    Calls Try.prog 51 #[.agg #[.int .i64 a0_0, .int .i64 a0_1, .int .i64 a0_2]] w fun e w' => e = .returned (.bool r) ∧ Below w.heap.size w w' := by
  have hu32 := Try.underlying32
  have HB := Aside0.mk (Below.refl w.heap.size w)
  have H : ((impl_TypeOk.f a0_0).bind fun t365 => (if t365 = true then ((impl_within.f a0_2 0 6).bind fun t366 => (if t366 = true then ((impl_within.f a0_1 0 a0_2).bind fun t367 => (some t367)) else (some false))) else (some false))) = some r := h
  clear h
  replace H := bnd H
  obtain ⟨t365, A2, H⟩ := H
  by_cases c3 : t365 = true
  · subst c3
    replace H := ifp rfl H
    replace H := bnd H
    obtain ⟨t366, A4, H⟩ := H
    by_cases c5 : t366 = true
    · subst c5
      replace H := ifp rfl H
      replace H := bnd H
      obtain ⟨t367, A6, H⟩ := H
      obtain rfl := Option.some.inj H
      go_enter Try.func51, Try.ntmps51
      go_wp2_with (first | ((with_reducible refine gate_dst (N := 1) rfl ?_); refine bx_ 1 #[.int .i64 a0_0, .int .i64 a0_1, .int .i64 a0_2] 32 ?_; intro gb364 hg w7 hbox hb; have BK364 := Aside0.mk (hbox); have GW364 := gwe HB hg; have GE364 := GW364; replace HB := bst HB hb; clear hb hbox hg; obtain ⟨hcz8_0, hcz8_1, hcz8_2, hfz8_0, hfz8_1, hfz8_2⟩ := cl3 BK364) | ((with_reducible refine gate_callee (f := 76) rfl ?_); refine gl_ (some 5) Try.func76 #[.int .i64 a0_0] rfl ?_; (with_reducible refine (impl_TypeOk.calls a0_0 true _ A2.out).mono ?_); rintro e w' ⟨rfl, ⟨nd, rfl⟩⟩; refine ⟨_, rfl, ?_⟩) | (go_at_call 48; (with_reducible refine (impl_within.calls a0_2 0 6 true _ A4.out).mono ?_); rintro e w' ⟨rfl, ⟨nd, rfl⟩⟩) | (go_at_call 48; (with_reducible refine (impl_within.calls a0_1 0 a0_2 t367 _ A6.out).mono ?_); rintro e w' ⟨rfl, ⟨nd, rfl⟩⟩))
      go_ret
      exact fin_ (below_later HB.out)
    · replace c5 := Bool.eq_false_iff.mpr c5
      subst c5
      replace H := ifn Bool.false_ne_true H
      obtain rfl := Option.some.inj H
      go_enter Try.func51, Try.ntmps51
      go_wp2_with (first | ((with_reducible refine gate_dst (N := 1) rfl ?_); refine bx_ 1 #[.int .i64 a0_0, .int .i64 a0_1, .int .i64 a0_2] 32 ?_; intro gb364 hg w9 hbox hb; have BK364 := Aside0.mk (hbox); have GW364 := gwe HB hg; have GE364 := GW364; replace HB := bst HB hb; clear hb hbox hg; obtain ⟨hcz10_0, hcz10_1, hcz10_2, hfz10_0, hfz10_1, hfz10_2⟩ := cl3 BK364) | ((with_reducible refine gate_callee (f := 76) rfl ?_); refine gl_ (some 5) Try.func76 #[.int .i64 a0_0] rfl ?_; (with_reducible refine (impl_TypeOk.calls a0_0 true _ A2.out).mono ?_); rintro e w' ⟨rfl, ⟨nd, rfl⟩⟩; refine ⟨_, rfl, ?_⟩) | (go_at_call 48; (with_reducible refine (impl_within.calls a0_2 0 6 false _ A4.out).mono ?_); rintro e w' ⟨rfl, ⟨nd, rfl⟩⟩))
      go_ret
      exact fin_ (below_later HB.out)
  · replace c3 := Bool.eq_false_iff.mpr c3
    subst c3
    replace H := ifn Bool.false_ne_true H
    obtain rfl := Option.some.inj H
    go_enter Try.func51, Try.ntmps51
    go_wp2_with (first | ((with_reducible refine gate_dst (N := 1) rfl ?_); refine bx_ 1 #[.int .i64 a0_0, .int .i64 a0_1, .int .i64 a0_2] 32 ?_; intro gb364 hg w11 hbox hb; have BK364 := Aside0.mk (hbox); have GW364 := gwe HB hg; have GE364 := GW364; replace HB := bst HB hb; clear hb hbox hg; obtain ⟨hcz12_0, hcz12_1, hcz12_2, hfz12_0, hfz12_1, hfz12_2⟩ := cl3 BK364) | ((with_reducible refine gate_callee (f := 76) rfl ?_); refine gl_ (some 5) Try.func76 #[.int .i64 a0_0] rfl ?_; (with_reducible refine (impl_TypeOk.calls a0_0 false _ A2.out).mono ?_); rintro e w' ⟨rfl, ⟨nd, rfl⟩⟩; refine ⟨_, rfl, ?_⟩))
    go_ret
    exact fin_ (below_later HB.out)

/-! ### impl_tree_part: function 53 -/
def impl_tree_part.f (k : Nat) (s0_0 : List (S57)) (s0_1 : List Int) (a1 : Int) (a2 : Int) (a3 : Int) : Option (Int × Int × Int × ByteArray × Int × Bool) := (impl_tree_find.f k s0_0 s0_1 a1 a2).bind fun t369 => (if t369 < 0 then (some (0, 0, 0, (⟨#[]⟩ : ByteArray), 0, false)) else (if 0 ≤ t369 then (if t369 < (s0_0.length : Int) then (if ((rd_T57 s0_0 t369).f0) = a3 then (some ((rd_T57 s0_0 t369).f0, (rd_T57 s0_0 t369).f1, (rd_T57 s0_0 t369).f2, (rd_T57 s0_0 t369).f3, (rd_T57 s0_0 t369).f4, true)) else (some (0, 0, 0, (⟨#[]⟩ : ByteArray), 0, false))) else (none)) else (none)))
set_option maxHeartbeats 8000000 in
set_option maxRecDepth 100000 in
theorem impl_tree_part.calls (k : Nat) (g : Nat) (s0_0 : List (S57)) (s0_1 : List Int) (a1 : Int) (a2 : Int) (a3 : Int) (r1 : Int) (r2 : Int) (r3 : Int) (r4 : ByteArray) (r5 : Int) (r6 : Bool) (w0 w : World) (hI : IsS85 w0 w g s0_0 s0_1) (hB : Below w0.heap.size w0 w) (h : impl_tree_part.f k s0_0 s0_1 a1 a2 a3 = some (r1, r2, r3, r4, r5, r6)) :
    Calls Try.prog 53 #[.pointer (some ⟨g, 0, none⟩), .int .i64 a1, .int .i64 a2, .int .i64 a3] w fun e w' => e = .returned (.tuple #[.agg #[.int .i64 r1, .int .i64 r2, .int .i64 r3, .string r4, .int .i64 r5], .bool r6]) ∧ IsS85 w0 w' g s0_0 s0_1 ∧ Below w0.heap.size w0 w' ∧ KeepBut w w' g none := by
  have hu57 := Try.underlying57
  have HI0 := Aside0.mk hI
  have HK := Aside0.mk (KeepBut.refl w g none)
  have HL := Aside0.mk hB.size
  clear hI
  have HW0 := Aside0.mk hB.size
  have HB := Aside0.mk hB
  clear hB
  have H : ((impl_tree_find.f k s0_0 s0_1 a1 a2).bind fun t369 => (if t369 < 0 then (some (0, 0, 0, (⟨#[]⟩ : ByteArray), 0, false)) else (if 0 ≤ t369 then (if t369 < (s0_0.length : Int) then (if ((rd_T57 s0_0 t369).f0) = a3 then (some ((rd_T57 s0_0 t369).f0, (rd_T57 s0_0 t369).f1, (rd_T57 s0_0 t369).f2, (rd_T57 s0_0 t369).f3, (rd_T57 s0_0 t369).f4, true)) else (some (0, 0, 0, (⟨#[]⟩ : ByteArray), 0, false))) else (none)) else (none)))) = some (r1, r2, r3, r4, r5, r6) := h
  clear h
  replace H := bnd H
  obtain ⟨t369, A5, H⟩ := H
  by_cases c6 : t369 < 0
  · rw [if_pos c6] at H
    have c6b0 := decide_eq_true c6
    clear c6
    simp only [Option.some.injEq, Prod.mk.injEq] at H
    obtain ⟨rfl, rfl, rfl, rfl, rfl, rfl⟩ := H
    go_enter Try.func53, Try.ntmps53
    go_wp2_with (first | ((with_reducible refine gate_dst (N := 8) rfl ?_); refine bx_ 8 #[.int .i64 0, .int .i64 0, .int .i64 0, .string (⟨#[]⟩ : ByteArray), .int .i64 0] 57 ?_; intro gb368 hg w7 hbox hb; have BK368 := Aside0.mk (hbox); have GW368 := Aside0.mk ((by rw [hg]; exact (keep_size (w := w) (g := g) (row := none) (by repeat (first | (with_reducible first | exact HK.out | apply KeepBut.set_ | apply keep_drewN | apply keep_drew | apply keep_alloc) | exact HK.out))) : w.heap.size ≤ gb368)); have GE368 := Aside0.mk ((Nat.le_trans HW0.out (by rw [hg]; exact (keep_size (w := w) (g := g) (row := none) (by repeat (first | (with_reducible first | exact HK.out | apply KeepBut.set_ | apply keep_drewN | apply keep_drew | apply keep_alloc) | exact HK.out))) : w.heap.size ≤ gb368) : w0.heap.size ≤ gb368)); have NB0_368 := Aside0.mk ((by rw [hg]; exact Nat.ne_of_lt (IsS85.lt (show IsS85 w0 _ g s0_0 s0_1 from by repeat (first | (with_reducible first | exact HI0.out | apply IsS85.alloc | apply IsS85.drewN | apply IsS85.drew) | exact HI0.out))) : g ≠ gb368)); have NB368_0 := Aside0.mk ((by rw [hg]; exact Nat.ne_of_gt (IsS85.lt (show IsS85 w0 _ g s0_0 s0_1 from by repeat (first | (with_reducible first | exact HI0.out | apply IsS85.alloc | apply IsS85.drewN | apply IsS85.drew) | exact HI0.out))) : gb368 ≠ g)); replace HK := Aside0.mk (KeepBut.trans (by repeat (first | (with_reducible first | exact HK.out | apply KeepBut.set_ | apply keep_drewN | apply keep_drew | apply keep_alloc) | exact HK.out)) (KeepBut.of_below hb g none) (.inl rfl)); replace HB := Aside0.mk (below_step (by repeat (first | (with_reducible first | exact HB.out | apply below_alloc | apply pw_below_drewN | apply below_drew1 | refine below_set ?_ (IsS85.ge HI0.out)) | exact HB.out)) hb); replace HI0 := Aside0.mk (IsS85.below (by repeat (first | (with_reducible first | exact HI0.out | apply IsS85.alloc | apply IsS85.drewN | apply IsS85.drew) | exact HI0.out)) hb); clear hb hbox hg) | ((with_reducible refine gate_callee (f := 52) rfl ?_); refine gl_ (some 14) Try.func52 #[.pointer (some ⟨g, 0, none⟩), .int .i64 a1, .int .i64 a2] rfl ?_; (with_reducible refine (impl_tree_find.calls k g s0_0 s0_1 a1 a2 t369 w0 _ ?side1 ?side2 A5.out).mono ?_); (case side1 => repeat (first | (with_reducible first | exact HI0.out | apply IsS85.alloc | apply IsS85.drewN | apply IsS85.drew | refine IsS85.far ?_ (Aside0.out (by with_reducible assumption)) _) | exact HI0.out)); (case side2 => repeat (first | (with_reducible first | exact HB.out | apply below_alloc | apply pw_below_drewN | apply below_drew1 | refine below_set ?_ (IsS85.ge HI0.out) | refine below_set ?_ GE368.out) | exact HB.out)); rintro e w8 ⟨rfl, hi, hb, hk⟩; refine ⟨_, rfl, ?_⟩; replace BK368 := Aside0.mk (KeepBut.blk hk (g' := gb368) (o := .cells #[.int .i64 0, .int .i64 0, .int .i64 0, .string (⟨#[]⟩ : ByteArray), .int .i64 0] 57 (0, 0)) (blk_later BK368.out) NB368_0.out (by simp)); replace HK := Aside0.mk (KeepBut.trans (keep_later HK.out) hk (.inl rfl)); replace HB := Aside0.mk (hb); replace HI0 := Aside0.mk (hi); (try clear hb); (try clear hk); (try clear hi); have hnb9 := NB368_0.out; have hnc9 := NB0_368.out; obtain ⟨hcz10_0, hcz10_1, hcz10_2, hcz10_3, hcz10_4, hfz10_0, hfz10_1, hfz10_2, hfz10_3, hfz10_4⟩ := cl5 BK368))
    refine bodyPost_ret (results_ct rfl _ _ gb368 57 #[.int .i64 0, .int .i64 0, .int .i64 0, .string (⟨#[]⟩ : ByteArray), .int .i64 0] (0, 0) _ rfl (by (with_reducible repeat (first | refine blk_drewN ?_ _ | refine blk_drew ?_ | refine blk_alloc ?_ _)); refine blk_put (cs := #[.int .i64 0, .int .i64 0, .int .i64 0, .string (⟨#[]⟩ : ByteArray), .int .i64 0]) ?_ 4 _ rfl; (with_reducible repeat (first | refine blk_drewN ?_ _ | refine blk_drew ?_ | refine blk_alloc ?_ _)); refine blk_put (cs := #[.int .i64 0, .int .i64 0, .int .i64 0, .string (⟨#[]⟩ : ByteArray), .int .i64 0]) ?_ 3 _ rfl; (with_reducible repeat (first | refine blk_drewN ?_ _ | refine blk_drew ?_ | refine blk_alloc ?_ _)); refine blk_put (cs := #[.int .i64 0, .int .i64 0, .int .i64 0, .string (⟨#[]⟩ : ByteArray), .int .i64 0]) ?_ 2 _ rfl; (with_reducible repeat (first | refine blk_drewN ?_ _ | refine blk_drew ?_ | refine blk_alloc ?_ _)); refine blk_put (cs := #[.int .i64 0, .int .i64 0, .int .i64 0, .string (⟨#[]⟩ : ByteArray), .int .i64 0]) ?_ 1 _ rfl; (with_reducible repeat (first | refine blk_drewN ?_ _ | refine blk_drew ?_ | refine blk_alloc ?_ _)); refine blk_put (cs := #[.int .i64 0, .int .i64 0, .int .i64 0, .string (⟨#[]⟩ : ByteArray), .int .i64 0]) ?_ 0 _ rfl; (with_reducible repeat (first | refine blk_drewN ?_ _ | refine blk_drew ?_ | refine blk_alloc ?_ _)); exact BK368.out) Try.underlying57 rfl (by kernel_rfl)) rfl ?_
    exact ⟨by first | rfl | (simp [errW_none, errW_some] <;> rfl) | (simp [*, errW_none, errW_some] <;> rfl), by repeat (first | (with_reducible first | exact HI0.out | apply IsS85.alloc | apply IsS85.drewN | apply IsS85.drew | refine IsS85.far ?_ (Aside0.out (by with_reducible assumption)) _) | exact HI0.out), by repeat (first | (with_reducible first | exact HB.out | apply below_alloc | apply pw_below_drewN | apply below_drew1 | refine below_set ?_ (IsS85.ge HI0.out) | refine below_set ?_ GE368.out) | exact HB.out), keep_later HK.out⟩
  · rw [if_neg c6] at H
    have c6b0 := decide_eq_false c6
    clear c6
    replace H := ifd H
    obtain ⟨c11b0, H⟩ := H
    replace H := ifd H
    obtain ⟨c12b0, H⟩ := H
    by_cases c13 : ((rd_T57 s0_0 t369).f0) = a3
    · rw [if_pos c13] at H
      have c13b0 : (((rd_T57 s0_0 t369).f0) == a3) = true := beq_iff_eq.mpr c13
      have c13b1 : (((rd_T57 s0_0 t369).f0) != a3) = false := bne_eq_false_iff_eq.mpr c13
      clear c13
      simp only [Option.some.injEq, Prod.mk.injEq] at H
      obtain ⟨rfl, rfl, rfl, rfl, rfl, rfl⟩ := H
      go_enter Try.func53, Try.ntmps53
      go_wp2_with (first | ((with_reducible refine gate_dst (N := 8) rfl ?_); refine bx_ 8 #[.int .i64 0, .int .i64 0, .int .i64 0, .string (⟨#[]⟩ : ByteArray), .int .i64 0] 57 ?_; intro gb368 hg w14 hbox hb; have BK368 := Aside0.mk (hbox); have GW368 := Aside0.mk ((by rw [hg]; exact (keep_size (w := w) (g := g) (row := none) (by repeat (first | (with_reducible first | exact HK.out | apply KeepBut.set_ | apply keep_drewN | apply keep_drew | apply keep_alloc) | exact HK.out))) : w.heap.size ≤ gb368)); have GE368 := Aside0.mk ((Nat.le_trans HW0.out (by rw [hg]; exact (keep_size (w := w) (g := g) (row := none) (by repeat (first | (with_reducible first | exact HK.out | apply KeepBut.set_ | apply keep_drewN | apply keep_drew | apply keep_alloc) | exact HK.out))) : w.heap.size ≤ gb368) : w0.heap.size ≤ gb368)); have NB0_368 := Aside0.mk ((by rw [hg]; exact Nat.ne_of_lt (IsS85.lt (show IsS85 w0 _ g s0_0 s0_1 from by repeat (first | (with_reducible first | exact HI0.out | apply IsS85.alloc | apply IsS85.drewN | apply IsS85.drew) | exact HI0.out))) : g ≠ gb368)); have NB368_0 := Aside0.mk ((by rw [hg]; exact Nat.ne_of_gt (IsS85.lt (show IsS85 w0 _ g s0_0 s0_1 from by repeat (first | (with_reducible first | exact HI0.out | apply IsS85.alloc | apply IsS85.drewN | apply IsS85.drew) | exact HI0.out))) : gb368 ≠ g)); replace HK := Aside0.mk (KeepBut.trans (by repeat (first | (with_reducible first | exact HK.out | apply KeepBut.set_ | apply keep_drewN | apply keep_drew | apply keep_alloc) | exact HK.out)) (KeepBut.of_below hb g none) (.inl rfl)); replace HB := Aside0.mk (below_step (by repeat (first | (with_reducible first | exact HB.out | apply below_alloc | apply pw_below_drewN | apply below_drew1 | refine below_set ?_ (IsS85.ge HI0.out)) | exact HB.out)) hb); replace HI0 := Aside0.mk (IsS85.below (by repeat (first | (with_reducible first | exact HI0.out | apply IsS85.alloc | apply IsS85.drewN | apply IsS85.drew) | exact HI0.out)) hb); clear hb hbox hg) | ((with_reducible refine gate_callee (f := 52) rfl ?_); refine gl_ (some 14) Try.func52 #[.pointer (some ⟨g, 0, none⟩), .int .i64 a1, .int .i64 a2] rfl ?_; (with_reducible refine (impl_tree_find.calls k g s0_0 s0_1 a1 a2 t369 w0 _ ?side1 ?side2 A5.out).mono ?_); (case side1 => repeat (first | (with_reducible first | exact HI0.out | apply IsS85.alloc | apply IsS85.drewN | apply IsS85.drew | refine IsS85.far ?_ (Aside0.out (by with_reducible assumption)) _) | exact HI0.out)); (case side2 => repeat (first | (with_reducible first | exact HB.out | apply below_alloc | apply pw_below_drewN | apply below_drew1 | refine below_set ?_ (IsS85.ge HI0.out) | refine below_set ?_ GE368.out) | exact HB.out)); rintro e w15 ⟨rfl, hi, hb, hk⟩; refine ⟨_, rfl, ?_⟩; replace BK368 := Aside0.mk (KeepBut.blk hk (g' := gb368) (o := .cells #[.int .i64 0, .int .i64 0, .int .i64 0, .string (⟨#[]⟩ : ByteArray), .int .i64 0] 57 (0, 0)) (blk_later BK368.out) NB368_0.out (by simp)); replace HK := Aside0.mk (KeepBut.trans (keep_later HK.out) hk (.inl rfl)); replace HB := Aside0.mk (hb); replace HI0 := Aside0.mk (hi); (try clear hb); (try clear hk); (try clear hi); obtain ⟨ASz16_0, cSz16_0, ASz16_1, cSz16_1, HGz16, hgz16, HSz16_0, HSz16_1⟩ := HI0.out; have hcz16_0 := cellS85_0 HGz16; have hcz16_1 := cellS85_1 HGz16; clear HGz16 hgz16; have p370 : 0 ≤ (t369 : Int) := dcd; have q370 : t369 < (s0_0.length : Int) := dcd; obtain ⟨ad370, e370, hx370_0, hx370_1, hx370_2, hx370_3, hx370_4⟩ := at_T57 HSz16_0 t369 p370 q370; cases e370; replace hx370_0 := pw_cell_below HB.out hx370_0; replace hx370_1 := pw_cell_below HB.out hx370_1; replace hx370_2 := pw_cell_below HB.out hx370_2; replace hx370_3 := pw_cell_below HB.out hx370_3; replace hx370_4 := pw_cell_below HB.out hx370_4; replace p370 := eq_true p370; replace q370 := eq_true q370; have p371 : 0 ≤ (t369 : Int) := dcd; have q371 : t369 < (s0_0.length : Int) := dcd; obtain ⟨ad371, e371, hx371_0, hx371_1, hx371_2, hx371_3, hx371_4⟩ := at_T57 HSz16_0 t369 p371 q371; obtain rfl : ad370 = ad371 := (by injection e371); replace hx371_0 := pw_cell_below HB.out hx371_0; replace hx371_1 := pw_cell_below HB.out hx371_1; replace hx371_2 := pw_cell_below HB.out hx371_2; replace hx371_3 := pw_cell_below HB.out hx371_3; replace hx371_4 := pw_cell_below HB.out hx371_4; replace p371 := eq_true p371; replace q371 := eq_true q371; have hnb17 := NB368_0.out; have hnc17 := NB0_368.out; obtain ⟨hcz18_0, hcz18_1, hcz18_2, hcz18_3, hcz18_4, hfz18_0, hfz18_1, hfz18_2, hfz18_3, hfz18_4⟩ := cl5 BK368))
      refine bodyPost_ret (results_ct rfl _ _ gb368 57 #[.int .i64 ((rd_T57 s0_0 t369).f0), .int .i64 ((rd_T57 s0_0 t369).f1), .int .i64 ((rd_T57 s0_0 t369).f2), .string ((rd_T57 s0_0 t369).f3), .int .i64 ((rd_T57 s0_0 t369).f4)] (0, 0) _ rfl (by (with_reducible repeat (first | refine blk_drewN ?_ _ | refine blk_drew ?_ | refine blk_alloc ?_ _)); refine blk_put (cs := #[.int .i64 ((rd_T57 s0_0 t369).f0), .int .i64 ((rd_T57 s0_0 t369).f1), .int .i64 ((rd_T57 s0_0 t369).f2), .string ((rd_T57 s0_0 t369).f3), .int .i64 0]) ?_ 4 _ rfl; (with_reducible repeat (first | refine blk_drewN ?_ _ | refine blk_drew ?_ | refine blk_alloc ?_ _)); refine blk_put (cs := #[.int .i64 ((rd_T57 s0_0 t369).f0), .int .i64 ((rd_T57 s0_0 t369).f1), .int .i64 ((rd_T57 s0_0 t369).f2), .string (⟨#[]⟩ : ByteArray), .int .i64 0]) ?_ 3 _ rfl; (with_reducible repeat (first | refine blk_drewN ?_ _ | refine blk_drew ?_ | refine blk_alloc ?_ _)); refine blk_put (cs := #[.int .i64 ((rd_T57 s0_0 t369).f0), .int .i64 ((rd_T57 s0_0 t369).f1), .int .i64 0, .string (⟨#[]⟩ : ByteArray), .int .i64 0]) ?_ 2 _ rfl; (with_reducible repeat (first | refine blk_drewN ?_ _ | refine blk_drew ?_ | refine blk_alloc ?_ _)); refine blk_put (cs := #[.int .i64 ((rd_T57 s0_0 t369).f0), .int .i64 0, .int .i64 0, .string (⟨#[]⟩ : ByteArray), .int .i64 0]) ?_ 1 _ rfl; (with_reducible repeat (first | refine blk_drewN ?_ _ | refine blk_drew ?_ | refine blk_alloc ?_ _)); refine blk_put (cs := #[.int .i64 0, .int .i64 0, .int .i64 0, .string (⟨#[]⟩ : ByteArray), .int .i64 0]) ?_ 0 _ rfl; (with_reducible repeat (first | refine blk_drewN ?_ _ | refine blk_drew ?_ | refine blk_alloc ?_ _)); exact BK368.out) Try.underlying57 rfl (by kernel_rfl)) rfl ?_
      exact ⟨by first | rfl | (simp [errW_none, errW_some] <;> rfl) | (simp [*, errW_none, errW_some] <;> rfl), by repeat (first | (with_reducible first | exact HI0.out | apply IsS85.alloc | apply IsS85.drewN | apply IsS85.drew | refine IsS85.far ?_ (Aside0.out (by with_reducible assumption)) _) | exact HI0.out), by repeat (first | (with_reducible first | exact HB.out | apply below_alloc | apply pw_below_drewN | apply below_drew1 | refine below_set ?_ (IsS85.ge HI0.out) | refine below_set ?_ GE368.out) | exact HB.out), keep_later HK.out⟩
    · rw [if_neg c13] at H
      have c13b0 : (((rd_T57 s0_0 t369).f0) == a3) = false := beq_eq_false_iff_ne.mpr c13
      have c13b1 : (((rd_T57 s0_0 t369).f0) != a3) = true := bne_iff_ne.mpr c13
      simp only [Option.some.injEq, Prod.mk.injEq] at H
      obtain ⟨rfl, rfl, rfl, rfl, rfl, rfl⟩ := H
      go_enter Try.func53, Try.ntmps53
      go_wp2_with (first | ((with_reducible refine gate_dst (N := 8) rfl ?_); refine bx_ 8 #[.int .i64 0, .int .i64 0, .int .i64 0, .string (⟨#[]⟩ : ByteArray), .int .i64 0] 57 ?_; intro gb368 hg w19 hbox hb; have BK368 := Aside0.mk (hbox); have GW368 := Aside0.mk ((by rw [hg]; exact (keep_size (w := w) (g := g) (row := none) (by repeat (first | (with_reducible first | exact HK.out | apply KeepBut.set_ | apply keep_drewN | apply keep_drew | apply keep_alloc) | exact HK.out))) : w.heap.size ≤ gb368)); have GE368 := Aside0.mk ((Nat.le_trans HW0.out (by rw [hg]; exact (keep_size (w := w) (g := g) (row := none) (by repeat (first | (with_reducible first | exact HK.out | apply KeepBut.set_ | apply keep_drewN | apply keep_drew | apply keep_alloc) | exact HK.out))) : w.heap.size ≤ gb368) : w0.heap.size ≤ gb368)); have NB0_368 := Aside0.mk ((by rw [hg]; exact Nat.ne_of_lt (IsS85.lt (show IsS85 w0 _ g s0_0 s0_1 from by repeat (first | (with_reducible first | exact HI0.out | apply IsS85.alloc | apply IsS85.drewN | apply IsS85.drew) | exact HI0.out))) : g ≠ gb368)); have NB368_0 := Aside0.mk ((by rw [hg]; exact Nat.ne_of_gt (IsS85.lt (show IsS85 w0 _ g s0_0 s0_1 from by repeat (first | (with_reducible first | exact HI0.out | apply IsS85.alloc | apply IsS85.drewN | apply IsS85.drew) | exact HI0.out))) : gb368 ≠ g)); replace HK := Aside0.mk (KeepBut.trans (by repeat (first | (with_reducible first | exact HK.out | apply KeepBut.set_ | apply keep_drewN | apply keep_drew | apply keep_alloc) | exact HK.out)) (KeepBut.of_below hb g none) (.inl rfl)); replace HB := Aside0.mk (below_step (by repeat (first | (with_reducible first | exact HB.out | apply below_alloc | apply pw_below_drewN | apply below_drew1 | refine below_set ?_ (IsS85.ge HI0.out)) | exact HB.out)) hb); replace HI0 := Aside0.mk (IsS85.below (by repeat (first | (with_reducible first | exact HI0.out | apply IsS85.alloc | apply IsS85.drewN | apply IsS85.drew) | exact HI0.out)) hb); clear hb hbox hg) | ((with_reducible refine gate_callee (f := 52) rfl ?_); refine gl_ (some 14) Try.func52 #[.pointer (some ⟨g, 0, none⟩), .int .i64 a1, .int .i64 a2] rfl ?_; (with_reducible refine (impl_tree_find.calls k g s0_0 s0_1 a1 a2 t369 w0 _ ?side1 ?side2 A5.out).mono ?_); (case side1 => repeat (first | (with_reducible first | exact HI0.out | apply IsS85.alloc | apply IsS85.drewN | apply IsS85.drew | refine IsS85.far ?_ (Aside0.out (by with_reducible assumption)) _) | exact HI0.out)); (case side2 => repeat (first | (with_reducible first | exact HB.out | apply below_alloc | apply pw_below_drewN | apply below_drew1 | refine below_set ?_ (IsS85.ge HI0.out) | refine below_set ?_ GE368.out) | exact HB.out)); rintro e w20 ⟨rfl, hi, hb, hk⟩; refine ⟨_, rfl, ?_⟩; replace BK368 := Aside0.mk (KeepBut.blk hk (g' := gb368) (o := .cells #[.int .i64 0, .int .i64 0, .int .i64 0, .string (⟨#[]⟩ : ByteArray), .int .i64 0] 57 (0, 0)) (blk_later BK368.out) NB368_0.out (by simp)); replace HK := Aside0.mk (KeepBut.trans (keep_later HK.out) hk (.inl rfl)); replace HB := Aside0.mk (hb); replace HI0 := Aside0.mk (hi); (try clear hb); (try clear hk); (try clear hi); obtain ⟨ASz21_0, cSz21_0, ASz21_1, cSz21_1, HGz21, hgz21, HSz21_0, HSz21_1⟩ := HI0.out; have hcz21_0 := cellS85_0 HGz21; have hcz21_1 := cellS85_1 HGz21; clear HGz21 hgz21; have p370 : 0 ≤ (t369 : Int) := dcd; have q370 : t369 < (s0_0.length : Int) := dcd; obtain ⟨ad370, e370, hx370_0, hx370_1, hx370_2, hx370_3, hx370_4⟩ := at_T57 HSz21_0 t369 p370 q370; cases e370; replace hx370_0 := pw_cell_below HB.out hx370_0; replace hx370_1 := pw_cell_below HB.out hx370_1; replace hx370_2 := pw_cell_below HB.out hx370_2; replace hx370_3 := pw_cell_below HB.out hx370_3; replace hx370_4 := pw_cell_below HB.out hx370_4; replace p370 := eq_true p370; replace q370 := eq_true q370; have hnb22 := NB368_0.out; have hnc22 := NB0_368.out; obtain ⟨hcz23_0, hcz23_1, hcz23_2, hcz23_3, hcz23_4, hfz23_0, hfz23_1, hfz23_2, hfz23_3, hfz23_4⟩ := cl5 BK368))
      refine bodyPost_ret (results_ct rfl _ _ gb368 57 #[.int .i64 0, .int .i64 0, .int .i64 0, .string (⟨#[]⟩ : ByteArray), .int .i64 0] (0, 0) _ rfl (by (with_reducible repeat (first | refine blk_drewN ?_ _ | refine blk_drew ?_ | refine blk_alloc ?_ _)); refine blk_put (cs := #[.int .i64 0, .int .i64 0, .int .i64 0, .string (⟨#[]⟩ : ByteArray), .int .i64 0]) ?_ 4 _ rfl; (with_reducible repeat (first | refine blk_drewN ?_ _ | refine blk_drew ?_ | refine blk_alloc ?_ _)); refine blk_put (cs := #[.int .i64 0, .int .i64 0, .int .i64 0, .string (⟨#[]⟩ : ByteArray), .int .i64 0]) ?_ 3 _ rfl; (with_reducible repeat (first | refine blk_drewN ?_ _ | refine blk_drew ?_ | refine blk_alloc ?_ _)); refine blk_put (cs := #[.int .i64 0, .int .i64 0, .int .i64 0, .string (⟨#[]⟩ : ByteArray), .int .i64 0]) ?_ 2 _ rfl; (with_reducible repeat (first | refine blk_drewN ?_ _ | refine blk_drew ?_ | refine blk_alloc ?_ _)); refine blk_put (cs := #[.int .i64 0, .int .i64 0, .int .i64 0, .string (⟨#[]⟩ : ByteArray), .int .i64 0]) ?_ 1 _ rfl; (with_reducible repeat (first | refine blk_drewN ?_ _ | refine blk_drew ?_ | refine blk_alloc ?_ _)); refine blk_put (cs := #[.int .i64 0, .int .i64 0, .int .i64 0, .string (⟨#[]⟩ : ByteArray), .int .i64 0]) ?_ 0 _ rfl; (with_reducible repeat (first | refine blk_drewN ?_ _ | refine blk_drew ?_ | refine blk_alloc ?_ _)); exact BK368.out) Try.underlying57 rfl (by kernel_rfl)) rfl ?_
      exact ⟨by first | rfl | (simp [errW_none, errW_some] <;> rfl) | (simp [*, errW_none, errW_some] <;> rfl), by repeat (first | (with_reducible first | exact HI0.out | apply IsS85.alloc | apply IsS85.drewN | apply IsS85.drew | refine IsS85.far ?_ (Aside0.out (by with_reducible assumption)) _) | exact HI0.out), by repeat (first | (with_reducible first | exact HB.out | apply below_alloc | apply pw_below_drewN | apply below_drew1 | refine below_set ?_ (IsS85.ge HI0.out) | refine below_set ?_ GE368.out) | exact HB.out), keep_later HK.out⟩
/-! ### impl_ValOk: function 77 -/
def impl_ValOk.f (a0 : Int) (a1_0 : Int) (a1_1 : ByteArray) : Option (Bool) := if a0 = 0 then ((impl_within.f a1_0 0 1).bind fun t373 => (if t373 = true then (some (a1_1.toList == ([] : List UInt8))) else (some false))) else (if a0 = 1 then ((impl_isInt32.f a1_0).bind fun t374 => (if t374 = true then (some (a1_1.toList == ([] : List UInt8))) else (some false))) else (if a0 = 2 then (some (a1_1.toList == ([] : List UInt8))) else (if a0 = 5 then (some (a1_1.toList == ([] : List UInt8))) else (if a0 = 6 then (if a1_0 = 0 then (some (decide ((a1_1.size : Int) ≤ 40))) else (some false)) else (some false)))))
set_option maxHeartbeats 8000000 in
set_option maxRecDepth 100000 in
theorem impl_ValOk.calls (a0 : Int) (a1_0 : Int) (a1_1 : ByteArray) (r : Bool) (w : World) (h : impl_ValOk.f a0 a1_0 a1_1 = some r) :
    Calls Try.prog 77 #[.int .i64 a0, .agg #[.int .i64 a1_0, .string a1_1]] w fun e w' => e = .returned (.bool r) ∧ Below w.heap.size w w' := by
  have hu27 := Try.underlying27
  have HB := Aside0.mk (Below.refl w.heap.size w)
  have H : (if a0 = 0 then ((impl_within.f a1_0 0 1).bind fun t373 => (if t373 = true then (some (a1_1.toList == ([] : List UInt8))) else (some false))) else (if a0 = 1 then ((impl_isInt32.f a1_0).bind fun t374 => (if t374 = true then (some (a1_1.toList == ([] : List UInt8))) else (some false))) else (if a0 = 2 then (some (a1_1.toList == ([] : List UInt8))) else (if a0 = 5 then (some (a1_1.toList == ([] : List UInt8))) else (if a0 = 6 then (if a1_0 = 0 then (some (decide ((a1_1.size : Int) ≤ 40))) else (some false)) else (some false)))))) = some r := h
  clear h
  by_cases c3 : a0 = 0
  · rw [if_pos c3] at H
    have c3b0 : (a0 == 0) = true := beq_iff_eq.mpr c3
    have c3b1 : (a0 != 0) = false := bne_eq_false_iff_eq.mpr c3
    clear c3
    replace H := bnd H
    obtain ⟨t373, A4, H⟩ := H
    by_cases c5 : t373 = true
    · subst c5
      replace H := ifp rfl H
      obtain rfl := Option.some.inj H
      go_enter Try.func77, Try.ntmps77
      go_wp2_with (first | ((with_reducible refine gate_dst (N := 3) rfl ?_); (try (refine gate_guard (by rfl) ?_; dsimp only)); refine bx_ 3 #[.int .i64 a1_0, .string a1_1] 27 ?_; intro gb372 hg w6 hbox hb; have BK372 := Aside0.mk (hbox); have GW372 := gwe HB hg; have GE372 := GW372; replace HB := bst HB hb; clear hb hbox hg; obtain ⟨hcz7_0, hcz7_1, hfz7_0, hfz7_1⟩ := cl2 BK372) | ((with_reducible refine gate_callee (f := 48) rfl ?_); refine gl_ (some 10) Try.func48 #[.int .i64 a1_0, .int .i64 0, .int .i64 1] rfl ?_; (with_reducible refine (impl_within.calls a1_0 0 1 true _ A4.out).mono ?_); rintro e w' ⟨rfl, ⟨nd, rfl⟩⟩; refine ⟨_, rfl, ?_⟩))
      go_ret
      exact fin_ (below_later HB.out)
    · replace c5 := Bool.eq_false_iff.mpr c5
      subst c5
      replace H := ifn Bool.false_ne_true H
      obtain rfl := Option.some.inj H
      go_enter Try.func77, Try.ntmps77
      go_wp2_with (first | ((with_reducible refine gate_dst (N := 3) rfl ?_); (try (refine gate_guard (by rfl) ?_; dsimp only)); refine bx_ 3 #[.int .i64 a1_0, .string a1_1] 27 ?_; intro gb372 hg w8 hbox hb; have BK372 := Aside0.mk (hbox); have GW372 := gwe HB hg; have GE372 := GW372; replace HB := bst HB hb; clear hb hbox hg; obtain ⟨hcz9_0, hcz9_1, hfz9_0, hfz9_1⟩ := cl2 BK372) | ((with_reducible refine gate_callee (f := 48) rfl ?_); refine gl_ (some 10) Try.func48 #[.int .i64 a1_0, .int .i64 0, .int .i64 1] rfl ?_; (with_reducible refine (impl_within.calls a1_0 0 1 false _ A4.out).mono ?_); rintro e w' ⟨rfl, ⟨nd, rfl⟩⟩; refine ⟨_, rfl, ?_⟩))
      go_ret
      exact fin_ (below_later HB.out)
  · rw [if_neg c3] at H
    have c3b0 : (a0 == 0) = false := beq_eq_false_iff_ne.mpr c3
    have c3b1 : (a0 != 0) = true := bne_iff_ne.mpr c3
    by_cases c10 : a0 = 1
    · rw [if_pos c10] at H
      have c10b0 : (a0 == 1) = true := beq_iff_eq.mpr c10
      have c10b1 : (a0 != 1) = false := bne_eq_false_iff_eq.mpr c10
      clear c10
      replace H := bnd H
      obtain ⟨t374, A11, H⟩ := H
      by_cases c12 : t374 = true
      · subst c12
        replace H := ifp rfl H
        obtain rfl := Option.some.inj H
        go_enter Try.func77, Try.ntmps77
        go_wp2_with (first | ((with_reducible refine gate_dst (N := 3) rfl ?_); (try (refine gate_guard (by rfl) ?_; dsimp only)); refine bx_ 3 #[.int .i64 a1_0, .string a1_1] 27 ?_; intro gb372 hg w13 hbox hb; have BK372 := Aside0.mk (hbox); have GW372 := gwe HB hg; have GE372 := GW372; replace HB := bst HB hb; clear hb hbox hg; obtain ⟨hcz14_0, hcz14_1, hfz14_0, hfz14_1⟩ := cl2 BK372) | ((with_reducible refine gate_callee (f := 67) rfl ?_); refine gl_ (some 20) Try.func67 #[.int .i64 a1_0] rfl ?_; (with_reducible refine (impl_isInt32.calls a1_0 true _ A11.out).mono ?_); rintro e w' ⟨rfl, ⟨nd, rfl⟩⟩; refine ⟨_, rfl, ?_⟩))
        go_ret
        exact fin_ (below_later HB.out)
      · replace c12 := Bool.eq_false_iff.mpr c12
        subst c12
        replace H := ifn Bool.false_ne_true H
        obtain rfl := Option.some.inj H
        go_enter Try.func77, Try.ntmps77
        go_wp2_with (first | ((with_reducible refine gate_dst (N := 3) rfl ?_); (try (refine gate_guard (by rfl) ?_; dsimp only)); refine bx_ 3 #[.int .i64 a1_0, .string a1_1] 27 ?_; intro gb372 hg w15 hbox hb; have BK372 := Aside0.mk (hbox); have GW372 := gwe HB hg; have GE372 := GW372; replace HB := bst HB hb; clear hb hbox hg; obtain ⟨hcz16_0, hcz16_1, hfz16_0, hfz16_1⟩ := cl2 BK372) | ((with_reducible refine gate_callee (f := 67) rfl ?_); refine gl_ (some 20) Try.func67 #[.int .i64 a1_0] rfl ?_; (with_reducible refine (impl_isInt32.calls a1_0 false _ A11.out).mono ?_); rintro e w' ⟨rfl, ⟨nd, rfl⟩⟩; refine ⟨_, rfl, ?_⟩))
        go_ret
        exact fin_ (below_later HB.out)
    · rw [if_neg c10] at H
      have c10b0 : (a0 == 1) = false := beq_eq_false_iff_ne.mpr c10
      have c10b1 : (a0 != 1) = true := bne_iff_ne.mpr c10
      by_cases c17 : a0 = 2
      · rw [if_pos c17] at H
        have c17b0 : (a0 == 2) = true := beq_iff_eq.mpr c17
        have c17b1 : (a0 != 2) = false := bne_eq_false_iff_eq.mpr c17
        clear c17
        obtain rfl := Option.some.inj H
        go_enter Try.func77, Try.ntmps77
        go_wp2_with (first | ((with_reducible refine gate_dst (N := 3) rfl ?_); (try (refine gate_guard (by rfl) ?_; dsimp only)); refine bx_ 3 #[.int .i64 a1_0, .string a1_1] 27 ?_; intro gb372 hg w18 hbox hb; have BK372 := Aside0.mk (hbox); have GW372 := gwe HB hg; have GE372 := GW372; replace HB := bst HB hb; clear hb hbox hg; obtain ⟨hcz19_0, hcz19_1, hfz19_0, hfz19_1⟩ := cl2 BK372))
        go_ret
        exact fin_ (below_later HB.out)
      · rw [if_neg c17] at H
        have c17b0 : (a0 == 2) = false := beq_eq_false_iff_ne.mpr c17
        have c17b1 : (a0 != 2) = true := bne_iff_ne.mpr c17
        by_cases c20 : a0 = 5
        · rw [if_pos c20] at H
          have c20b0 : (a0 == 5) = true := beq_iff_eq.mpr c20
          have c20b1 : (a0 != 5) = false := bne_eq_false_iff_eq.mpr c20
          clear c20
          obtain rfl := Option.some.inj H
          go_enter Try.func77, Try.ntmps77
          go_wp2_with (first | ((with_reducible refine gate_dst (N := 3) rfl ?_); (try (refine gate_guard (by rfl) ?_; dsimp only)); refine bx_ 3 #[.int .i64 a1_0, .string a1_1] 27 ?_; intro gb372 hg w21 hbox hb; have BK372 := Aside0.mk (hbox); have GW372 := gwe HB hg; have GE372 := GW372; replace HB := bst HB hb; clear hb hbox hg; obtain ⟨hcz22_0, hcz22_1, hfz22_0, hfz22_1⟩ := cl2 BK372))
          go_ret
          exact fin_ (below_later HB.out)
        · rw [if_neg c20] at H
          have c20b0 : (a0 == 5) = false := beq_eq_false_iff_ne.mpr c20
          have c20b1 : (a0 != 5) = true := bne_iff_ne.mpr c20
          by_cases c23 : a0 = 6
          · rw [if_pos c23] at H
            have c23b0 : (a0 == 6) = true := beq_iff_eq.mpr c23
            have c23b1 : (a0 != 6) = false := bne_eq_false_iff_eq.mpr c23
            clear c23
            by_cases c24 : a1_0 = 0
            · rw [if_pos c24] at H
              have c24b0 : (a1_0 == 0) = true := beq_iff_eq.mpr c24
              have c24b1 : (a1_0 != 0) = false := bne_eq_false_iff_eq.mpr c24
              clear c24
              obtain rfl := Option.some.inj H
              go_enter Try.func77, Try.ntmps77
              go_wp2_with (first | ((with_reducible refine gate_dst (N := 3) rfl ?_); (try (refine gate_guard (by rfl) ?_; dsimp only)); refine bx_ 3 #[.int .i64 a1_0, .string a1_1] 27 ?_; intro gb372 hg w25 hbox hb; have BK372 := Aside0.mk (hbox); have GW372 := gwe HB hg; have GE372 := GW372; replace HB := bst HB hb; clear hb hbox hg; obtain ⟨hcz26_0, hcz26_1, hfz26_0, hfz26_1⟩ := cl2 BK372))
              go_ret
              exact fin_ (below_later HB.out)
            · rw [if_neg c24] at H
              have c24b0 : (a1_0 == 0) = false := beq_eq_false_iff_ne.mpr c24
              have c24b1 : (a1_0 != 0) = true := bne_iff_ne.mpr c24
              obtain rfl := Option.some.inj H
              go_enter Try.func77, Try.ntmps77
              go_wp2_with (first | ((with_reducible refine gate_dst (N := 3) rfl ?_); (try (refine gate_guard (by rfl) ?_; dsimp only)); refine bx_ 3 #[.int .i64 a1_0, .string a1_1] 27 ?_; intro gb372 hg w27 hbox hb; have BK372 := Aside0.mk (hbox); have GW372 := gwe HB hg; have GE372 := GW372; replace HB := bst HB hb; clear hb hbox hg; obtain ⟨hcz28_0, hcz28_1, hfz28_0, hfz28_1⟩ := cl2 BK372))
              go_ret
              exact fin_ (below_later HB.out)
          · rw [if_neg c23] at H
            have c23b0 : (a0 == 6) = false := beq_eq_false_iff_ne.mpr c23
            have c23b1 : (a0 != 6) = true := bne_iff_ne.mpr c23
            obtain rfl := Option.some.inj H
            go_enter Try.func77, Try.ntmps77
            go_wp2_with (first | ((with_reducible refine gate_dst (N := 3) rfl ?_); (try (refine gate_guard (by rfl) ?_; dsimp only)); refine bx_ 3 #[.int .i64 a1_0, .string a1_1] 27 ?_; intro gb372 hg w29 hbox hb; have BK372 := Aside0.mk (hbox); have GW372 := gwe HB hg; have GE372 := GW372; replace HB := bst HB hb; clear hb hbox hg))
            go_ret
            exact fin_ (below_later HB.out)

/-! ### impl_BitsSize: function 106 -/
def impl_BitsSize.f (a0 : Int) (a1 : Int) : Option (Int) := (impl_within.f a0 0 2000).bind fun t375 => (if t375 = true then ((impl_within.f a1 0 62).bind fun t376 => (if t376 = true then (some (wrap64 (Int.tdiv (wrap64 ((wrap64 (a0 * a1)) + 7)) 8))) else (some (-1)))) else (some (-1)))
set_option maxHeartbeats 8000000 in
set_option maxRecDepth 100000 in
theorem impl_BitsSize.calls (a0 : Int) (a1 : Int) (r : Int) (w : World) (h : impl_BitsSize.f a0 a1 = some r) :
    Calls Try.prog 106 #[.int .i64 a0, .int .i64 a1] w fun e w' => e = .returned (.int .i64 r) ∧ Drawn0 w w' := by
  have H : ((impl_within.f a0 0 2000).bind fun t375 => (if t375 = true then ((impl_within.f a1 0 62).bind fun t376 => (if t376 = true then (some (wrap64 (Int.tdiv (wrap64 ((wrap64 (a0 * a1)) + 7)) 8))) else (some (-1)))) else (some (-1)))) = some r := h
  clear h
  replace H := bnd H
  obtain ⟨t375, A3, H⟩ := H
  by_cases c4 : t375 = true
  · subst c4
    replace H := ifp rfl H
    replace H := bnd H
    obtain ⟨t376, A5, H⟩ := H
    by_cases c6 : t376 = true
    · subst c6
      replace H := ifp rfl H
      obtain rfl := Option.some.inj H
      go_enter Try.func106, Try.ntmps106
      go_wp2_with (first | ((with_reducible refine gate_callee (f := 48) rfl ?_); refine gl_ (some 6) Try.func48 #[.int .i64 a0, .int .i64 0, .int .i64 2000] rfl ?_; (with_reducible refine (impl_within.calls a0 0 2000 true _ A3.out).mono ?_); rintro e w' ⟨rfl, ⟨nd, rfl⟩⟩; refine ⟨_, rfl, ?_⟩) | (go_at_call 48; (with_reducible refine (impl_within.calls a1 0 62 true _ A5.out).mono ?_); rintro e w' ⟨rfl, ⟨nd, rfl⟩⟩))
      go_ret
      exact ⟨by first | rfl | (simp; done) | (simp [*]; done), by repeat (first | exact Drawn0.refl _ | apply Drawn0.step)⟩
    · replace c6 := Bool.eq_false_iff.mpr c6
      subst c6
      replace H := ifn Bool.false_ne_true H
      obtain rfl := Option.some.inj H
      go_enter Try.func106, Try.ntmps106
      go_wp2_with (first | ((with_reducible refine gate_callee (f := 48) rfl ?_); refine gl_ (some 6) Try.func48 #[.int .i64 a0, .int .i64 0, .int .i64 2000] rfl ?_; (with_reducible refine (impl_within.calls a0 0 2000 true _ A3.out).mono ?_); rintro e w' ⟨rfl, ⟨nd, rfl⟩⟩; refine ⟨_, rfl, ?_⟩) | (go_at_call 48; (with_reducible refine (impl_within.calls a1 0 62 false _ A5.out).mono ?_); rintro e w' ⟨rfl, ⟨nd, rfl⟩⟩))
      go_ret
      exact ⟨by first | rfl | (simp; done) | (simp [*]; done), by repeat (first | exact Drawn0.refl _ | apply Drawn0.step)⟩
  · replace c4 := Bool.eq_false_iff.mpr c4
    subst c4
    replace H := ifn Bool.false_ne_true H
    obtain rfl := Option.some.inj H
    go_enter Try.func106, Try.ntmps106
    go_wp2_with (first | ((with_reducible refine gate_callee (f := 48) rfl ?_); refine gl_ (some 6) Try.func48 #[.int .i64 a0, .int .i64 0, .int .i64 2000] rfl ?_; (with_reducible refine (impl_within.calls a0 0 2000 false _ A3.out).mono ?_); rintro e w' ⟨rfl, ⟨nd, rfl⟩⟩; refine ⟨_, rfl, ?_⟩))
    go_ret
    exact ⟨by first | rfl | (simp; done) | (simp [*]; done), by repeat (first | exact Drawn0.refl _ | apply Drawn0.step)⟩

/-! ### impl_BitAt: function 114 -/
def impl_BitAt.f (l0 : List Int) (a1 : Int) : Option (Int) := if a1 < 0 then (some (-1)) else (if (wrap64 (Int.tdiv a1 8)) ≥ (l0.length : Int) then (some (-1)) else (if 0 ≤ (wrap64 (Int.tdiv a1 8)) then (if (wrap64 (Int.tdiv a1 8)) < (l0.length : Int) then (if 0 ≤ (Int.tmod a1 8) then (some (wrap64 (Go.bits .and .u8 (shr .u8 (rd l0 (wrap64 (Int.tdiv a1 8))) (Int.tmod a1 8)) 1))) else (none)) else (none)) else (none)))
set_option maxHeartbeats 8000000 in
set_option maxRecDepth 100000 in
theorem impl_BitAt.calls (A0 : Option Addr) (c0 : Nat) (l0 : List Int) (a1 : Int) (r : Int) (w : World) (hr0 : Kd.C (Kd.int .u8) w A0 l0.length l0) (hc0 : l0.length ≤ c0) (h : impl_BitAt.f l0 a1 = some r) :
    Calls Try.prog 114 #[.slice A0 l0.length c0, .int .i64 a1] w fun e w' => e = .returned (.int .i64 r) ∧ Drawn0 w w' := by
  have HR0 := Aside0.mk hr0
  have HC0 := Aside0.mk hc0
  clear hr0 hc0
  have H : (if a1 < 0 then (some (-1)) else (if (wrap64 (Int.tdiv a1 8)) ≥ (l0.length : Int) then (some (-1)) else (if 0 ≤ (wrap64 (Int.tdiv a1 8)) then (if (wrap64 (Int.tdiv a1 8)) < (l0.length : Int) then (if 0 ≤ (Int.tmod a1 8) then (some (wrap64 (Go.bits .and .u8 (shr .u8 (rd l0 (wrap64 (Int.tdiv a1 8))) (Int.tmod a1 8)) 1))) else (none)) else (none)) else (none)))) = some r := h
  clear h
  by_cases c3 : a1 < 0
  · rw [if_pos c3] at H
    have c3b0 := decide_eq_true c3
    clear c3
    obtain rfl := Option.some.inj H
    go_enter Try.func114, Try.ntmps114
    go_wp2
    go_ret
    exact ⟨by first | rfl | (simp; done) | (simp [*]; done), by repeat (first | exact Drawn0.refl _ | apply Drawn0.step)⟩
  · rw [if_neg c3] at H
    have c3b0 := decide_eq_false c3
    clear c3
    by_cases c4 : (wrap64 (Int.tdiv a1 8)) ≥ (l0.length : Int)
    · rw [if_pos c4] at H
      have c4b0 : decide ((l0.length : Int) ≤ (wrap64 (Int.tdiv a1 8))) = true := decide_eq_true c4
      clear c4
      obtain rfl := Option.some.inj H
      go_enter Try.func114, Try.ntmps114
      go_wp2
      go_ret
      exact ⟨by first | rfl | (simp; done) | (simp [*]; done), by repeat (first | exact Drawn0.refl _ | apply Drawn0.step)⟩
    · rw [if_neg c4] at H
      have c4b0 : decide ((l0.length : Int) ≤ (wrap64 (Int.tdiv a1 8))) = false := decide_eq_false c4
      clear c4
      obtain ⟨ji5, hji5⟩ : ∃ j_ : Int, (wrap64 (Int.tdiv a1 8)) = j_ := ⟨_, rfl⟩
      replace H : (if 0 ≤ (ji5) then (if (ji5) < (l0.length : Int) then (if 0 ≤ (Int.tmod a1 8) then (some (wrap64 (Go.bits .and .u8 (shr .u8 (rd l0 (ji5)) (Int.tmod a1 8)) 1))) else (none)) else (none)) else (none)) = some r := by first | (rw [hji5] at H; exact H) | (simp only [hji5] at H ⊢; exact H)
      (try rw [hji5] at c4b0)
      have hji5w : (IntKind.i64.wrap (Int.tdiv a1 8)) = ji5 := (i64_w _).trans hji5
      replace H := ifd H
      obtain ⟨c6b0, H⟩ := H
      replace H := ifd H
      obtain ⟨c7b0, H⟩ := H
      obtain ⟨ji8, hji8⟩ : ∃ j_ : Int, (Int.tmod a1 8) = j_ := ⟨_, rfl⟩
      replace H : (if 0 ≤ (ji8) then (some (wrap64 (Go.bits .and .u8 (shr .u8 (rd l0 (ji5)) (ji8)) 1))) else (none)) = some r := by first | (rw [hji8] at H; exact H) | (simp only [hji8] at H ⊢; exact H)
      replace H := ifs H
      obtain ⟨c9, H⟩ := H
      have c9b0 := eq_true c9
      have c9b1 := decide_eq_true c9
      clear c9
      obtain ⟨ji10, hji10⟩ : ∃ j_ : Int, (shr .u8 (rd l0 (ji5)) (ji8)) = j_ := ⟨_, rfl⟩
      replace H : (some (wrap64 (Go.bits .and .u8 (ji10) 1))) = some r := by first | (rw [hji10] at H; exact H) | (simp only [hji10] at H ⊢; exact H)
      have hji10_ : ((rd l0 (ji5)) / 2 ^ min (ji8).toNat 8) = ji10 := hji10
      have hji10z : (ji8) ≤ 8 → ((rd l0 (ji5)) / 2 ^ (ji8).toNat) = ji10 := shr_small hji10
      obtain rfl := Option.some.inj H
      have p377 : 0 ≤ ((ji5) : Int) := dcd
      have q377 : (ji5) < (l0.length : Int) := dcd
      obtain ⟨ad377, e377, hx377_0⟩ := Kd.at_int HR0.out (ji5) p377 q377
      cases e377
      replace p377 := eq_true p377
      replace q377 := eq_true q377
      go_enter Try.func114, Try.ntmps114
      go_wp2
      go_ret
      exact ⟨by first | rfl | (simp; done) | (simp only [← hji5, ← hji8, ← hji10] <;> (first | rfl | simp)) | (simp [*]; done), by repeat (first | exact Drawn0.refl _ | apply Drawn0.step)⟩
/-! ### impl_unpacked: function 107 -/
mutual
def impl_unpacked.l0 : Nat → List Int → Int → Int → List Int → Int → Int → Option (List Int)
  | 0, _, _, _, _, _, _ => none
  | k + 1, x0, x1, x3, x9, x14, x15 => if x15 < x14 then (impl_unpacked.l1 k x0 x1 x3 x9 x15 0 x14 x15 x3 0) else (some x9)
def impl_unpacked.l1 : Nat → List Int → Int → Int → List Int → Int → Int → Int → Int → Int → Int → Option (List Int)
  | 0, _, _, _, _, _, _, _, _, _, _ => none
  | k + 1, x0, x1, x3, x9, x10, x11, x14, x15, x18, x19 => if x19 < x18 then ((impl_BitAt.f x0 (wrap64 ((wrap64 ((wrap64 (8 * x1)) + (wrap64 (x10 * x3)))) + x19))).bind fun t381 => (if 0 ≤ x19 then (impl_unpacked.l1 k x0 x1 x3 x9 x10 (Go.bits .or .i64 x11 (shl .i64 t381 x19)) x14 x15 x18 (wrap64 (x19 + 1))) else (none))) else (if x9.length < 17592186044416 then (impl_unpacked.l0 k x0 x1 x3 (x9 ++ [x11]) x14 (wrap64 (x15 + 1))) else (none))
end
def impl_unpacked.f (k : Nat) (l0 : List Int) (a1 : Int) (a2 : Int) (a3 : Int) : Option (List Int) := impl_unpacked.l0 k l0 a1 a3 (([] : List Int)) a2 0
set_option maxHeartbeats 8000000 in
set_option maxRecDepth 100000 in
theorem impl_unpacked.calls (k : Nat) (A0 : Option Addr) (c0 : Nat) (l0 : List Int) (a1 : Int) (a2 : Int) (a3 : Int) (r : List Int) (w : World) (hr0 : Kd.C (Kd.int .u8) w A0 l0.length l0) (hc0 : l0.length ≤ c0) (h : impl_unpacked.f k l0 a1 a2 a3 = some r) :
    Calls Try.prog 107 #[.slice A0 l0.length c0, .int .i64 a1, .int .i64 a2, .int .i64 a3] w fun e w' => ∃ v0_ : Value, e = .returned (v0_) ∧ Kd.R (Kd.int .i64) 3 w' w.heap.size (fun _ => True) v0_ r ∧ Below w.heap.size w w' := by
  have HR0 := Aside0.mk hr0
  have HC0 := Aside0.mk hc0
  clear hr0 hc0
  have HB := Aside0.mk (Below.refl w.heap.size w)
  have H : (impl_unpacked.l0 k l0 a1 a3 (([] : List Int)) a2 0) = some r := h
  clear h
  obtain ⟨y378, hy378⟩ : ∃ y_ : List Int, y_ = (([] : List Int)) := ⟨_, rfl⟩
  replace H : (impl_unpacked.l0 k l0 a1 a3 y378 a2 0) = some r := by first | (rw [hy378]; with_reducible exact H) | (rw [hy378]; exact H) | exact H
  have Ny378 := Aside0.mk hy378
  clear hy378
  have H' := Aside0.mk H
  clear H
  go_enter Try.func107, Try.ntmps107
  go_wp2_with (first | ((with_reducible refine gate_dst (N := 13) rfl ?_); refine Kd.R_lit (Kd.int .i64) _ 3 ?hg (N := 13) ?hd (xs := ([] : List Int)) (inner := []) (ok := fun _ => True) (okp := fun _ => True) ?hr ?hp (fun _ hk => hk) trivial (Below.refl _ _) (Nat.le_refl _) (by simp) ?_; (case hd => rfl); (case hg => rfl); (case hr => first | (go_simp; done) | (go_simp; rfl)); (case hp => exact (Reps.none _ _)); intro v379 w5 ho6 hb hg_ hnew_; clear hg_ hnew_; (first | rw [← Ny378.out] at ho6 | (simp only [Int.reduceToNat] at ho6; rw [← Ny378.out] at ho6)); have HO380 := Aside0.mk (Kd.R_lower ho6 (below_size (below_later HB.out))); replace HB := bst HB hb; clear hb ho6))
  go_loopg [9, 15] k (fun kq v9 v15 w' => ∃ (x9_1 : List Int) (x15_1 : Int), v15 = .int .i64 x15_1 ∧ Aside0 (impl_unpacked.l0 kq l0 a1 a3 x9_1 a2 x15_1 = some r) ∧ Aside0 (kq ≤ k) ∧ Aside0 (Kd.R (Kd.int .i64) 3 w' w.heap.size (fun _ => True) v9 x9_1) ∧ Aside0 (Below w.heap.size w w'))
  case atStart => exact ⟨(y378), (0), sr, H', ⟨Nat.le_refl _⟩, ⟨R_later HO380.out⟩, ⟨below_later HB.out⟩⟩
  case round =>
    clear H'
    obtain ⟨x9_1, x15_1, rfl, HA, HK1, HO_9, HB⟩ := hrel
    cases gk with
    | zero => exact absurd HA.out (by simp [impl_unpacked.l0])
    | succ k1 =>
      have H := HA.out
      clear HA
      simp only [impl_unpacked.l0] at H
      by_cases c7 : x15_1 < a2
      · rw [if_pos c7] at H
        have c7b0 := decide_eq_true c7
        clear c7
        have H' := Aside0.mk H
        clear H
        go_wp2
        go_loopg [11, 19] k1 (fun kq v11 v19 w' => ∃ (x11_2 : Int) (x19_2 : Int), v11 = .int .i64 x11_2 ∧ v19 = .int .i64 x19_2 ∧ Aside0 (impl_unpacked.l1 kq l0 a1 a3 x9_1 x15_1 x11_2 a2 x15_1 a3 x19_2 = some r) ∧ Aside0 (kq ≤ k1) ∧ Aside0 (Kd.R (Kd.int .i64) 3 w' w.heap.size (fun _ => True) u9 x9_1) ∧ Aside0 (Below w.heap.size w w'))
        case atStart => exact ⟨(0), (0), sr, sr, H', ⟨Nat.le_refl _⟩, ⟨R_later HO_9.out⟩, ⟨below_later HB.out⟩⟩
        case round =>
          clear H'
          try clear c7
          try clear c7b0
          obtain ⟨x11_2, x19_2, rfl, rfl, HA, HK2, HO_9, HB⟩ := hrel
          cases gk with
          | zero => exact absurd HA.out (by simp [impl_unpacked.l1])
          | succ k2 =>
            have H := HA.out
            clear HA
            simp only [impl_unpacked.l1] at H
            by_cases c8 : x19_2 < a3
            · rw [if_pos c8] at H
              have c8b0 := decide_eq_true c8
              clear c8
              replace H := bnd H
              obtain ⟨t381, A9, H⟩ := H
              replace H := ifs H
              obtain ⟨c10, H⟩ := H
              have c10b0 := eq_true c10
              have c10b1 := decide_eq_true c10
              clear c10
              obtain ⟨ji11, hji11⟩ : ∃ j_ : Int, (shl .i64 t381 x19_2) = j_ := ⟨_, rfl⟩
              replace H : (impl_unpacked.l1 k2 l0 a1 a3 x9_1 x15_1 (Go.bits .or .i64 x11_2 (ji11)) a2 x15_1 a3 (wrap64 (x19_2 + 1))) = some r := by first | (rw [hji11] at H; exact H) | (simp only [hji11] at H ⊢; exact H)
              (try rw [hji11] at A9)
              have hji11_ : (IntKind.i64.wrap (t381 * 2 ^ min x19_2.toNat 64)) = ji11 := hji11
              have hji11z : x19_2 ≤ 64 → (IntKind.i64.wrap (t381 * 2 ^ x19_2.toNat)) = ji11 := shl_small hji11
              have hji11y : (wrap64 (t381 * 2 ^ min x19_2.toNat 64)) = ji11 := (i64_w _).symm.trans hji11_
              have hji11x : x19_2 ≤ 64 → (wrap64 (t381 * 2 ^ x19_2.toNat)) = ji11 := fun h_ => (i64_w _).symm.trans (hji11z h_)
              have H' := Aside0.mk H
              clear H
              go_wp2_with (first | ((with_reducible refine gate_callee (f := 114) rfl ?_); refine gl_ (some 32) Try.func114 #[.slice A0 l0.length c0, .int .i64 (wrap64 ((wrap64 ((wrap64 (8 * a1)) + (wrap64 (x15_1 * a3)))) + x19_2))] rfl ?_; (with_reducible refine (impl_BitAt.calls _ _ l0 (wrap64 ((wrap64 ((wrap64 (8 * a1)) + (wrap64 (x15_1 * a3)))) + x19_2)) t381 _ ?side1 ?side2 A9.out).mono ?_); (case side1 => repeat (first | exact (Kd.C_below HR0.out HB.out) | (with_reducible refine Kd.C_alloc ?_ _) | (with_reducible refine Kd.C_drewN ?_ _) | (with_reducible refine Kd.C_drew ?_))); (case side2 => exact HC0.out); rintro e w' ⟨rfl, ⟨nd, rfl⟩⟩; refine ⟨_, rfl, ?_⟩))
              go_roundg k2
              case measure => have := HK1.out; have := HK2.out; omega
              case rel => exact ⟨(Go.bits .or .i64 x11_2 (ji11)), (wrap64 (x19_2 + 1)), (by first | rfl | (simp; done) | (simp only [← hji11] <;> (first | rfl | simp)) | (simp [*]; done)), sr, H', ⟨by have := HK1.out; have := HK2.out; omega⟩, ⟨R_later HO_9.out⟩, ⟨below_later HB.out⟩⟩
            · rw [if_neg c8] at H
              have c8b0 := decide_eq_false c8
              clear c8
              replace H := ifs H
              obtain ⟨c12, H⟩ := H
              have LMc12 := Aside0.mk c12
              clear c12
              obtain ⟨y382, hy382⟩ : ∃ y_ : List Int, y_ = (x9_1 ++ [x11_2]) := ⟨_, rfl⟩
              replace H : (impl_unpacked.l0 k2 l0 a1 a3 y382 a2 (wrap64 (x15_1 + 1))) = some r := by first | (rw [hy382]; with_reducible exact H) | (rw [hy382]; exact H) | exact H
              have Ny382 := Aside0.mk hy382
              clear hy382
              have H' := Aside0.mk H
              clear H
              go_wp2_with (first | ((with_reducible refine gate_builtin (b := .append) (xs := #[.tmp 37, .tmp 39]) rfl ?_); at_builtin; refine Kd.R_append (Kd.int .i64) (w0 := w) w.heap.size rfl (.tmp 37) (.tmp 39) 83 3 (.int .i64 0) 8 rfl Try.underlying83 info3 rfl (by decide) (by omega) u9 x9_1 x11_2 [.int .i64 x11_2] (fun _ => True) (fun _ => False) rfl rfl ?aP (fun _ hk => hk.elim) ?aF ?aO ?aB ?aS ?aL ?_; (case aP => exact rfl); (case aB => exact (below_later HB.out)); (case aF => exact (fun _ _ => trivial)); (case aO => exact (R_later HO_9.out)); (case aS => exact (below_size (below_later HB.out))); (case aL => have := LMc12.out; omega); intro v383 w13 ho hb hg hat; rw [← Ny382.out] at ho; have n0_ := Aside0.mk (hb); have n1_ := Aside0.mk (ho); clear HB; clear HO_9; have HB := n0_; have HO384 := n1_; clear n0_ n1_; clear ho hb hg hat))
              go_roundg k2
              case measure => have := HK1.out; have := HK2.out; omega
              case rel => exact ⟨(y382), (wrap64 (x15_1 + 1)), sr, H', ⟨by have := HK1.out; have := HK2.out; omega⟩, ⟨R_later HO384.out⟩, ⟨below_later HB.out⟩⟩
      · rw [if_neg c7] at H
        have c7b0 := decide_eq_false c7
        clear c7
        obtain rfl := Option.some.inj H
        go_wp2
        go_ret
        exact ⟨_, by first | rfl | (simp [errW_none, errW_some] <;> rfl) | (simp [*, errW_none, errW_some] <;> rfl), by (with_reducible repeat (first | apply Kd.R_alloc | apply Kd.R_drewN | apply Kd.R_drew)); exact HO_9.out, below_later HB.out⟩

/-! ### impl_BitsRead: function 92 -/
def impl_BitsRead.f (k : Nat) (l0 : List Int) (a1 : Int) (a2 : Int) (a3 : Int) : Option (List Int × Int × Bool) := (impl_BitsSize.f a2 a3).bind fun t385 => (if t385 < 0 then (some (([] : List Int), 0, false)) else ((impl_within.f a1 0 (l0.length : Int)).bind fun t386 => (if t386 = true then (if t385 > (wrap64 ((l0.length : Int) - a1)) then (some (([] : List Int), 0, false)) else ((impl_unpacked.f k l0 a1 a2 a3).bind fun t387 => (some (t387, wrap64 (a1 + t385), true)))) else (some (([] : List Int), 0, false)))))
set_option maxHeartbeats 8000000 in
set_option maxRecDepth 100000 in
theorem impl_BitsRead.calls (k : Nat) (A0 : Option Addr) (c0 : Nat) (l0 : List Int) (a1 : Int) (a2 : Int) (a3 : Int) (r1 : List Int) (r2 : Int) (r3 : Bool) (w : World) (hr0 : Kd.C (Kd.int .u8) w A0 l0.length l0) (hc0 : l0.length ≤ c0) (h : impl_BitsRead.f k l0 a1 a2 a3 = some (r1, r2, r3)) :
    Calls Try.prog 92 #[.slice A0 l0.length c0, .int .i64 a1, .int .i64 a2, .int .i64 a3] w fun e w' => ∃ v0_ : Value, e = .returned (.tuple #[v0_, .int .i64 r2, .bool r3]) ∧ Kd.R (Kd.int .i64) 3 w' w.heap.size (fun _ => True) v0_ r1 ∧ Below w.heap.size w w' := by
  have HR0 := Aside0.mk hr0
  have HC0 := Aside0.mk hc0
  clear hr0 hc0
  have HB := Aside0.mk (Below.refl w.heap.size w)
  have H : ((impl_BitsSize.f a2 a3).bind fun t385 => (if t385 < 0 then (some (([] : List Int), 0, false)) else ((impl_within.f a1 0 (l0.length : Int)).bind fun t386 => (if t386 = true then (if t385 > (wrap64 ((l0.length : Int) - a1)) then (some (([] : List Int), 0, false)) else ((impl_unpacked.f k l0 a1 a2 a3).bind fun t387 => (some (t387, wrap64 (a1 + t385), true)))) else (some (([] : List Int), 0, false)))))) = some (r1, r2, r3) := h
  clear h
  replace H := bnd H
  obtain ⟨t385, A5, H⟩ := H
  by_cases c6 : t385 < 0
  · rw [if_pos c6] at H
    have c6b0 := decide_eq_true c6
    clear c6
    simp only [Option.some.injEq, Prod.mk.injEq] at H
    obtain ⟨rfl, rfl, rfl⟩ := H
    go_enter Try.func92, Try.ntmps92
    go_wp2_with (first | ((with_reducible refine gate_callee (f := 106) rfl ?_); refine gl_ (some 14) Try.func106 #[.int .i64 a2, .int .i64 a3] rfl ?_; (with_reducible refine (impl_BitsSize.calls a2 a3 t385 _ A5.out).mono ?_); rintro e w' ⟨rfl, ⟨nd, rfl⟩⟩; refine ⟨_, rfl, ?_⟩))
    go_ret3
    exact ⟨_, by first | rfl | (simp [errW_none, errW_some] <;> rfl) | (simp [*, errW_none, errW_some] <;> rfl), by first | exact Kd.R_nil _ _ _ _ _ | exact Kd.N_nil _ _ _ _ _ | exact Kd.V_nil _ _ _ _ _ | exact Kd.Q_nil _ _ _ _ _ | exact Kd.S_nil _ _ _ _ _, below_later HB.out⟩
  · rw [if_neg c6] at H
    have c6b0 := decide_eq_false c6
    clear c6
    replace H := bnd H
    obtain ⟨t386, A7, H⟩ := H
    by_cases c8 : t386 = true
    · subst c8
      replace H := ifp rfl H
      by_cases c9 : t385 > (wrap64 ((l0.length : Int) - a1))
      · rw [if_pos c9] at H
        have c9b0 : decide ((wrap64 ((l0.length : Int) - a1)) < t385) = true := decide_eq_true c9
        clear c9
        simp only [Option.some.injEq, Prod.mk.injEq] at H
        obtain ⟨rfl, rfl, rfl⟩ := H
        go_enter Try.func92, Try.ntmps92
        go_wp2_with (first | ((with_reducible refine gate_callee (f := 106) rfl ?_); refine gl_ (some 14) Try.func106 #[.int .i64 a2, .int .i64 a3] rfl ?_; (with_reducible refine (impl_BitsSize.calls a2 a3 t385 _ A5.out).mono ?_); rintro e w' ⟨rfl, ⟨nd, rfl⟩⟩; refine ⟨_, rfl, ?_⟩) | (go_at_call 48; (with_reducible refine (impl_within.calls a1 0 (l0.length : Int) true _ A7.out).mono ?_); rintro e w' ⟨rfl, ⟨nd, rfl⟩⟩))
        go_ret3
        exact ⟨_, by first | rfl | (simp [errW_none, errW_some] <;> rfl) | (simp [*, errW_none, errW_some] <;> rfl), by first | exact Kd.R_nil _ _ _ _ _ | exact Kd.N_nil _ _ _ _ _ | exact Kd.V_nil _ _ _ _ _ | exact Kd.Q_nil _ _ _ _ _ | exact Kd.S_nil _ _ _ _ _, below_later HB.out⟩
      · rw [if_neg c9] at H
        have c9b0 : decide ((wrap64 ((l0.length : Int) - a1)) < t385) = false := decide_eq_false c9
        clear c9
        replace H := bnd H
        obtain ⟨t387, A10, H⟩ := H
        simp only [Option.some.injEq, Prod.mk.injEq] at H
        obtain ⟨rfl, rfl, rfl⟩ := H
        go_enter Try.func92, Try.ntmps92
        go_wp2_with (first | ((with_reducible refine gate_callee (f := 106) rfl ?_); refine gl_ (some 14) Try.func106 #[.int .i64 a2, .int .i64 a3] rfl ?_; (with_reducible refine (impl_BitsSize.calls a2 a3 t385 _ A5.out).mono ?_); rintro e w' ⟨rfl, ⟨nd, rfl⟩⟩; refine ⟨_, rfl, ?_⟩) | (go_at_call 48; (with_reducible refine (impl_within.calls a1 0 (l0.length : Int) true _ A7.out).mono ?_); rintro e w' ⟨rfl, ⟨nd, rfl⟩⟩) | ((with_reducible refine gate_callee (f := 107) rfl ?_); refine gl_ (some 36) Try.func107 #[.slice A0 l0.length c0, .int .i64 a1, .int .i64 a2, .int .i64 a3] rfl ?_; (with_reducible refine (impl_unpacked.calls k _ _ l0 a1 a2 a3 t387 _ ?side1 ?side2 A10.out).mono ?_); (case side1 => exact C_later HR0.out); (case side2 => exact HC0.out); rintro e w11 ⟨v388, rfl, ho0, hb⟩; refine ⟨_, rfl, ?_⟩; have HO389 := Aside0.mk (Kd.R_lower ho0 (below_size (below_later HB.out))); replace HB := bst HB hb; (try clear hb); (try clear ho0)))
        go_ret3
        exact ⟨_, by first | rfl | (simp [errW_none, errW_some] <;> rfl) | (simp [*, errW_none, errW_some] <;> rfl), by (with_reducible repeat (first | apply Kd.R_alloc | apply Kd.R_drewN | apply Kd.R_drew)); exact HO389.out, below_later HB.out⟩
    · replace c8 := Bool.eq_false_iff.mpr c8
      subst c8
      replace H := ifn Bool.false_ne_true H
      simp only [Option.some.injEq, Prod.mk.injEq] at H
      obtain ⟨rfl, rfl, rfl⟩ := H
      go_enter Try.func92, Try.ntmps92
      go_wp2_with (first | ((with_reducible refine gate_callee (f := 106) rfl ?_); refine gl_ (some 14) Try.func106 #[.int .i64 a2, .int .i64 a3] rfl ?_; (with_reducible refine (impl_BitsSize.calls a2 a3 t385 _ A5.out).mono ?_); rintro e w' ⟨rfl, ⟨nd, rfl⟩⟩; refine ⟨_, rfl, ?_⟩) | (go_at_call 48; (with_reducible refine (impl_within.calls a1 0 (l0.length : Int) false _ A7.out).mono ?_); rintro e w' ⟨rfl, ⟨nd, rfl⟩⟩))
      go_ret3
      exact ⟨_, by first | rfl | (simp [errW_none, errW_some] <;> rfl) | (simp [*, errW_none, errW_some] <;> rfl), by first | exact Kd.R_nil _ _ _ _ _ | exact Kd.N_nil _ _ _ _ _ | exact Kd.V_nil _ _ _ _ _ | exact Kd.Q_nil _ _ _ _ _ | exact Kd.S_nil _ _ _ _ _, below_later HB.out⟩

/-! ### impl_valsOf: function 93 -/
def impl_valsOf.l0 : Nat → List (S27) → List Int → Int → Int → Option ((List (S27)))
  | 0, _, _, _, _ => none
  | k + 1, x3, x7, x8, x9 => if x9 < x8 then (if 0 ≤ x9 then (if x9 < (x7.length : Int) then (if x3.length < 5864062014805 then (impl_valsOf.l0 k (x3 ++ [(⟨rd x7 x9, (⟨#[]⟩ : ByteArray)⟩ : S27)]) x7 x8 (wrap64 (x9 + 1))) else (none)) else (none)) else (none)) else (some x3)
def impl_valsOf.f (k : Nat) (l0 : List Int) : Option ((List (S27))) := impl_valsOf.l0 k (([] : List (S27))) l0 (l0.length : Int) 0
set_option maxHeartbeats 8000000 in
set_option maxRecDepth 100000 in
theorem impl_valsOf.calls (k : Nat) (A0 : Option Addr) (c0 : Nat) (l0 : List Int) (r : List (S27)) (w : World) (hr0 : Kd.C (Kd.int .i64) w A0 l0.length l0) (hc0 : l0.length ≤ c0) (h : impl_valsOf.f k l0 = some r) :
    Calls Try.prog 93 #[.slice A0 l0.length c0] w fun e w' => ∃ v0_ : Value, e = .returned (v0_) ∧ Kd.R k27 27 w' w.heap.size (fun _ => True) v0_ r ∧ Below w.heap.size w w' := by
  have hu27 := Try.underlying27
  have HR0 := Aside0.mk hr0
  have HC0 := Aside0.mk hc0
  clear hr0 hc0
  have HB := Aside0.mk (Below.refl w.heap.size w)
  have H : (impl_valsOf.l0 k (([] : List (S27))) l0 (l0.length : Int) 0) = some r := h
  clear h
  obtain ⟨y390, hy390⟩ : ∃ y_ : List (S27), y_ = (([] : List (S27))) := ⟨_, rfl⟩
  replace H : (impl_valsOf.l0 k y390 l0 (l0.length : Int) 0) = some r := by first | (rw [hy390]; with_reducible exact H) | (rw [hy390]; exact H) | exact H
  have Ny390 := Aside0.mk hy390
  clear hy390
  have H' := Aside0.mk H
  clear H
  go_enter Try.func93, Try.ntmps93
  go_wp2_with (first | ((with_reducible refine gate_dst (N := 6) rfl ?_); refine Kd.R_lit k27 _ 27 ?hg (N := 6) ?hd (xs := ([] : List (S27))) (inner := []) (ok := fun _ => True) (okp := fun _ => True) ?hr ?hp (fun _ hk => hk) trivial (Below.refl _ _) (Nat.le_refl _) (by simp) ?_; (case hd => rfl); (case hg => rfl); (case hr => first | (go_simp; done) | (go_simp; rfl)); (case hp => exact (Reps.none _ _)); intro v391 w2 ho3 hb hg_ hnew_; clear hg_ hnew_; (first | rw [← Ny390.out] at ho3 | (simp only [Int.reduceToNat] at ho3; rw [← Ny390.out] at ho3)); have HO392 := Aside0.mk (Kd.R_lower ho3 (below_size (below_later HB.out))); replace HB := bst HB hb; clear hb ho3))
  go_loopg [3, 9] k (fun kq v3 v9 w' => ∃ (x3_1 : List (S27)) (x9_1 : Int), v9 = .int .i64 x9_1 ∧ Aside0 (impl_valsOf.l0 kq x3_1 l0 (l0.length : Int) x9_1 = some r) ∧ Aside0 (kq ≤ k) ∧ Aside0 (Kd.R k27 27 w' w.heap.size (fun _ => True) v3 x3_1) ∧ Aside0 (Below w.heap.size w w'))
  case atStart => exact ⟨(y390), (0), sr, H', ⟨Nat.le_refl _⟩, ⟨R_later HO392.out⟩, ⟨below_later HB.out⟩⟩
  case round =>
    clear H'
    obtain ⟨x3_1, x9_1, rfl, HA, HK1, HO_3, HB⟩ := hrel
    cases gk with
    | zero => exact absurd HA.out (by simp [impl_valsOf.l0])
    | succ k1 =>
      have H := HA.out
      clear HA
      simp only [impl_valsOf.l0] at H
      by_cases c4 : x9_1 < (l0.length : Int)
      · rw [if_pos c4] at H
        have c4b0 := decide_eq_true c4
        clear c4
        replace H := ifd H
        obtain ⟨c5b0, H⟩ := H
        replace H := ifd H
        obtain ⟨c6b0, H⟩ := H
        replace H := ifs H
        obtain ⟨c7, H⟩ := H
        have LMc7 := Aside0.mk c7
        clear c7
        obtain ⟨y394, hy394⟩ : ∃ y_ : List (S27), y_ = (x3_1 ++ [(⟨rd l0 x9_1, (⟨#[]⟩ : ByteArray)⟩ : S27)]) := ⟨_, rfl⟩
        replace H : (impl_valsOf.l0 k1 y394 l0 (l0.length : Int) (wrap64 (x9_1 + 1))) = some r := by first | (rw [hy394]; with_reducible exact H) | (rw [hy394]; exact H) | exact H
        have Ny394 := Aside0.mk hy394
        clear hy394
        have H' := Aside0.mk H
        clear H
        have p393 : 0 ≤ (x9_1 : Int) := dcd
        have q393 : x9_1 < (l0.length : Int) := dcd
        obtain ⟨ad393, e393, hx393_0⟩ := Kd.at_int HR0.out x9_1 p393 q393
        cases e393
        replace hx393_0 := crd HB hx393_0
        replace p393 := eq_true p393
        replace q393 := eq_true q393
        go_wp2_with (first | ((with_reducible refine gate_builtin (b := .append) (xs := #[.tmp 13, .tmp 16]) rfl ?_); at_builtin; refine Kd.R_append k27 (w0 := w) w.heap.size rfl (.tmp 13) (.tmp 16) 44 27 (.agg #[(.int .i64 0), (.string ⟨#[]⟩)]) 24 rfl Try.underlying44 info27 rfl (by decide) (by omega) u3 x3_1 (⟨rd l0 x9_1, (⟨#[]⟩ : ByteArray)⟩ : S27) [.int .i64 (rd l0 x9_1), .string (⟨#[]⟩ : ByteArray)] (fun _ => True) (fun _ => False) rfl rfl ?aP (fun _ hk => hk.elim) ?aF ?aO ?aB ?aS ?aL ?_; (case aP => exact k27_mkM _ _ _ (⟨rd l0 x9_1, (⟨#[]⟩ : ByteArray)⟩ : S27)); (case aB => exact (below_later HB.out)); (case aF => exact (fun _ _ => trivial)); (case aO => exact (R_later HO_3.out)); (case aS => exact (below_size (below_later HB.out))); (case aL => have := LMc7.out; omega); intro v395 w8 ho hb hg hat; rw [← Ny394.out] at ho; have n0_ := Aside0.mk (hb); have n1_ := Aside0.mk (ho); clear HB; clear HO_3; have HB := n0_; have HO396 := n1_; clear n0_ n1_; clear ho hb hg hat))
        go_roundg k1
        case measure => have := HK1.out; omega
        case rel => exact ⟨(y394), (wrap64 (x9_1 + 1)), sr, H', ⟨by have := HK1.out; omega⟩, ⟨R_later HO396.out⟩, ⟨below_later HB.out⟩⟩
      · rw [if_neg c4] at H
        have c4b0 := decide_eq_false c4
        clear c4
        obtain rfl := Option.some.inj H
        go_wp2
        go_ret
        exact ⟨_, by first | rfl | (simp [errW_none, errW_some] <;> rfl) | (simp [*, errW_none, errW_some] <;> rfl), by (with_reducible repeat (first | apply Kd.R_alloc | apply Kd.R_drewN | apply Kd.R_drew)); exact HO_3.out, below_later HB.out⟩

end Go.Proofs.Ytgiljoeekpfpmaa.PFnExactStatsFrom
