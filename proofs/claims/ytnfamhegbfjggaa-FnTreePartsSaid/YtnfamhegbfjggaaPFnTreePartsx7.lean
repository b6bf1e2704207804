/- The machine's side of FnTreeParts, written by wip/tools/hyb.py of this repo: each Go function as a plain Lean function, and the proof that the call comes to just its answer. No condition. -/
import Derived.Test.YtnfamhegbfjggaaPFnTreePartsx0
import Derived.Test.YtnfamhegbfjggaaPFnTreePartsx6
namespace Go.Proofs.Ytnfamhegbfjggaa.PFnTreeParts
open Go.RowKit Go.Proofs.YtnfamhegbfjggaaW.PrintWords Go.Proofs.YtnfamhegbfjggaaW.PrintLast Go.Proofs.YtnfamhegbfjggaaW.PrintMore Go.Proofs.YtnfamhegbfjggaaW.PrintMore2
attribute [local go_sem] max2_int min2_int max_two min_two max_three min_three max_four min_four   -- for this text's walks alone
set_option linter.unusedVariables false
set_option linter.unusedSimpArgs false

/-! ### spec_l4Check: function 164 -/
mutual
def spec_l4Check.j0 : Nat → List (S53) → Int → Int → Bool → Option (Int)
  | 0, _, _, _, _ => none
  | k + 1, x0, x1, x2, x27 => if x27 = true then (some (-1)) else (if 0 ≤ x1 then (if x1 < (x0.length : Int) then (spec_l4Check.l0 k x0 x2 (wrap64 (x1 + 1)) 0 0 ((rd_T53 x0 x1).f0) ((rd_T53 x0 x1).f1) ((rd_T53 x0 x1).f2) ((rd_T53 x0 x1).f3) ((rd_T53 x0 x1).f4)) else (none)) else (none))
def spec_l4Check.l0 : Nat → List (S53) → Int → Int → Int → Int → Int → Int → Int → ByteArray → Int → Option (Int)
  | 0, _, _, _, _, _, _, _, _, _, _ => none
  | k + 1, x0, x2, x8, x9, x10, x315000, x315001, x315002, x315003, x315004 => if x10 < x315004 then (if x8 ≥ (x0.length : Int) then (some (-1)) else (if 0 ≤ x8 then (if x8 < (x0.length : Int) then (if x315000 = 9 then (if ((rd_T53 x0 x8).f0) = x315002 then (if ((rd_T53 x0 x8).f1) = 0 then (if x315000 = 12 then (if ((rd_T53 x0 x8).f1) ≤ x9 then (spec_l4Check.j2 k x0 x2 x8 x10 true x315000 x315001 x315002 x315003 x315004 ((rd_T53 x0 x8).f0) ((rd_T53 x0 x8).f1) ((rd_T53 x0 x8).f2) ((rd_T53 x0 x8).f3) ((rd_T53 x0 x8).f4)) else (spec_l4Check.j2 k x0 x2 x8 x10 (decide (((rd_T53 x0 x8).f1) > 1000)) x315000 x315001 x315002 x315003 x315004 ((rd_T53 x0 x8).f0) ((rd_T53 x0 x8).f1) ((rd_T53 x0 x8).f2) ((rd_T53 x0 x8).f3) ((rd_T53 x0 x8).f4))) else (spec_l4Check.j2 k x0 x2 x8 x10 false x315000 x315001 x315002 x315003 x315004 ((rd_T53 x0 x8).f0) ((rd_T53 x0 x8).f1) ((rd_T53 x0 x8).f2) ((rd_T53 x0 x8).f3) ((rd_T53 x0 x8).f4))) else (spec_l4Check.j2 k x0 x2 x8 x10 true x315000 x315001 x315002 x315003 x315004 ((rd_T53 x0 x8).f0) ((rd_T53 x0 x8).f1) ((rd_T53 x0 x8).f2) ((rd_T53 x0 x8).f3) ((rd_T53 x0 x8).f4))) else (spec_l4Check.j2 k x0 x2 x8 x10 true x315000 x315001 x315002 x315003 x315004 ((rd_T53 x0 x8).f0) ((rd_T53 x0 x8).f1) ((rd_T53 x0 x8).f2) ((rd_T53 x0 x8).f3) ((rd_T53 x0 x8).f4))) else (if x315000 = 12 then (if ((rd_T53 x0 x8).f1) ≤ x9 then (spec_l4Check.j2 k x0 x2 x8 x10 true x315000 x315001 x315002 x315003 x315004 ((rd_T53 x0 x8).f0) ((rd_T53 x0 x8).f1) ((rd_T53 x0 x8).f2) ((rd_T53 x0 x8).f3) ((rd_T53 x0 x8).f4)) else (spec_l4Check.j2 k x0 x2 x8 x10 (decide (((rd_T53 x0 x8).f1) > 1000)) x315000 x315001 x315002 x315003 x315004 ((rd_T53 x0 x8).f0) ((rd_T53 x0 x8).f1) ((rd_T53 x0 x8).f2) ((rd_T53 x0 x8).f3) ((rd_T53 x0 x8).f4))) else (spec_l4Check.j2 k x0 x2 x8 x10 false x315000 x315001 x315002 x315003 x315004 ((rd_T53 x0 x8).f0) ((rd_T53 x0 x8).f1) ((rd_T53 x0 x8).f2) ((rd_T53 x0 x8).f3) ((rd_T53 x0 x8).f4)))) else (none)) else (none))) else (some x8)
def spec_l4Check.j2 : Nat → List (S53) → Int → Int → Int → Bool → Int → Int → Int → ByteArray → Int → Int → Int → Int → ByteArray → Int → Option (Int)
  | 0, _, _, _, _, _, _, _, _, _, _, _, _, _, _, _ => none
  | k + 1, x0, x2, x8, x10, x78, x315000, x315001, x315002, x315003, x315004, x317000, x317001, x317002, x317003, x317004 => if x78 = true then (some (-1)) else ((spec_l4Check.f k x0 x8 (wrap64 (x2 + 1))).bind fun t317 => (if t317 < 0 then (some (-1)) else (spec_l4Check.l0 k x0 x2 t317 x317001 (wrap64 (x10 + 1)) x315000 x315001 x315002 x315003 x315004)))
def spec_l4Check.f : Nat → List (S53) → Int → Int → Option (Int)
  | 0, _, _, _ => none
  | k + 1, l0, a1, a2 => if a1 ≥ (l0.length : Int) then (spec_l4Check.j0 k l0 a1 a2 true) else (if a2 > 12 then (spec_l4Check.j0 k l0 a1 a2 true) else (if 0 ≤ a1 then (if a1 < (l0.length : Int) then ((spec_l4Plain.f k ((rd_T53 l0 a1).f0) ((rd_T53 l0 a1).f1) ((rd_T53 l0 a1).f2) ((rd_T53 l0 a1).f3) ((rd_T53 l0 a1).f4)).bind fun t312 => (spec_l4Check.j0 k l0 a1 a2 (!t312))) else (none)) else (none)))
end
theorem spec_l4Check.mono_l : ∀ k, (∀ y0 y1 y2, LeO (spec_l4Check.f k y0 y1 y2) (spec_l4Check.f (k + 1) y0 y1 y2)) ∧ (∀ y0 y1 y2 y3, LeO (spec_l4Check.j0 k y0 y1 y2 y3) (spec_l4Check.j0 (k + 1) y0 y1 y2 y3)) ∧ (∀ y0 y1 y2 y3 y4 y5 y6 y7 y8 y9, LeO (spec_l4Check.l0 k y0 y1 y2 y3 y4 y5 y6 y7 y8 y9) (spec_l4Check.l0 (k + 1) y0 y1 y2 y3 y4 y5 y6 y7 y8 y9)) ∧ (∀ y0 y1 y2 y3 y4 y5 y6 y7 y8 y9 y10 y11 y12 y13 y14, LeO (spec_l4Check.j2 k y0 y1 y2 y3 y4 y5 y6 y7 y8 y9 y10 y11 y12 y13 y14) (spec_l4Check.j2 (k + 1) y0 y1 y2 y3 y4 y5 y6 y7 y8 y9 y10 y11 y12 y13 y14))
  | 0 => ⟨fun _ _ _ r h => by simp [spec_l4Check.f] at h, fun _ _ _ _ r h => by simp [spec_l4Check.j0] at h, fun _ _ _ _ _ _ _ _ _ _ r h => by simp [spec_l4Check.l0] at h, fun _ _ _ _ _ _ _ _ _ _ _ _ _ _ _ r h => by simp [spec_l4Check.j2] at h⟩
  | k + 1 => by
    obtain ⟨ih0, ih1, ih2, ih3⟩ := spec_l4Check.mono_l k
    refine ⟨?_, ?_, ?_, ?_⟩
    · intro y0 y1 y2
      unfold spec_l4Check.f
      repeat' first
      | (with_reducible exact ih0 _ _ _)
      | (with_reducible exact ih1 _ _ _ _)
      | (with_reducible exact ih2 _ _ _ _ _ _ _ _ _ _)
      | (with_reducible exact ih3 _ _ _ _ _ _ _ _ _ _ _ _ _ _ _)
      | (with_reducible exact spec_l4Plain.mono _ _ _ _ _ _)
      | (with_reducible exact LeO.refl _)
      | (with_reducible exact LeO.none _)
      | (with_reducible refine LeO.ite ?_ ?_)
      | (with_reducible refine LeO.bind ?_ (fun _ => ?_))
      | exact ih0 _ _ _
      | exact ih1 _ _ _ _
      | exact ih2 _ _ _ _ _ _ _ _ _ _
      | exact ih3 _ _ _ _ _ _ _ _ _ _ _ _ _ _ _
      | exact spec_l4Plain.mono _ _ _ _ _ _
      | exact LeO.none _
      | refine LeO.ite ?_ ?_
      | refine LeO.bind ?_ (fun _ => ?_)
    · intro y0 y1 y2 y3
      unfold spec_l4Check.j0
      repeat' first
      | (with_reducible exact ih0 _ _ _)
      | (with_reducible exact ih1 _ _ _ _)
      | (with_reducible exact ih2 _ _ _ _ _ _ _ _ _ _)
      | (with_reducible exact ih3 _ _ _ _ _ _ _ _ _ _ _ _ _ _ _)
      | (with_reducible exact spec_l4Plain.mono _ _ _ _ _ _)
      | (with_reducible exact LeO.refl _)
      | (with_reducible exact LeO.none _)
      | (with_reducible refine LeO.ite ?_ ?_)
      | (with_reducible refine LeO.bind ?_ (fun _ => ?_))
      | exact ih0 _ _ _
      | exact ih1 _ _ _ _
      | exact ih2 _ _ _ _ _ _ _ _ _ _
      | exact ih3 _ _ _ _ _ _ _ _ _ _ _ _ _ _ _
      | exact spec_l4Plain.mono _ _ _ _ _ _
      | exact LeO.none _
      | refine LeO.ite ?_ ?_
      | refine LeO.bind ?_ (fun _ => ?_)
    · intro y0 y1 y2 y3 y4 y5 y6 y7 y8 y9
      unfold spec_l4Check.l0
      repeat' first
      | (with_reducible exact ih0 _ _ _)
      | (with_reducible exact ih1 _ _ _ _)
      | (with_reducible exact ih2 _ _ _ _ _ _ _ _ _ _)
      | (with_reducible exact ih3 _ _ _ _ _ _ _ _ _ _ _ _ _ _ _)
      | (with_reducible exact spec_l4Plain.mono _ _ _ _ _ _)
      | (with_reducible exact LeO.refl _)
      | (with_reducible exact LeO.none _)
      | (with_reducible refine LeO.ite ?_ ?_)
      | (with_reducible refine LeO.bind ?_ (fun _ => ?_))
      | exact ih0 _ _ _
      | exact ih1 _ _ _ _
      | exact ih2 _ _ _ _ _ _ _ _ _ _
      | exact ih3 _ _ _ _ _ _ _ _ _ _ _ _ _ _ _
      | exact spec_l4Plain.mono _ _ _ _ _ _
      | exact LeO.none _
      | refine LeO.ite ?_ ?_
      | refine LeO.bind ?_ (fun _ => ?_)
    · intro y0 y1 y2 y3 y4 y5 y6 y7 y8 y9 y10 y11 y12 y13 y14
      unfold spec_l4Check.j2
      repeat' first
      | (with_reducible exact ih0 _ _ _)
      | (with_reducible exact ih1 _ _ _ _)
      | (with_reducible exact ih2 _ _ _ _ _ _ _ _ _ _)
      | (with_reducible exact ih3 _ _ _ _ _ _ _ _ _ _ _ _ _ _ _)
      | (with_reducible exact spec_l4Plain.mono _ _ _ _ _ _)
      | (with_reducible exact LeO.refl _)
      | (with_reducible exact LeO.none _)
      | (with_reducible refine LeO.ite ?_ ?_)
      | (with_reducible refine LeO.bind ?_ (fun _ => ?_))
      | exact ih0 _ _ _
      | exact ih1 _ _ _ _
      | exact ih2 _ _ _ _ _ _ _ _ _ _
      | exact ih3 _ _ _ _ _ _ _ _ _ _ _ _ _ _ _
      | exact spec_l4Plain.mono _ _ _ _ _ _
      | exact LeO.none _
      | refine LeO.ite ?_ ?_
      | refine LeO.bind ?_ (fun _ => ?_)
theorem spec_l4Check.mono : ∀ a0 a1 a2 k, LeO (spec_l4Check.f k a0 a1 a2) (spec_l4Check.f (k + 1) a0 a1 a2) := by
  intro a0 a1 a2 k
  obtain ⟨ih0, ih1, ih2, ih3⟩ := spec_l4Check.mono_l k
  exact ih0 a0 a1 a2
set_option maxHeartbeats 8000000 in
set_option maxRecDepth 100000 in
theorem spec_l4Check.calls (k : Nat) : ∀ (A0 : Option Addr) (c0 : Nat) (l0 : List (S53)) (a1 : Int) (a2 : Int) (r : Int) (w : World) (hr0 : Kd.C k53 w A0 l0.length l0) (hc0 : l0.length ≤ c0) (h : spec_l4Check.f k l0 a1 a2 = some r),
    Calls Try.prog 164 #[.slice A0 l0.length c0, .int .i64 a1, .int .i64 a2] w fun e w' => e = .returned (.int .i64 r) ∧ Below w.heap.size w w' := by
  induction k using Nat.strongRecOn with
  | _ k ih =>
  intro A0 c0 l0 a1 a2 r w hr0 hc0 h
  cases k with
  | zero => exact absurd h (by simp [spec_l4Check.f])
  | succ k =>
  simp only [spec_l4Check.f] at h
  have hu53 := Try.underlying53
  have HR0 := Aside0.mk hr0
  have HC0 := Aside0.mk hc0
  clear hr0 hc0
  have HB := Aside0.mk (Below.refl w.heap.size w)
  have H : (if a1 ≥ (l0.length : Int) then (spec_l4Check.j0 k l0 a1 a2 true) else (if a2 > 12 then (spec_l4Check.j0 k l0 a1 a2 true) else (if 0 ≤ a1 then (if a1 < (l0.length : Int) then ((spec_l4Plain.f k ((rd_T53 l0 a1).f0) ((rd_T53 l0 a1).f1) ((rd_T53 l0 a1).f2) ((rd_T53 l0 a1).f3) ((rd_T53 l0 a1).f4)).bind fun t312 => (spec_l4Check.j0 k l0 a1 a2 (!t312))) else (none)) else (none)))) = some r := h
  clear h
  have HC4 := Aside0.mk H
  clear H
  go_enter Try.func164, Try.ntmps164
  go_upto_region 1 with (fail)
  go_cut [27] (fun v27 wc => ∃ (kq : Nat) (x27_3 : Bool), v27 = .bool x27_3 ∧ Aside0 (spec_l4Check.j0 kq l0 a1 a2 x27_3 = some r) ∧ Aside0 (kq ≤ k) ∧ Aside0 (Below w.heap.size w wc))
  case first =>
    have H := HC4.out
    clear HC4
    by_cases c5 : a1 ≥ (l0.length : Int)
    · rw [if_pos c5] at H
      have c5b0 : decide ((l0.length : Int) ≤ a1) = true := decide_eq_true c5
      clear c5
      (first | rw [c5b0] | (simp only [i64_w, i32_w]; rw [c5b0]) | skip)
      have H' := Aside0.mk H
      clear H
      go_wp2
      go_meet
      case rel => exact ⟨_, (true), (by first | rfl | (simp; done) | (simp [*]; done)), H', ⟨by first | omega | exact Nat.le_refl _⟩, ⟨by repeat (first | (with_reducible first | exact HB.out | apply below_alloc | apply pw_below_drewN | apply below_drew1) | exact HB.out)⟩⟩
    · rw [if_neg c5] at H
      have c5b0 : decide ((l0.length : Int) ≤ a1) = false := decide_eq_false c5
      clear c5
      (first | rw [c5b0] | (simp only [i64_w, i32_w]; rw [c5b0]) | skip)
      by_cases c6 : a2 > 12
      · rw [if_pos c6] at H
        have c6b0 : decide (12 < a2) = true := decide_eq_true c6
        clear c6
        have H' := Aside0.mk H
        clear H
        go_wp2
        go_meet
        case rel => exact ⟨_, (true), (by first | rfl | (simp; done) | (simp [*]; done)), H', ⟨by first | omega | exact Nat.le_refl _⟩, ⟨by repeat (first | (with_reducible first | exact HB.out | apply below_alloc | apply pw_below_drewN | apply below_drew1) | exact HB.out)⟩⟩
      · rw [if_neg c6] at H
        have c6b0 : decide (12 < a2) = false := decide_eq_false c6
        clear c6
        by_cases c7 : 0 ≤ a1
        · rw [if_pos c7] at H
          have c7b0 : decide (0 ≤ a1) = true := decide_eq_true c7
          clear c7
          by_cases c8 : a1 < (l0.length : Int)
          · rw [if_pos c8] at H
            have c8b0 : decide (a1 < (l0.length : Int)) = true := decide_eq_true c8
            clear c8
            replace H := Option.bind_eq_some_iff.mp H
            obtain ⟨t312, A90, H⟩ := H
            replace H : (spec_l4Check.j0 k l0 a1 a2 (!t312)) = some r := H
            have A9 := Aside0.mk A90
            clear A90
            have H' := Aside0.mk H
            clear H
            have p311 : 0 ≤ (a1 : Int) := of_decide_eq_true (by first | (with_reducible assumption) | assumption)
            have q311 : a1 < (l0.length : Int) := of_decide_eq_true (by first | (with_reducible assumption) | assumption)
            obtain ⟨ad311, e311, hx311_0, hx311_1, hx311_2, hx311_3, hx311_4⟩ := at_T53 HR0.out a1 p311 q311
            cases e311
            replace hx311_0 := (HB.out.cell (World.block_lt_of_cell? w _ hx311_0)).trans hx311_0
            replace hx311_1 := (HB.out.cell (World.block_lt_of_cell? w _ hx311_1)).trans hx311_1
            replace hx311_2 := (HB.out.cell (World.block_lt_of_cell? w _ hx311_2)).trans hx311_2
            replace hx311_3 := (HB.out.cell (World.block_lt_of_cell? w _ hx311_3)).trans hx311_3
            replace hx311_4 := (HB.out.cell (World.block_lt_of_cell? w _ hx311_4)).trans hx311_4
            replace p311 := eq_true p311
            replace q311 := eq_true q311
            go_wp2_with (first | (go_at_call 212; (with_reducible refine (spec_l4Plain.calls k ((rd_T53 l0 a1).f0) ((rd_T53 l0 a1).f1) ((rd_T53 l0 a1).f2) ((rd_T53 l0 a1).f3) ((rd_T53 l0 a1).f4) t312 _ A9.out).mono ?_); rintro e w10 ⟨rfl, hb⟩; have n0_ := Aside0.mk (below_step (by repeat (first | (with_reducible first | exact HB.out | apply below_alloc | apply pw_below_drewN | apply below_drew1) | exact HB.out)) hb); clear HB; have HB := n0_; clear n0_; (try clear hb); (try clear hb2); (try clear hk); (try clear hi)))
            go_meet
            case rel => exact ⟨_, (!t312), (by first | rfl | (simp; done) | (simp [*]; done)), H', ⟨by first | omega | exact Nat.le_refl _⟩, ⟨by repeat (first | (with_reducible first | exact HB.out | apply below_alloc | apply pw_below_drewN | apply below_drew1) | exact HB.out)⟩⟩
          · rw [if_neg c8] at H
            exact absurd H (by simp)
        · rw [if_neg c7] at H
          exact absurd H (by simp)
  case rest =>
    clear HC4
    try clear c1
    try clear p2
    try clear p3
    try clear q3
    try clear hx3
    try clear c5
    try clear c5b0
    try clear c6
    try clear c6b0
    try clear c7
    try clear c7b0
    try clear c8
    try clear c8b0
    try clear hx311_0
    try clear hx311_1
    try clear hx311_2
    try clear hx311_3
    try clear hx311_4
    try clear p311
    try clear q311
    obtain ⟨kq, x27_3, rfl, HA, HJ3, HB⟩ := hcut
    cases kq with
    | zero => exact absurd HA.out (by simp [spec_l4Check.j0])
    | succ kj3 =>
      have H := HA.out
      clear HA
      simp only [spec_l4Check.j0] at H
      by_cases c11 : x27_3 = true
      · subst c11
        have H1 : (some (-1)) = some r := by rw [if_pos rfl] at H; exact H
        clear H
        have H := H1
        clear H1
        obtain rfl := Option.some.inj H
        go_wp2
        go_ret
        exact ⟨by first | rfl | (simp [errW_none, errW_some] <;> rfl) | (simp [*, errW_none, errW_some] <;> rfl), by repeat (first | (with_reducible first | exact HB.out | apply below_alloc | apply pw_below_drewN | apply below_drew1) | exact HB.out)⟩
      · replace c11 := Bool.eq_false_iff.mpr c11
        subst c11
        have H1 : (if 0 ≤ a1 then (if a1 < (l0.length : Int) then (spec_l4Check.l0 kj3 l0 a2 (wrap64 (a1 + 1)) 0 0 ((rd_T53 l0 a1).f0) ((rd_T53 l0 a1).f1) ((rd_T53 l0 a1).f2) ((rd_T53 l0 a1).f3) ((rd_T53 l0 a1).f4)) else (none)) else (none)) = some r := by rw [if_neg (show ¬ (false = true) by decide)] at H; exact H
        clear H
        have H := H1
        clear H1
        by_cases c12 : 0 ≤ a1
        · rw [if_pos c12] at H
          have c12b0 : decide (0 ≤ a1) = true := decide_eq_true c12
          clear c12
          by_cases c13 : a1 < (l0.length : Int)
          · rw [if_pos c13] at H
            have c13b0 : decide (a1 < (l0.length : Int)) = true := decide_eq_true c13
            clear c13
            have H' := Aside0.mk H
            clear H
            have p313 : 0 ≤ (a1 : Int) := of_decide_eq_true (by first | (with_reducible assumption) | assumption)
            have q313 : a1 < (l0.length : Int) := of_decide_eq_true (by first | (with_reducible assumption) | assumption)
            obtain ⟨ad313, e313, hx313_0, hx313_1, hx313_2, hx313_3, hx313_4⟩ := at_T53 HR0.out a1 p313 q313
            cases e313
            replace hx313_0 := (HB.out.cell (World.block_lt_of_cell? w _ hx313_0)).trans hx313_0
            replace hx313_1 := (HB.out.cell (World.block_lt_of_cell? w _ hx313_1)).trans hx313_1
            replace hx313_2 := (HB.out.cell (World.block_lt_of_cell? w _ hx313_2)).trans hx313_2
            replace hx313_3 := (HB.out.cell (World.block_lt_of_cell? w _ hx313_3)).trans hx313_3
            replace hx313_4 := (HB.out.cell (World.block_lt_of_cell? w _ hx313_4)).trans hx313_4
            replace p313 := eq_true p313
            replace q313 := eq_true q313
            go_wp2_with (first | ((with_reducible refine gate_dst (N := 7) rfl ?_); refine box_event ?hg (N := 7) ?hd (cs := #[.int .i64 0, .int .i64 0, .int .i64 0, .string (⟨#[]⟩ : ByteArray), .int .i64 0]) (t := 53) ?hr ?_; (case hd => rfl); (case hg => rfl); (case hr => first | (go_simp; done) | (go_simp; rfl)); intro gb314 hg w14 hbox hb; have n0_ := Aside0.mk (below_step (by repeat (first | (with_reducible first | exact HB.out | apply below_alloc | apply pw_below_drewN | apply below_drew1) | exact HB.out)) hb); have n1_ := Aside0.mk (hbox); have n2_ := Aside0.mk ((by rw [hg]; exact (below_size (by repeat (first | (with_reducible first | exact HB.out | apply below_alloc | apply pw_below_drewN | apply below_drew1) | exact HB.out))) : w.heap.size ≤ gb314)); have n3_ := Aside0.mk ((by rw [hg]; exact (below_size (by repeat (first | (with_reducible first | exact HB.out | apply below_alloc | apply pw_below_drewN | apply below_drew1) | exact HB.out))) : w.heap.size ≤ gb314)); clear HB; have HB := n0_; have BK314 := n1_; have GW314 := n2_; have GE314 := n3_; clear n0_ n1_ n2_ n3_; clear hb hbox hg; have hcz15_0 : w14.cell? ⟨gb314, 0, none⟩ = some (.int .i64 0) := (blk_cell BK314.out 0).trans rfl; have hcz15_1 : w14.cell? ⟨gb314, 1, none⟩ = some (.int .i64 0) := (blk_cell BK314.out 1).trans rfl; have hcz15_2 : w14.cell? ⟨gb314, 2, none⟩ = some (.int .i64 0) := (blk_cell BK314.out 2).trans rfl; have hcz15_3 : w14.cell? ⟨gb314, 3, none⟩ = some (.string (⟨#[]⟩ : ByteArray)) := (blk_cell BK314.out 3).trans rfl; have hcz15_4 : w14.cell? ⟨gb314, 4, none⟩ = some (.int .i64 0) := (blk_cell BK314.out 4).trans rfl; have hfz15_0 := blk_frozen BK314.out 0; have hfz15_1 := blk_frozen BK314.out 1; have hfz15_2 := blk_frozen BK314.out 2; have hfz15_3 := blk_frozen BK314.out 3; have hfz15_4 := blk_frozen BK314.out 4))
            go_loopg [8, 9, 10] kj3 (fun kq v8 v9 v10 w' => ∃ (x8_2 : Int) (x9_2 : Int) (x10_2 : Int), v8 = .int .i64 x8_2 ∧ v9 = .int .i64 x9_2 ∧ v10 = .int .i64 x10_2 ∧ Aside0 (spec_l4Check.l0 kq l0 a2 x8_2 x9_2 x10_2 ((rd_T53 l0 a1).f0) ((rd_T53 l0 a1).f1) ((rd_T53 l0 a1).f2) ((rd_T53 l0 a1).f3) ((rd_T53 l0 a1).f4) = some r) ∧ Aside0 (kq ≤ kj3) ∧ Aside0 (w'.heap[gb314]? = some (.cells #[.int .i64 ((rd_T53 l0 a1).f0), .int .i64 ((rd_T53 l0 a1).f1), .int .i64 ((rd_T53 l0 a1).f2), .string ((rd_T53 l0 a1).f3), .int .i64 ((rd_T53 l0 a1).f4)] 53 (0, 0))) ∧ Aside0 (Below w.heap.size w w'))
            case atStart => exact ⟨(wrap64 (a1 + 1)), (0), (0), (by first | rfl | (simp; done) | (simp [*]; done)), (by first | rfl | (simp; done) | (simp [*]; done)), (by first | rfl | (simp; done) | (simp [*]; done)), H', ⟨Nat.le_refl _⟩, ⟨by (with_reducible repeat (first | refine blk_drewN ?_ _ | refine blk_drew ?_ | refine blk_alloc ?_ _)); refine blk_put (cs := #[.int .i64 ((rd_T53 l0 a1).f0), .int .i64 ((rd_T53 l0 a1).f1), .int .i64 ((rd_T53 l0 a1).f2), .string ((rd_T53 l0 a1).f3), .int .i64 0]) ?_ 4 _ rfl; (with_reducible repeat (first | refine blk_drewN ?_ _ | refine blk_drew ?_ | refine blk_alloc ?_ _)); refine blk_put (cs := #[.int .i64 ((rd_T53 l0 a1).f0), .int .i64 ((rd_T53 l0 a1).f1), .int .i64 ((rd_T53 l0 a1).f2), .string (⟨#[]⟩ : ByteArray), .int .i64 0]) ?_ 3 _ rfl; (with_reducible repeat (first | refine blk_drewN ?_ _ | refine blk_drew ?_ | refine blk_alloc ?_ _)); refine blk_put (cs := #[.int .i64 ((rd_T53 l0 a1).f0), .int .i64 ((rd_T53 l0 a1).f1), .int .i64 0, .string (⟨#[]⟩ : ByteArray), .int .i64 0]) ?_ 2 _ rfl; (with_reducible repeat (first | refine blk_drewN ?_ _ | refine blk_drew ?_ | refine blk_alloc ?_ _)); refine blk_put (cs := #[.int .i64 ((rd_T53 l0 a1).f0), .int .i64 0, .int .i64 0, .string (⟨#[]⟩ : ByteArray), .int .i64 0]) ?_ 1 _ rfl; (with_reducible repeat (first | refine blk_drewN ?_ _ | refine blk_drew ?_ | refine blk_alloc ?_ _)); refine blk_put (cs := #[.int .i64 0, .int .i64 0, .int .i64 0, .string (⟨#[]⟩ : ByteArray), .int .i64 0]) ?_ 0 _ rfl; (with_reducible repeat (first | refine blk_drewN ?_ _ | refine blk_drew ?_ | refine blk_alloc ?_ _)); exact BK314.out⟩, ⟨by repeat (first | (with_reducible first | exact HB.out | apply below_alloc | apply pw_below_drewN | apply below_drew1 | refine below_set ?_ GE314.out) | exact HB.out)⟩⟩
            case round =>
              clear H'
              try clear c1
              try clear p2
              try clear p3
              try clear q3
              try clear hx3
              try clear c5
              try clear c5b0
              try clear c6
              try clear c6b0
              try clear p6
              try clear c7
              try clear c7b0
              try clear c8
              try clear c8b0
              try clear c11
              try clear c12
              try clear c12b0
              try clear c13
              try clear c13b0
              try clear hcz15_0
              try clear hcz15_1
              try clear hcz15_2
              try clear hcz15_3
              try clear hcz15_4
              try clear hfz15_0
              try clear hfz15_1
              try clear hfz15_2
              try clear hfz15_3
              try clear hfz15_4
              try clear hx311_0
              try clear hx311_1
              try clear hx311_2
              try clear hx311_3
              try clear hx311_4
              try clear hx313_0
              try clear hx313_1
              try clear hx313_2
              try clear hx313_3
              try clear hx313_4
              try clear p2
              try clear p3
              try clear p311
              try clear p313
              try clear q3
              try clear q311
              try clear q313
              obtain ⟨x8_2, x9_2, x10_2, rfl, rfl, rfl, HA, HK2, BK314, HB⟩ := hrel
              cases gk with
              | zero => exact absurd HA.out (by simp [spec_l4Check.l0])
              | succ k2 =>
                have H := HA.out
                clear HA
                simp only [spec_l4Check.l0] at H
                by_cases c16 : x10_2 < ((rd_T53 l0 a1).f4)
                · rw [if_pos c16] at H
                  have c16b0 : decide (x10_2 < ((rd_T53 l0 a1).f4)) = true := decide_eq_true c16
                  clear c16
                  by_cases c17 : x8_2 ≥ (l0.length : Int)
                  · rw [if_pos c17] at H
                    have c17b0 : decide ((l0.length : Int) ≤ x8_2) = true := decide_eq_true c17
                    clear c17
                    obtain rfl := Option.some.inj H
                    have hcz18_0 : wr.cell? ⟨gb314, 0, none⟩ = some (.int .i64 ((rd_T53 l0 a1).f0)) := (blk_cell BK314.out 0).trans rfl
                    have hcz18_1 : wr.cell? ⟨gb314, 1, none⟩ = some (.int .i64 ((rd_T53 l0 a1).f1)) := (blk_cell BK314.out 1).trans rfl
                    have hcz18_2 : wr.cell? ⟨gb314, 2, none⟩ = some (.int .i64 ((rd_T53 l0 a1).f2)) := (blk_cell BK314.out 2).trans rfl
                    have hcz18_3 : wr.cell? ⟨gb314, 3, none⟩ = some (.string ((rd_T53 l0 a1).f3)) := (blk_cell BK314.out 3).trans rfl
                    have hcz18_4 : wr.cell? ⟨gb314, 4, none⟩ = some (.int .i64 ((rd_T53 l0 a1).f4)) := (blk_cell BK314.out 4).trans rfl
                    have hfz18_0 := blk_frozen BK314.out 0
                    have hfz18_1 := blk_frozen BK314.out 1
                    have hfz18_2 := blk_frozen BK314.out 2
                    have hfz18_3 := blk_frozen BK314.out 3
                    have hfz18_4 := blk_frozen BK314.out 4
                    go_wp2
                    go_ret
                    exact ⟨by first | rfl | (simp [errW_none, errW_some] <;> rfl) | (simp [*, errW_none, errW_some] <;> rfl), by repeat (first | (with_reducible first | exact HB.out | apply below_alloc | apply pw_below_drewN | apply below_drew1 | refine below_set ?_ GE314.out) | exact HB.out)⟩
                  · rw [if_neg c17] at H
                    have c17b0 : decide ((l0.length : Int) ≤ x8_2) = false := decide_eq_false c17
                    clear c17
                    by_cases c19 : 0 ≤ x8_2
                    · rw [if_pos c19] at H
                      have c19b0 : decide (0 ≤ x8_2) = true := decide_eq_true c19
                      clear c19
                      by_cases c20 : x8_2 < (l0.length : Int)
                      · rw [if_pos c20] at H
                        have c20b0 : decide (x8_2 < (l0.length : Int)) = true := decide_eq_true c20
                        clear c20
                        have HC21 := Aside0.mk H
                        clear H
                        have hcz22_0 : wr.cell? ⟨gb314, 0, none⟩ = some (.int .i64 ((rd_T53 l0 a1).f0)) := (blk_cell BK314.out 0).trans rfl
                        have hcz22_1 : wr.cell? ⟨gb314, 1, none⟩ = some (.int .i64 ((rd_T53 l0 a1).f1)) := (blk_cell BK314.out 1).trans rfl
                        have hcz22_2 : wr.cell? ⟨gb314, 2, none⟩ = some (.int .i64 ((rd_T53 l0 a1).f2)) := (blk_cell BK314.out 2).trans rfl
                        have hcz22_3 : wr.cell? ⟨gb314, 3, none⟩ = some (.string ((rd_T53 l0 a1).f3)) := (blk_cell BK314.out 3).trans rfl
                        have hcz22_4 : wr.cell? ⟨gb314, 4, none⟩ = some (.int .i64 ((rd_T53 l0 a1).f4)) := (blk_cell BK314.out 4).trans rfl
                        have hfz22_0 := blk_frozen BK314.out 0
                        have hfz22_1 := blk_frozen BK314.out 1
                        have hfz22_2 := blk_frozen BK314.out 2
                        have hfz22_3 := blk_frozen BK314.out 3
                        have hfz22_4 := blk_frozen BK314.out 4
                        have p315 : 0 ≤ (x8_2 : Int) := of_decide_eq_true (by first | (with_reducible assumption) | assumption)
                        have q315 : x8_2 < (l0.length : Int) := of_decide_eq_true (by first | (with_reducible assumption) | assumption)
                        obtain ⟨ad315, e315, hx315_0, hx315_1, hx315_2, hx315_3, hx315_4⟩ := at_T53 HR0.out x8_2 p315 q315
                        obtain rfl : ad313 = ad315 := (by injection e315)
                        replace hx315_0 := (HB.out.cell (World.block_lt_of_cell? w _ hx315_0)).trans hx315_0
                        replace hx315_1 := (HB.out.cell (World.block_lt_of_cell? w _ hx315_1)).trans hx315_1
                        replace hx315_2 := (HB.out.cell (World.block_lt_of_cell? w _ hx315_2)).trans hx315_2
                        replace hx315_3 := (HB.out.cell (World.block_lt_of_cell? w _ hx315_3)).trans hx315_3
                        replace hx315_4 := (HB.out.cell (World.block_lt_of_cell? w _ hx315_4)).trans hx315_4
                        replace p315 := eq_true p315
                        replace q315 := eq_true q315
                        go_upto_region 12 with (first | ((with_reducible refine gate_dst (N := 11) rfl ?_); refine box_event ?hg (N := 11) ?hd (cs := #[.int .i64 0, .int .i64 0, .int .i64 0, .string (⟨#[]⟩ : ByteArray), .int .i64 0]) (t := 53) ?hr ?_; (case hd => rfl); (case hg => rfl); (case hr => first | (go_simp; done) | (go_simp; rfl)); intro gb316 hg w23 hbox hb; have n0_ := Aside0.mk (blk_below (g := gb314) (o := .cells #[.int .i64 ((rd_T53 l0 a1).f0), .int .i64 ((rd_T53 l0 a1).f1), .int .i64 ((rd_T53 l0 a1).f2), .string ((rd_T53 l0 a1).f3), .int .i64 ((rd_T53 l0 a1).f4)] 53 (0, 0)) (by (with_reducible repeat (first | refine blk_drewN ?_ _ | refine blk_drew ?_ | refine blk_alloc ?_ _)); exact BK314.out) hb); have n1_ := Aside0.mk (below_step (by repeat (first | (with_reducible first | exact HB.out | apply below_alloc | apply pw_below_drewN | apply below_drew1 | refine below_set ?_ GE314.out) | exact HB.out)) hb); have n2_ := Aside0.mk (hbox); have n3_ := Aside0.mk ((by rw [hg]; exact (below_size (by repeat (first | (with_reducible first | exact HB.out | apply below_alloc | apply pw_below_drewN | apply below_drew1 | refine below_set ?_ GE314.out) | exact HB.out))) : w.heap.size ≤ gb316)); have n4_ := Aside0.mk ((by rw [hg]; exact (below_size (by repeat (first | (with_reducible first | exact HB.out | apply below_alloc | apply pw_below_drewN | apply below_drew1 | refine below_set ?_ GE314.out) | exact HB.out))) : w.heap.size ≤ gb316)); have n5_ := Aside0.mk ((by rw [hg]; exact Nat.ne_of_lt (blk_lt (g := gb314) (o := .cells #[.int .i64 ((rd_T53 l0 a1).f0), .int .i64 ((rd_T53 l0 a1).f1), .int .i64 ((rd_T53 l0 a1).f2), .string ((rd_T53 l0 a1).f3), .int .i64 ((rd_T53 l0 a1).f4)] 53 (0, 0)) (by (with_reducible repeat (first | refine blk_drewN ?_ _ | refine blk_drew ?_ | refine blk_alloc ?_ _)); exact BK314.out)) : gb314 ≠ gb316)); have n6_ := Aside0.mk ((by rw [hg]; exact Nat.ne_of_gt (blk_lt (g := gb314) (o := .cells #[.int .i64 ((rd_T53 l0 a1).f0), .int .i64 ((rd_T53 l0 a1).f1), .int .i64 ((rd_T53 l0 a1).f2), .string ((rd_T53 l0 a1).f3), .int .i64 ((rd_T53 l0 a1).f4)] 53 (0, 0)) (by (with_reducible repeat (first | refine blk_drewN ?_ _ | refine blk_drew ?_ | refine blk_alloc ?_ _)); exact BK314.out)) : gb316 ≠ gb314)); clear BK314; clear HB; have BK314 := n0_; have HB := n1_; have BK316 := n2_; have GW316 := n3_; have GE316 := n4_; have NB314_316 := n5_; have NB316_314 := n6_; clear n0_ n1_ n2_ n3_ n4_ n5_ n6_; clear hb hbox hg; have hnb24 := NB316_314.out; have hnc24 := NB314_316.out; have hcz25_0 : w23.cell? ⟨gb316, 0, none⟩ = some (.int .i64 0) := (blk_cell BK316.out 0).trans rfl; have hcz25_1 : w23.cell? ⟨gb316, 1, none⟩ = some (.int .i64 0) := (blk_cell BK316.out 1).trans rfl; have hcz25_2 : w23.cell? ⟨gb316, 2, none⟩ = some (.int .i64 0) := (blk_cell BK316.out 2).trans rfl; have hcz25_3 : w23.cell? ⟨gb316, 3, none⟩ = some (.string (⟨#[]⟩ : ByteArray)) := (blk_cell BK316.out 3).trans rfl; have hcz25_4 : w23.cell? ⟨gb316, 4, none⟩ = some (.int .i64 0) := (blk_cell BK316.out 4).trans rfl; have hfz25_0 := blk_frozen BK316.out 0; have hfz25_1 := blk_frozen BK316.out 1; have hfz25_2 := blk_frozen BK316.out 2; have hfz25_3 := blk_frozen BK316.out 3; have hfz25_4 := blk_frozen BK316.out 4))
                        (try simp only [Act.put, List.setIfInBounds_toArray, List.set_cons_zero, List.set_cons_succ])
                        go_cut [78] (fun v78 wc => ∃ (kq : Nat) (x78_20 : Bool), v78 = .bool x78_20 ∧ Aside0 (spec_l4Check.j2 kq l0 a2 x8_2 x10_2 x78_20 ((rd_T53 l0 a1).f0) ((rd_T53 l0 a1).f1) ((rd_T53 l0 a1).f2) ((rd_T53 l0 a1).f3) ((rd_T53 l0 a1).f4) ((rd_T53 l0 x8_2).f0) ((rd_T53 l0 x8_2).f1) ((rd_T53 l0 x8_2).f2) ((rd_T53 l0 x8_2).f3) ((rd_T53 l0 x8_2).f4) = some r) ∧ Aside0 (kq ≤ k2) ∧ Aside0 (wc.heap[gb314]? = some (.cells #[.int .i64 ((rd_T53 l0 a1).f0), .int .i64 ((rd_T53 l0 a1).f1), .int .i64 ((rd_T53 l0 a1).f2), .string ((rd_T53 l0 a1).f3), .int .i64 ((rd_T53 l0 a1).f4)] 53 (0, 0))) ∧ Aside0 (wc.heap[gb316]? = some (.cells #[.int .i64 ((rd_T53 l0 x8_2).f0), .int .i64 ((rd_T53 l0 x8_2).f1), .int .i64 ((rd_T53 l0 x8_2).f2), .string ((rd_T53 l0 x8_2).f3), .int .i64 ((rd_T53 l0 x8_2).f4)] 53 (0, 0))) ∧ Aside0 (Below w.heap.size w wc))
                        case first =>
                          have H := HC21.out
                          clear HC21
                          by_cases c26 : ((rd_T53 l0 a1).f0) = 9
                          · rw [if_pos c26] at H
                            have c26b0 : (((rd_T53 l0 a1).f0) == 9) = true := beq_iff_eq.mpr c26
                            have c26b1 : (((rd_T53 l0 a1).f0) != 9) = false := bne_eq_false_iff_eq.mpr c26
                            clear c26
                            (first | rw [c26b0] | rw [c26b1] | (simp only [i64_w, i32_w]; rw [c26b0]) | skip)
                            by_cases c27 : ((rd_T53 l0 x8_2).f0) = ((rd_T53 l0 a1).f2)
                            · rw [if_pos c27] at H
                              have c27b0 : (((rd_T53 l0 x8_2).f0) == ((rd_T53 l0 a1).f2)) = true := beq_iff_eq.mpr c27
                              have c27b1 : (((rd_T53 l0 x8_2).f0) != ((rd_T53 l0 a1).f2)) = false := bne_eq_false_iff_eq.mpr c27
                              clear c27
                              by_cases c28 : ((rd_T53 l0 x8_2).f1) = 0
                              · rw [if_pos c28] at H
                                have c28b0 : (((rd_T53 l0 x8_2).f1) == 0) = true := beq_iff_eq.mpr c28
                                have c28b1 : (((rd_T53 l0 x8_2).f1) != 0) = false := bne_eq_false_iff_eq.mpr c28
                                clear c28
                                by_cases c29 : ((rd_T53 l0 a1).f0) = 12
                                · rw [if_pos c29] at H
                                  have c29b0 : (((rd_T53 l0 a1).f0) == 12) = true := beq_iff_eq.mpr c29
                                  have c29b1 : (((rd_T53 l0 a1).f0) != 12) = false := bne_eq_false_iff_eq.mpr c29
                                  clear c29
                                  by_cases c30 : ((rd_T53 l0 x8_2).f1) ≤ x9_2
                                  · rw [if_pos c30] at H
                                    have c30b0 : decide (((rd_T53 l0 x8_2).f1) ≤ x9_2) = true := decide_eq_true c30
                                    clear c30
                                    have H' := Aside0.mk H
                                    clear H
                                    have hnb31 := NB314_316.out
                                    have hnc31 := NB316_314.out
                                    have hcz32_0 : w23.cell? ⟨gb314, 0, none⟩ = some (.int .i64 ((rd_T53 l0 a1).f0)) := (blk_cell BK314.out 0).trans rfl
                                    have hcz32_1 : w23.cell? ⟨gb314, 1, none⟩ = some (.int .i64 ((rd_T53 l0 a1).f1)) := (blk_cell BK314.out 1).trans rfl
                                    have hcz32_2 : w23.cell? ⟨gb314, 2, none⟩ = some (.int .i64 ((rd_T53 l0 a1).f2)) := (blk_cell BK314.out 2).trans rfl
                                    have hcz32_3 : w23.cell? ⟨gb314, 3, none⟩ = some (.string ((rd_T53 l0 a1).f3)) := (blk_cell BK314.out 3).trans rfl
                                    have hcz32_4 : w23.cell? ⟨gb314, 4, none⟩ = some (.int .i64 ((rd_T53 l0 a1).f4)) := (blk_cell BK314.out 4).trans rfl
                                    have hfz32_0 := blk_frozen BK314.out 0
                                    have hfz32_1 := blk_frozen BK314.out 1
                                    have hfz32_2 := blk_frozen BK314.out 2
                                    have hfz32_3 := blk_frozen BK314.out 3
                                    have hfz32_4 := blk_frozen BK314.out 4
                                    have hcz33_0 : w23.cell? ⟨gb316, 0, none⟩ = some (.int .i64 0) := (blk_cell BK316.out 0).trans rfl
                                    have hcz33_1 : w23.cell? ⟨gb316, 1, none⟩ = some (.int .i64 0) := (blk_cell BK316.out 1).trans rfl
                                    have hcz33_2 : w23.cell? ⟨gb316, 2, none⟩ = some (.int .i64 0) := (blk_cell BK316.out 2).trans rfl
                                    have hcz33_3 : w23.cell? ⟨gb316, 3, none⟩ = some (.string (⟨#[]⟩ : ByteArray)) := (blk_cell BK316.out 3).trans rfl
                                    have hcz33_4 : w23.cell? ⟨gb316, 4, none⟩ = some (.int .i64 0) := (blk_cell BK316.out 4).trans rfl
                                    have hfz33_0 := blk_frozen BK316.out 0
                                    have hfz33_1 := blk_frozen BK316.out 1
                                    have hfz33_2 := blk_frozen BK316.out 2
                                    have hfz33_3 := blk_frozen BK316.out 3
                                    have hfz33_4 := blk_frozen BK316.out 4
                                    go_wp2
                                    go_meet
                                    case rel => exact ⟨_, (true), (by first | rfl | (simp; done) | (simp [*]; done)), H', ⟨by have := HJ3.out; have := HK2.out; first | omega | exact Nat.le_refl _⟩, ⟨by (with_reducible repeat (first | refine blk_drewN ?_ _ | refine blk_drew ?_ | refine blk_alloc ?_ _)); refine blk_far ?_ NB314_316.out _; (with_reducible repeat (first | refine blk_drewN ?_ _ | refine blk_drew ?_ | refine blk_alloc ?_ _)); refine blk_far ?_ NB314_316.out _; (with_reducible repeat (first | refine blk_drewN ?_ _ | refine blk_drew ?_ | refine blk_alloc ?_ _)); refine blk_far ?_ NB314_316.out _; (with_reducible repeat (first | refine blk_drewN ?_ _ | refine blk_drew ?_ | refine blk_alloc ?_ _)); refine blk_far ?_ NB314_316.out _; (with_reducible repeat (first | refine blk_drewN ?_ _ | refine blk_drew ?_ | refine blk_alloc ?_ _)); refine blk_far ?_ NB314_316.out _; (with_reducible repeat (first | refine blk_drewN ?_ _ | refine blk_drew ?_ | refine blk_alloc ?_ _)); exact BK314.out⟩, ⟨by (with_reducible repeat (first | refine blk_drewN ?_ _ | refine blk_drew ?_ | refine blk_alloc ?_ _)); refine blk_put (cs := #[.int .i64 ((rd_T53 l0 x8_2).f0), .int .i64 ((rd_T53 l0 x8_2).f1), .int .i64 ((rd_T53 l0 x8_2).f2), .string ((rd_T53 l0 x8_2).f3), .int .i64 0]) ?_ 4 _ rfl; (with_reducible repeat (first | refine blk_drewN ?_ _ | refine blk_drew ?_ | refine blk_alloc ?_ _)); refine blk_put (cs := #[.int .i64 ((rd_T53 l0 x8_2).f0), .int .i64 ((rd_T53 l0 x8_2).f1), .int .i64 ((rd_T53 l0 x8_2).f2), .string (⟨#[]⟩ : ByteArray), .int .i64 0]) ?_ 3 _ rfl; (with_reducible repeat (first | refine blk_drewN ?_ _ | refine blk_drew ?_ | refine blk_alloc ?_ _)); refine blk_put (cs := #[.int .i64 ((rd_T53 l0 x8_2).f0), .int .i64 ((rd_T53 l0 x8_2).f1), .int .i64 0, .string (⟨#[]⟩ : ByteArray), .int .i64 0]) ?_ 2 _ rfl; (with_reducible repeat (first | refine blk_drewN ?_ _ | refine blk_drew ?_ | refine blk_alloc ?_ _)); refine blk_put (cs := #[.int .i64 ((rd_T53 l0 x8_2).f0), .int .i64 0, .int .i64 0, .string (⟨#[]⟩ : ByteArray), .int .i64 0]) ?_ 1 _ rfl; (with_reducible repeat (first | refine blk_drewN ?_ _ | refine blk_drew ?_ | refine blk_alloc ?_ _)); refine blk_put (cs := #[.int .i64 0, .int .i64 0, .int .i64 0, .string (⟨#[]⟩ : ByteArray), .int .i64 0]) ?_ 0 _ rfl; (with_reducible repeat (first | refine blk_drewN ?_ _ | refine blk_drew ?_ | refine blk_alloc ?_ _)); exact BK316.out⟩, ⟨by repeat (first | (with_reducible first | exact HB.out | apply below_alloc | apply pw_below_drewN | apply below_drew1 | refine below_set ?_ GE314.out | refine below_set ?_ GE316.out) | exact HB.out)⟩⟩
                                  · rw [if_neg c30] at H
                                    have c30b0 : decide (((rd_T53 l0 x8_2).f1) ≤ x9_2) = false := decide_eq_false c30
                                    clear c30
                                    have H' := Aside0.mk H
                                    clear H
                                    have hnb34 := NB314_316.out
                                    have hnc34 := NB316_314.out
                                    have hcz35_0 : w23.cell? ⟨gb314, 0, none⟩ = some (.int .i64 ((rd_T53 l0 a1).f0)) := (blk_cell BK314.out 0).trans rfl
                                    have hcz35_1 : w23.cell? ⟨gb314, 1, none⟩ = some (.int .i64 ((rd_T53 l0 a1).f1)) := (blk_cell BK314.out 1).trans rfl
                                    have hcz35_2 : w23.cell? ⟨gb314, 2, none⟩ = some (.int .i64 ((rd_T53 l0 a1).f2)) := (blk_cell BK314.out 2).trans rfl
                                    have hcz35_3 : w23.cell? ⟨gb314, 3, none⟩ = some (.string ((rd_T53 l0 a1).f3)) := (blk_cell BK314.out 3).trans rfl
                                    have hcz35_4 : w23.cell? ⟨gb314, 4, none⟩ = some (.int .i64 ((rd_T53 l0 a1).f4)) := (blk_cell BK314.out 4).trans rfl
                                    have hfz35_0 := blk_frozen BK314.out 0
                                    have hfz35_1 := blk_frozen BK314.out 1
                                    have hfz35_2 := blk_frozen BK314.out 2
                                    have hfz35_3 := blk_frozen BK314.out 3
                                    have hfz35_4 := blk_frozen BK314.out 4
                                    have hcz36_0 : w23.cell? ⟨gb316, 0, none⟩ = some (.int .i64 0) := (blk_cell BK316.out 0).trans rfl
                                    have hcz36_1 : w23.cell? ⟨gb316, 1, none⟩ = some (.int .i64 0) := (blk_cell BK316.out 1).trans rfl
                                    have hcz36_2 : w23.cell? ⟨gb316, 2, none⟩ = some (.int .i64 0) := (blk_cell BK316.out 2).trans rfl
                                    have hcz36_3 : w23.cell? ⟨gb316, 3, none⟩ = some (.string (⟨#[]⟩ : ByteArray)) := (blk_cell BK316.out 3).trans rfl
                                    have hcz36_4 : w23.cell? ⟨gb316, 4, none⟩ = some (.int .i64 0) := (blk_cell BK316.out 4).trans rfl
                                    have hfz36_0 := blk_frozen BK316.out 0
                                    have hfz36_1 := blk_frozen BK316.out 1
                                    have hfz36_2 := blk_frozen BK316.out 2
                                    have hfz36_3 := blk_frozen BK316.out 3
                                    have hfz36_4 := blk_frozen BK316.out 4
                                    go_wp2
                                    go_meet
                                    case rel => exact ⟨_, (decide (((rd_T53 l0 x8_2).f1) > 1000)), (by first | rfl | (simp; done) | (simp [*]; done)), H', ⟨by have := HJ3.out; have := HK2.out; first | omega | exact Nat.le_refl _⟩, ⟨by (with_reducible repeat (first | refine blk_drewN ?_ _ | refine blk_drew ?_ | refine blk_alloc ?_ _)); refine blk_far ?_ NB314_316.out _; (with_reducible repeat (first | refine blk_drewN ?_ _ | refine blk_drew ?_ | refine blk_alloc ?_ _)); refine blk_far ?_ NB314_316.out _; (with_reducible repeat (first | refine blk_drewN ?_ _ | refine blk_drew ?_ | refine blk_alloc ?_ _)); refine blk_far ?_ NB314_316.out _; (with_reducible repeat (first | refine blk_drewN ?_ _ | refine blk_drew ?_ | refine blk_alloc ?_ _)); refine blk_far ?_ NB314_316.out _; (with_reducible repeat (first | refine blk_drewN ?_ _ | refine blk_drew ?_ | refine blk_alloc ?_ _)); refine blk_far ?_ NB314_316.out _; (with_reducible repeat (first | refine blk_drewN ?_ _ | refine blk_drew ?_ | refine blk_alloc ?_ _)); exact BK314.out⟩, ⟨by (with_reducible repeat (first | refine blk_drewN ?_ _ | refine blk_drew ?_ | refine blk_alloc ?_ _)); refine blk_put (cs := #[.int .i64 ((rd_T53 l0 x8_2).f0), .int .i64 ((rd_T53 l0 x8_2).f1), .int .i64 ((rd_T53 l0 x8_2).f2), .string ((rd_T53 l0 x8_2).f3), .int .i64 0]) ?_ 4 _ rfl; (with_reducible repeat (first | refine blk_drewN ?_ _ | refine blk_drew ?_ | refine blk_alloc ?_ _)); refine blk_put (cs := #[.int .i64 ((rd_T53 l0 x8_2).f0), .int .i64 ((rd_T53 l0 x8_2).f1), .int .i64 ((rd_T53 l0 x8_2).f2), .string (⟨#[]⟩ : ByteArray), .int .i64 0]) ?_ 3 _ rfl; (with_reducible repeat (first | refine blk_drewN ?_ _ | refine blk_drew ?_ | refine blk_alloc ?_ _)); refine blk_put (cs := #[.int .i64 ((rd_T53 l0 x8_2).f0), .int .i64 ((rd_T53 l0 x8_2).f1), .int .i64 0, .string (⟨#[]⟩ : ByteArray), .int .i64 0]) ?_ 2 _ rfl; (with_reducible repeat (first | refine blk_drewN ?_ _ | refine blk_drew ?_ | refine blk_alloc ?_ _)); refine blk_put (cs := #[.int .i64 ((rd_T53 l0 x8_2).f0), .int .i64 0, .int .i64 0, .string (⟨#[]⟩ : ByteArray), .int .i64 0]) ?_ 1 _ rfl; (with_reducible repeat (first | refine blk_drewN ?_ _ | refine blk_drew ?_ | refine blk_alloc ?_ _)); refine blk_put (cs := #[.int .i64 0, .int .i64 0, .int .i64 0, .string (⟨#[]⟩ : ByteArray), .int .i64 0]) ?_ 0 _ rfl; (with_reducible repeat (first | refine blk_drewN ?_ _ | refine blk_drew ?_ | refine blk_alloc ?_ _)); exact BK316.out⟩, ⟨by repeat (first | (with_reducible first | exact HB.out | apply below_alloc | apply pw_below_drewN | apply below_drew1 | refine below_set ?_ GE314.out | refine below_set ?_ GE316.out) | exact HB.out)⟩⟩
                                · rw [if_neg c29] at H
                                  have c29b0 : (((rd_T53 l0 a1).f0) == 12) = false := beq_eq_false_iff_ne.mpr c29
                                  have c29b1 : (((rd_T53 l0 a1).f0) != 12) = true := bne_iff_ne.mpr c29
                                  have H' := Aside0.mk H
                                  clear H
                                  have hnb37 := NB314_316.out
                                  have hnc37 := NB316_314.out
                                  have hcz38_0 : w23.cell? ⟨gb314, 0, none⟩ = some (.int .i64 ((rd_T53 l0 a1).f0)) := (blk_cell BK314.out 0).trans rfl
                                  have hcz38_1 : w23.cell? ⟨gb314, 1, none⟩ = some (.int .i64 ((rd_T53 l0 a1).f1)) := (blk_cell BK314.out 1).trans rfl
                                  have hcz38_2 : w23.cell? ⟨gb314, 2, none⟩ = some (.int .i64 ((rd_T53 l0 a1).f2)) := (blk_cell BK314.out 2).trans rfl
                                  have hcz38_3 : w23.cell? ⟨gb314, 3, none⟩ = some (.string ((rd_T53 l0 a1).f3)) := (blk_cell BK314.out 3).trans rfl
                                  have hcz38_4 : w23.cell? ⟨gb314, 4, none⟩ = some (.int .i64 ((rd_T53 l0 a1).f4)) := (blk_cell BK314.out 4).trans rfl
                                  have hfz38_0 := blk_frozen BK314.out 0
                                  have hfz38_1 := blk_frozen BK314.out 1
                                  have hfz38_2 := blk_frozen BK314.out 2
                                  have hfz38_3 := blk_frozen BK314.out 3
                                  have hfz38_4 := blk_frozen BK314.out 4
                                  have hcz39_0 : w23.cell? ⟨gb316, 0, none⟩ = some (.int .i64 0) := (blk_cell BK316.out 0).trans rfl
                                  have hcz39_1 : w23.cell? ⟨gb316, 1, none⟩ = some (.int .i64 0) := (blk_cell BK316.out 1).trans rfl
                                  have hcz39_2 : w23.cell? ⟨gb316, 2, none⟩ = some (.int .i64 0) := (blk_cell BK316.out 2).trans rfl
                                  have hcz39_3 : w23.cell? ⟨gb316, 3, none⟩ = some (.string (⟨#[]⟩ : ByteArray)) := (blk_cell BK316.out 3).trans rfl
                                  have hcz39_4 : w23.cell? ⟨gb316, 4, none⟩ = some (.int .i64 0) := (blk_cell BK316.out 4).trans rfl
                                  have hfz39_0 := blk_frozen BK316.out 0
                                  have hfz39_1 := blk_frozen BK316.out 1
                                  have hfz39_2 := blk_frozen BK316.out 2
                                  have hfz39_3 := blk_frozen BK316.out 3
                                  have hfz39_4 := blk_frozen BK316.out 4
                                  go_wp2
                                  go_meet
                                  case rel => exact ⟨_, (false), (by first | rfl | (simp; done) | (simp [*]; done)), H', ⟨by have := HJ3.out; have := HK2.out; first | omega | exact Nat.le_refl _⟩, ⟨by (with_reducible repeat (first | refine blk_drewN ?_ _ | refine blk_drew ?_ | refine blk_alloc ?_ _)); refine blk_far ?_ NB314_316.out _; (with_reducible repeat (first | refine blk_drewN ?_ _ | refine blk_drew ?_ | refine blk_alloc ?_ _)); refine blk_far ?_ NB314_316.out _; (with_reducible repeat (first | refine blk_drewN ?_ _ | refine blk_drew ?_ | refine blk_alloc ?_ _)); refine blk_far ?_ NB314_316.out _; (with_reducible repeat (first | refine blk_drewN ?_ _ | refine blk_drew ?_ | refine blk_alloc ?_ _)); refine blk_far ?_ NB314_316.out _; (with_reducible repeat (first | refine blk_drewN ?_ _ | refine blk_drew ?_ | refine blk_alloc ?_ _)); refine blk_far ?_ NB314_316.out _; (with_reducible repeat (first | refine blk_drewN ?_ _ | refine blk_drew ?_ | refine blk_alloc ?_ _)); exact BK314.out⟩, ⟨by (with_reducible repeat (first | refine blk_drewN ?_ _ | refine blk_drew ?_ | refine blk_alloc ?_ _)); refine blk_put (cs := #[.int .i64 ((rd_T53 l0 x8_2).f0), .int .i64 ((rd_T53 l0 x8_2).f1), .int .i64 ((rd_T53 l0 x8_2).f2), .string ((rd_T53 l0 x8_2).f3), .int .i64 0]) ?_ 4 _ rfl; (with_reducible repeat (first | refine blk_drewN ?_ _ | refine blk_drew ?_ | refine blk_alloc ?_ _)); refine blk_put (cs := #[.int .i64 ((rd_T53 l0 x8_2).f0), .int .i64 ((rd_T53 l0 x8_2).f1), .int .i64 ((rd_T53 l0 x8_2).f2), .string (⟨#[]⟩ : ByteArray), .int .i64 0]) ?_ 3 _ rfl; (with_reducible repeat (first | refine blk_drewN ?_ _ | refine blk_drew ?_ | refine blk_alloc ?_ _)); refine blk_put (cs := #[.int .i64 ((rd_T53 l0 x8_2).f0), .int .i64 ((rd_T53 l0 x8_2).f1), .int .i64 0, .string (⟨#[]⟩ : ByteArray), .int .i64 0]) ?_ 2 _ rfl; (with_reducible repeat (first | refine blk_drewN ?_ _ | refine blk_drew ?_ | refine blk_alloc ?_ _)); refine blk_put (cs := #[.int .i64 ((rd_T53 l0 x8_2).f0), .int .i64 0, .int .i64 0, .string (⟨#[]⟩ : ByteArray), .int .i64 0]) ?_ 1 _ rfl; (with_reducible repeat (first | refine blk_drewN ?_ _ | refine blk_drew ?_ | refine blk_alloc ?_ _)); refine blk_put (cs := #[.int .i64 0, .int .i64 0, .int .i64 0, .string (⟨#[]⟩ : ByteArray), .int .i64 0]) ?_ 0 _ rfl; (with_reducible repeat (first | refine blk_drewN ?_ _ | refine blk_drew ?_ | refine blk_alloc ?_ _)); exact BK316.out⟩, ⟨by repeat (first | (with_reducible first | exact HB.out | apply below_alloc | apply pw_below_drewN | apply below_drew1 | refine below_set ?_ GE314.out | refine below_set ?_ GE316.out) | exact HB.out)⟩⟩
                              · rw [if_neg c28] at H
                                have c28b0 : (((rd_T53 l0 x8_2).f1) == 0) = false := beq_eq_false_iff_ne.mpr c28
                                have c28b1 : (((rd_T53 l0 x8_2).f1) != 0) = true := bne_iff_ne.mpr c28
                                have H' := Aside0.mk H
                                clear H
                                have hnb40 := NB314_316.out
                                have hnc40 := NB316_314.out
                                have hcz41_0 : w23.cell? ⟨gb314, 0, none⟩ = some (.int .i64 ((rd_T53 l0 a1).f0)) := (blk_cell BK314.out 0).trans rfl
                                have hcz41_1 : w23.cell? ⟨gb314, 1, none⟩ = some (.int .i64 ((rd_T53 l0 a1).f1)) := (blk_cell BK314.out 1).trans rfl
                                have hcz41_2 : w23.cell? ⟨gb314, 2, none⟩ = some (.int .i64 ((rd_T53 l0 a1).f2)) := (blk_cell BK314.out 2).trans rfl
                                have hcz41_3 : w23.cell? ⟨gb314, 3, none⟩ = some (.string ((rd_T53 l0 a1).f3)) := (blk_cell BK314.out 3).trans rfl
                                have hcz41_4 : w23.cell? ⟨gb314, 4, none⟩ = some (.int .i64 ((rd_T53 l0 a1).f4)) := (blk_cell BK314.out 4).trans rfl
                                have hfz41_0 := blk_frozen BK314.out 0
                                have hfz41_1 := blk_frozen BK314.out 1
                                have hfz41_2 := blk_frozen BK314.out 2
                                have hfz41_3 := blk_frozen BK314.out 3
                                have hfz41_4 := blk_frozen BK314.out 4
                                have hcz42_0 : w23.cell? ⟨gb316, 0, none⟩ = some (.int .i64 0) := (blk_cell BK316.out 0).trans rfl
                                have hcz42_1 : w23.cell? ⟨gb316, 1, none⟩ = some (.int .i64 0) := (blk_cell BK316.out 1).trans rfl
                                have hcz42_2 : w23.cell? ⟨gb316, 2, none⟩ = some (.int .i64 0) := (blk_cell BK316.out 2).trans rfl
                                have hcz42_3 : w23.cell? ⟨gb316, 3, none⟩ = some (.string (⟨#[]⟩ : ByteArray)) := (blk_cell BK316.out 3).trans rfl
                                have hcz42_4 : w23.cell? ⟨gb316, 4, none⟩ = some (.int .i64 0) := (blk_cell BK316.out 4).trans rfl
                                have hfz42_0 := blk_frozen BK316.out 0
                                have hfz42_1 := blk_frozen BK316.out 1
                                have hfz42_2 := blk_frozen BK316.out 2
                                have hfz42_3 := blk_frozen BK316.out 3
                                have hfz42_4 := blk_frozen BK316.out 4
                                go_wp2
                                go_meet
                                case rel => exact ⟨_, (true), (by first | rfl | (simp; done) | (simp [*]; done)), H', ⟨by have := HJ3.out; have := HK2.out; first | omega | exact Nat.le_refl _⟩, ⟨by (with_reducible repeat (first | refine blk_drewN ?_ _ | refine blk_drew ?_ | refine blk_alloc ?_ _)); refine blk_far ?_ NB314_316.out _; (with_reducible repeat (first | refine blk_drewN ?_ _ | refine blk_drew ?_ | refine blk_alloc ?_ _)); refine blk_far ?_ NB314_316.out _; (with_reducible repeat (first | refine blk_drewN ?_ _ | refine blk_drew ?_ | refine blk_alloc ?_ _)); refine blk_far ?_ NB314_316.out _; (with_reducible repeat (first | refine blk_drewN ?_ _ | refine blk_drew ?_ | refine blk_alloc ?_ _)); refine blk_far ?_ NB314_316.out _; (with_reducible repeat (first | refine blk_drewN ?_ _ | refine blk_drew ?_ | refine blk_alloc ?_ _)); refine blk_far ?_ NB314_316.out _; (with_reducible repeat (first | refine blk_drewN ?_ _ | refine blk_drew ?_ | refine blk_alloc ?_ _)); exact BK314.out⟩, ⟨by (with_reducible repeat (first | refine blk_drewN ?_ _ | refine blk_drew ?_ | refine blk_alloc ?_ _)); refine blk_put (cs := #[.int .i64 ((rd_T53 l0 x8_2).f0), .int .i64 ((rd_T53 l0 x8_2).f1), .int .i64 ((rd_T53 l0 x8_2).f2), .string ((rd_T53 l0 x8_2).f3), .int .i64 0]) ?_ 4 _ rfl; (with_reducible repeat (first | refine blk_drewN ?_ _ | refine blk_drew ?_ | refine blk_alloc ?_ _)); refine blk_put (cs := #[.int .i64 ((rd_T53 l0 x8_2).f0), .int .i64 ((rd_T53 l0 x8_2).f1), .int .i64 ((rd_T53 l0 x8_2).f2), .string (⟨#[]⟩ : ByteArray), .int .i64 0]) ?_ 3 _ rfl; (with_reducible repeat (first | refine blk_drewN ?_ _ | refine blk_drew ?_ | refine blk_alloc ?_ _)); refine blk_put (cs := #[.int .i64 ((rd_T53 l0 x8_2).f0), .int .i64 ((rd_T53 l0 x8_2).f1), .int .i64 0, .string (⟨#[]⟩ : ByteArray), .int .i64 0]) ?_ 2 _ rfl; (with_reducible repeat (first | refine blk_drewN ?_ _ | refine blk_drew ?_ | refine blk_alloc ?_ _)); refine blk_put (cs := #[.int .i64 ((rd_T53 l0 x8_2).f0), .int .i64 0, .int .i64 0, .string (⟨#[]⟩ : ByteArray), .int .i64 0]) ?_ 1 _ rfl; (with_reducible repeat (first | refine blk_drewN ?_ _ | refine blk_drew ?_ | refine blk_alloc ?_ _)); refine blk_put (cs := #[.int .i64 0, .int .i64 0, .int .i64 0, .string (⟨#[]⟩ : ByteArray), .int .i64 0]) ?_ 0 _ rfl; (with_reducible repeat (first | refine blk_drewN ?_ _ | refine blk_drew ?_ | refine blk_alloc ?_ _)); exact BK316.out⟩, ⟨by repeat (first | (with_reducible first | exact HB.out | apply below_alloc | apply pw_below_drewN | apply below_drew1 | refine below_set ?_ GE314.out | refine below_set ?_ GE316.out) | exact HB.out)⟩⟩
                            · rw [if_neg c27] at H
                              have c27b0 : (((rd_T53 l0 x8_2).f0) == ((rd_T53 l0 a1).f2)) = false := beq_eq_false_iff_ne.mpr c27
                              have c27b1 : (((rd_T53 l0 x8_2).f0) != ((rd_T53 l0 a1).f2)) = true := bne_iff_ne.mpr c27
                              have H' := Aside0.mk H
                              clear H
                              have hnb43 := NB314_316.out
                              have hnc43 := NB316_314.out
                              have hcz44_0 : w23.cell? ⟨gb314, 0, none⟩ = some (.int .i64 ((rd_T53 l0 a1).f0)) := (blk_cell BK314.out 0).trans rfl
                              have hcz44_1 : w23.cell? ⟨gb314, 1, none⟩ = some (.int .i64 ((rd_T53 l0 a1).f1)) := (blk_cell BK314.out 1).trans rfl
                              have hcz44_2 : w23.cell? ⟨gb314, 2, none⟩ = some (.int .i64 ((rd_T53 l0 a1).f2)) := (blk_cell BK314.out 2).trans rfl
                              have hcz44_3 : w23.cell? ⟨gb314, 3, none⟩ = some (.string ((rd_T53 l0 a1).f3)) := (blk_cell BK314.out 3).trans rfl
                              have hcz44_4 : w23.cell? ⟨gb314, 4, none⟩ = some (.int .i64 ((rd_T53 l0 a1).f4)) := (blk_cell BK314.out 4).trans rfl
                              have hfz44_0 := blk_frozen BK314.out 0
                              have hfz44_1 := blk_frozen BK314.out 1
                              have hfz44_2 := blk_frozen BK314.out 2
                              have hfz44_3 := blk_frozen BK314.out 3
                              have hfz44_4 := blk_frozen BK314.out 4
                              have hcz45_0 : w23.cell? ⟨gb316, 0, none⟩ = some (.int .i64 0) := (blk_cell BK316.out 0).trans rfl
                              have hcz45_1 : w23.cell? ⟨gb316, 1, none⟩ = some (.int .i64 0) := (blk_cell BK316.out 1).trans rfl
                              have hcz45_2 : w23.cell? ⟨gb316, 2, none⟩ = some (.int .i64 0) := (blk_cell BK316.out 2).trans rfl
                              have hcz45_3 : w23.cell? ⟨gb316, 3, none⟩ = some (.string (⟨#[]⟩ : ByteArray)) := (blk_cell BK316.out 3).trans rfl
                              have hcz45_4 : w23.cell? ⟨gb316, 4, none⟩ = some (.int .i64 0) := (blk_cell BK316.out 4).trans rfl
                              have hfz45_0 := blk_frozen BK316.out 0
                              have hfz45_1 := blk_frozen BK316.out 1
                              have hfz45_2 := blk_frozen BK316.out 2
                              have hfz45_3 := blk_frozen BK316.out 3
                              have hfz45_4 := blk_frozen BK316.out 4
                              go_wp2
                              go_meet
                              case rel => exact ⟨_, (true), (by first | rfl | (simp; done) | (simp [*]; done)), H', ⟨by have := HJ3.out; have := HK2.out; first | omega | exact Nat.le_refl _⟩, ⟨by (with_reducible repeat (first | refine blk_drewN ?_ _ | refine blk_drew ?_ | refine blk_alloc ?_ _)); refine blk_far ?_ NB314_316.out _; (with_reducible repeat (first | refine blk_drewN ?_ _ | refine blk_drew ?_ | refine blk_alloc ?_ _)); refine blk_far ?_ NB314_316.out _; (with_reducible repeat (first | refine blk_drewN ?_ _ | refine blk_drew ?_ | refine blk_alloc ?_ _)); refine blk_far ?_ NB314_316.out _; (with_reducible repeat (first | refine blk_drewN ?_ _ | refine blk_drew ?_ | refine blk_alloc ?_ _)); refine blk_far ?_ NB314_316.out _; (with_reducible repeat (first | refine blk_drewN ?_ _ | refine blk_drew ?_ | refine blk_alloc ?_ _)); refine blk_far ?_ NB314_316.out _; (with_reducible repeat (first | refine blk_drewN ?_ _ | refine blk_drew ?_ | refine blk_alloc ?_ _)); exact BK314.out⟩, ⟨by (with_reducible repeat (first | refine blk_drewN ?_ _ | refine blk_drew ?_ | refine blk_alloc ?_ _)); refine blk_put (cs := #[.int .i64 ((rd_T53 l0 x8_2).f0), .int .i64 ((rd_T53 l0 x8_2).f1), .int .i64 ((rd_T53 l0 x8_2).f2), .string ((rd_T53 l0 x8_2).f3), .int .i64 0]) ?_ 4 _ rfl; (with_reducible repeat (first | refine blk_drewN ?_ _ | refine blk_drew ?_ | refine blk_alloc ?_ _)); refine blk_put (cs := #[.int .i64 ((rd_T53 l0 x8_2).f0), .int .i64 ((rd_T53 l0 x8_2).f1), .int .i64 ((rd_T53 l0 x8_2).f2), .string (⟨#[]⟩ : ByteArray), .int .i64 0]) ?_ 3 _ rfl; (with_reducible repeat (first | refine blk_drewN ?_ _ | refine blk_drew ?_ | refine blk_alloc ?_ _)); refine blk_put (cs := #[.int .i64 ((rd_T53 l0 x8_2).f0), .int .i64 ((rd_T53 l0 x8_2).f1), .int .i64 0, .string (⟨#[]⟩ : ByteArray), .int .i64 0]) ?_ 2 _ rfl; (with_reducible repeat (first | refine blk_drewN ?_ _ | refine blk_drew ?_ | refine blk_alloc ?_ _)); refine blk_put (cs := #[.int .i64 ((rd_T53 l0 x8_2).f0), .int .i64 0, .int .i64 0, .string (⟨#[]⟩ : ByteArray), .int .i64 0]) ?_ 1 _ rfl; (with_reducible repeat (first | refine blk_drewN ?_ _ | refine blk_drew ?_ | refine blk_alloc ?_ _)); refine blk_put (cs := #[.int .i64 0, .int .i64 0, .int .i64 0, .string (⟨#[]⟩ : ByteArray), .int .i64 0]) ?_ 0 _ rfl; (with_reducible repeat (first | refine blk_drewN ?_ _ | refine blk_drew ?_ | refine blk_alloc ?_ _)); exact BK316.out⟩, ⟨by repeat (first | (with_reducible first | exact HB.out | apply below_alloc | apply pw_below_drewN | apply below_drew1 | refine below_set ?_ GE314.out | refine below_set ?_ GE316.out) | exact HB.out)⟩⟩
                          · rw [if_neg c26] at H
                            have c26b0 : (((rd_T53 l0 a1).f0) == 9) = false := beq_eq_false_iff_ne.mpr c26
                            have c26b1 : (((rd_T53 l0 a1).f0) != 9) = true := bne_iff_ne.mpr c26
                            (first | rw [c26b0] | rw [c26b1] | (simp only [i64_w, i32_w]; rw [c26b0]) | skip)
                            by_cases c46 : ((rd_T53 l0 a1).f0) = 12
                            · rw [if_pos c46] at H
                              have c46b0 : (((rd_T53 l0 a1).f0) == 12) = true := beq_iff_eq.mpr c46
                              have c46b1 : (((rd_T53 l0 a1).f0) != 12) = false := bne_eq_false_iff_eq.mpr c46
                              clear c46
                              by_cases c47 : ((rd_T53 l0 x8_2).f1) ≤ x9_2
                              · rw [if_pos c47] at H
                                have c47b0 : decide (((rd_T53 l0 x8_2).f1) ≤ x9_2) = true := decide_eq_true c47
                                clear c47
                                have H' := Aside0.mk H
                                clear H
                                have hnb48 := NB314_316.out
                                have hnc48 := NB316_314.out
                                have hcz49_0 : w23.cell? ⟨gb314, 0, none⟩ = some (.int .i64 ((rd_T53 l0 a1).f0)) := (blk_cell BK314.out 0).trans rfl
                                have hcz49_1 : w23.cell? ⟨gb314, 1, none⟩ = some (.int .i64 ((rd_T53 l0 a1).f1)) := (blk_cell BK314.out 1).trans rfl
                                have hcz49_2 : w23.cell? ⟨gb314, 2, none⟩ = some (.int .i64 ((rd_T53 l0 a1).f2)) := (blk_cell BK314.out 2).trans rfl
                                have hcz49_3 : w23.cell? ⟨gb314, 3, none⟩ = some (.string ((rd_T53 l0 a1).f3)) := (blk_cell BK314.out 3).trans rfl
                                have hcz49_4 : w23.cell? ⟨gb314, 4, none⟩ = some (.int .i64 ((rd_T53 l0 a1).f4)) := (blk_cell BK314.out 4).trans rfl
                                have hfz49_0 := blk_frozen BK314.out 0
                                have hfz49_1 := blk_frozen BK314.out 1
                                have hfz49_2 := blk_frozen BK314.out 2
                                have hfz49_3 := blk_frozen BK314.out 3
                                have hfz49_4 := blk_frozen BK314.out 4
                                have hcz50_0 : w23.cell? ⟨gb316, 0, none⟩ = some (.int .i64 0) := (blk_cell BK316.out 0).trans rfl
                                have hcz50_1 : w23.cell? ⟨gb316, 1, none⟩ = some (.int .i64 0) := (blk_cell BK316.out 1).trans rfl
                                have hcz50_2 : w23.cell? ⟨gb316, 2, none⟩ = some (.int .i64 0) := (blk_cell BK316.out 2).trans rfl
                                have hcz50_3 : w23.cell? ⟨gb316, 3, none⟩ = some (.string (⟨#[]⟩ : ByteArray)) := (blk_cell BK316.out 3).trans rfl
                                have hcz50_4 : w23.cell? ⟨gb316, 4, none⟩ = some (.int .i64 0) := (blk_cell BK316.out 4).trans rfl
                                have hfz50_0 := blk_frozen BK316.out 0
                                have hfz50_1 := blk_frozen BK316.out 1
                                have hfz50_2 := blk_frozen BK316.out 2
                                have hfz50_3 := blk_frozen BK316.out 3
                                have hfz50_4 := blk_frozen BK316.out 4
                                go_wp2
                                go_meet
                                case rel => exact ⟨_, (true), (by first | rfl | (simp; done) | (simp [*]; done)), H', ⟨by have := HJ3.out; have := HK2.out; first | omega | exact Nat.le_refl _⟩, ⟨by (with_reducible repeat (first | refine blk_drewN ?_ _ | refine blk_drew ?_ | refine blk_alloc ?_ _)); refine blk_far ?_ NB314_316.out _; (with_reducible repeat (first | refine blk_drewN ?_ _ | refine blk_drew ?_ | refine blk_alloc ?_ _)); refine blk_far ?_ NB314_316.out _; (with_reducible repeat (first | refine blk_drewN ?_ _ | refine blk_drew ?_ | refine blk_alloc ?_ _)); refine blk_far ?_ NB314_316.out _; (with_reducible repeat (first | refine blk_drewN ?_ _ | refine blk_drew ?_ | refine blk_alloc ?_ _)); refine blk_far ?_ NB314_316.out _; (with_reducible repeat (first | refine blk_drewN ?_ _ | refine blk_drew ?_ | refine blk_alloc ?_ _)); refine blk_far ?_ NB314_316.out _; (with_reducible repeat (first | refine blk_drewN ?_ _ | refine blk_drew ?_ | refine blk_alloc ?_ _)); exact BK314.out⟩, ⟨by (with_reducible repeat (first | refine blk_drewN ?_ _ | refine blk_drew ?_ | refine blk_alloc ?_ _)); refine blk_put (cs := #[.int .i64 ((rd_T53 l0 x8_2).f0), .int .i64 ((rd_T53 l0 x8_2).f1), .int .i64 ((rd_T53 l0 x8_2).f2), .string ((rd_T53 l0 x8_2).f3), .int .i64 0]) ?_ 4 _ rfl; (with_reducible repeat (first | refine blk_drewN ?_ _ | refine blk_drew ?_ | refine blk_alloc ?_ _)); refine blk_put (cs := #[.int .i64 ((rd_T53 l0 x8_2).f0), .int .i64 ((rd_T53 l0 x8_2).f1), .int .i64 ((rd_T53 l0 x8_2).f2), .string (⟨#[]⟩ : ByteArray), .int .i64 0]) ?_ 3 _ rfl; (with_reducible repeat (first | refine blk_drewN ?_ _ | refine blk_drew ?_ | refine blk_alloc ?_ _)); refine blk_put (cs := #[.int .i64 ((rd_T53 l0 x8_2).f0), .int .i64 ((rd_T53 l0 x8_2).f1), .int .i64 0, .string (⟨#[]⟩ : ByteArray), .int .i64 0]) ?_ 2 _ rfl; (with_reducible repeat (first | refine blk_drewN ?_ _ | refine blk_drew ?_ | refine blk_alloc ?_ _)); refine blk_put (cs := #[.int .i64 ((rd_T53 l0 x8_2).f0), .int .i64 0, .int .i64 0, .string (⟨#[]⟩ : ByteArray), .int .i64 0]) ?_ 1 _ rfl; (with_reducible repeat (first | refine blk_drewN ?_ _ | refine blk_drew ?_ | refine blk_alloc ?_ _)); refine blk_put (cs := #[.int .i64 0, .int .i64 0, .int .i64 0, .string (⟨#[]⟩ : ByteArray), .int .i64 0]) ?_ 0 _ rfl; (with_reducible repeat (first | refine blk_drewN ?_ _ | refine blk_drew ?_ | refine blk_alloc ?_ _)); exact BK316.out⟩, ⟨by repeat (first | (with_reducible first | exact HB.out | apply below_alloc | apply pw_below_drewN | apply below_drew1 | refine below_set ?_ GE314.out | refine below_set ?_ GE316.out) | exact HB.out)⟩⟩
                              · rw [if_neg c47] at H
                                have c47b0 : decide (((rd_T53 l0 x8_2).f1) ≤ x9_2) = false := decide_eq_false c47
                                clear c47
                                have H' := Aside0.mk H
                                clear H
                                have hnb51 := NB314_316.out
                                have hnc51 := NB316_314.out
                                have hcz52_0 : w23.cell? ⟨gb314, 0, none⟩ = some (.int .i64 ((rd_T53 l0 a1).f0)) := (blk_cell BK314.out 0).trans rfl
                                have hcz52_1 : w23.cell? ⟨gb314, 1, none⟩ = some (.int .i64 ((rd_T53 l0 a1).f1)) := (blk_cell BK314.out 1).trans rfl
                                have hcz52_2 : w23.cell? ⟨gb314, 2, none⟩ = some (.int .i64 ((rd_T53 l0 a1).f2)) := (blk_cell BK314.out 2).trans rfl
                                have hcz52_3 : w23.cell? ⟨gb314, 3, none⟩ = some (.string ((rd_T53 l0 a1).f3)) := (blk_cell BK314.out 3).trans rfl
                                have hcz52_4 : w23.cell? ⟨gb314, 4, none⟩ = some (.int .i64 ((rd_T53 l0 a1).f4)) := (blk_cell BK314.out 4).trans rfl
                                have hfz52_0 := blk_frozen BK314.out 0
                                have hfz52_1 := blk_frozen BK314.out 1
                                have hfz52_2 := blk_frozen BK314.out 2
                                have hfz52_3 := blk_frozen BK314.out 3
                                have hfz52_4 := blk_frozen BK314.out 4
                                have hcz53_0 : w23.cell? ⟨gb316, 0, none⟩ = some (.int .i64 0) := (blk_cell BK316.out 0).trans rfl
                                have hcz53_1 : w23.cell? ⟨gb316, 1, none⟩ = some (.int .i64 0) := (blk_cell BK316.out 1).trans rfl
                                have hcz53_2 : w23.cell? ⟨gb316, 2, none⟩ = some (.int .i64 0) := (blk_cell BK316.out 2).trans rfl
                                have hcz53_3 : w23.cell? ⟨gb316, 3, none⟩ = some (.string (⟨#[]⟩ : ByteArray)) := (blk_cell BK316.out 3).trans rfl
                                have hcz53_4 : w23.cell? ⟨gb316, 4, none⟩ = some (.int .i64 0) := (blk_cell BK316.out 4).trans rfl
                                have hfz53_0 := blk_frozen BK316.out 0
                                have hfz53_1 := blk_frozen BK316.out 1
                                have hfz53_2 := blk_frozen BK316.out 2
                                have hfz53_3 := blk_frozen BK316.out 3
                                have hfz53_4 := blk_frozen BK316.out 4
                                go_wp2
                                go_meet
                                case rel => exact ⟨_, (decide (((rd_T53 l0 x8_2).f1) > 1000)), (by first | rfl | (simp; done) | (simp [*]; done)), H', ⟨by have := HJ3.out; have := HK2.out; first | omega | exact Nat.le_refl _⟩, ⟨by (with_reducible repeat (first | refine blk_drewN ?_ _ | refine blk_drew ?_ | refine blk_alloc ?_ _)); refine blk_far ?_ NB314_316.out _; (with_reducible repeat (first | refine blk_drewN ?_ _ | refine blk_drew ?_ | refine blk_alloc ?_ _)); refine blk_far ?_ NB314_316.out _; (with_reducible repeat (first | refine blk_drewN ?_ _ | refine blk_drew ?_ | refine blk_alloc ?_ _)); refine blk_far ?_ NB314_316.out _; (with_reducible repeat (first | refine blk_drewN ?_ _ | refine blk_drew ?_ | refine blk_alloc ?_ _)); refine blk_far ?_ NB314_316.out _; (with_reducible repeat (first | refine blk_drewN ?_ _ | refine blk_drew ?_ | refine blk_alloc ?_ _)); refine blk_far ?_ NB314_316.out _; (with_reducible repeat (first | refine blk_drewN ?_ _ | refine blk_drew ?_ | refine blk_alloc ?_ _)); exact BK314.out⟩, ⟨by (with_reducible repeat (first | refine blk_drewN ?_ _ | refine blk_drew ?_ | refine blk_alloc ?_ _)); refine blk_put (cs := #[.int .i64 ((rd_T53 l0 x8_2).f0), .int .i64 ((rd_T53 l0 x8_2).f1), .int .i64 ((rd_T53 l0 x8_2).f2), .string ((rd_T53 l0 x8_2).f3), .int .i64 0]) ?_ 4 _ rfl; (with_reducible repeat (first | refine blk_drewN ?_ _ | refine blk_drew ?_ | refine blk_alloc ?_ _)); refine blk_put (cs := #[.int .i64 ((rd_T53 l0 x8_2).f0), .int .i64 ((rd_T53 l0 x8_2).f1), .int .i64 ((rd_T53 l0 x8_2).f2), .string (⟨#[]⟩ : ByteArray), .int .i64 0]) ?_ 3 _ rfl; (with_reducible repeat (first | refine blk_drewN ?_ _ | refine blk_drew ?_ | refine blk_alloc ?_ _)); refine blk_put (cs := #[.int .i64 ((rd_T53 l0 x8_2).f0), .int .i64 ((rd_T53 l0 x8_2).f1), .int .i64 0, .string (⟨#[]⟩ : ByteArray), .int .i64 0]) ?_ 2 _ rfl; (with_reducible repeat (first | refine blk_drewN ?_ _ | refine blk_drew ?_ | refine blk_alloc ?_ _)); refine blk_put (cs := #[.int .i64 ((rd_T53 l0 x8_2).f0), .int .i64 0, .int .i64 0, .string (⟨#[]⟩ : ByteArray), .int .i64 0]) ?_ 1 _ rfl; (with_reducible repeat (first | refine blk_drewN ?_ _ | refine blk_drew ?_ | refine blk_alloc ?_ _)); refine blk_put (cs := #[.int .i64 0, .int .i64 0, .int .i64 0, .string (⟨#[]⟩ : ByteArray), .int .i64 0]) ?_ 0 _ rfl; (with_reducible repeat (first | refine blk_drewN ?_ _ | refine blk_drew ?_ | refine blk_alloc ?_ _)); exact BK316.out⟩, ⟨by repeat (first | (with_reducible first | exact HB.out | apply below_alloc | apply pw_below_drewN | apply below_drew1 | refine below_set ?_ GE314.out | refine below_set ?_ GE316.out) | exact HB.out)⟩⟩
                            · rw [if_neg c46] at H
                              have c46b0 : (((rd_T53 l0 a1).f0) == 12) = false := beq_eq_false_iff_ne.mpr c46
                              have c46b1 : (((rd_T53 l0 a1).f0) != 12) = true := bne_iff_ne.mpr c46
                              have H' := Aside0.mk H
                              clear H
                              have hnb54 := NB314_316.out
                              have hnc54 := NB316_314.out
                              have hcz55_0 : w23.cell? ⟨gb314, 0, none⟩ = some (.int .i64 ((rd_T53 l0 a1).f0)) := (blk_cell BK314.out 0).trans rfl
                              have hcz55_1 : w23.cell? ⟨gb314, 1, none⟩ = some (.int .i64 ((rd_T53 l0 a1).f1)) := (blk_cell BK314.out 1).trans rfl
                              have hcz55_2 : w23.cell? ⟨gb314, 2, none⟩ = some (.int .i64 ((rd_T53 l0 a1).f2)) := (blk_cell BK314.out 2).trans rfl
                              have hcz55_3 : w23.cell? ⟨gb314, 3, none⟩ = some (.string ((rd_T53 l0 a1).f3)) := (blk_cell BK314.out 3).trans rfl
                              have hcz55_4 : w23.cell? ⟨gb314, 4, none⟩ = some (.int .i64 ((rd_T53 l0 a1).f4)) := (blk_cell BK314.out 4).trans rfl
                              have hfz55_0 := blk_frozen BK314.out 0
                              have hfz55_1 := blk_frozen BK314.out 1
                              have hfz55_2 := blk_frozen BK314.out 2
                              have hfz55_3 := blk_frozen BK314.out 3
                              have hfz55_4 := blk_frozen BK314.out 4
                              go_wp2
                              go_meet
                              case rel => exact ⟨_, (false), (by first | rfl | (simp; done) | (simp [*]; done)), H', ⟨by have := HJ3.out; have := HK2.out; first | omega | exact Nat.le_refl _⟩, ⟨by (with_reducible repeat (first | refine blk_drewN ?_ _ | refine blk_drew ?_ | refine blk_alloc ?_ _)); refine blk_far ?_ NB314_316.out _; (with_reducible repeat (first | refine blk_drewN ?_ _ | refine blk_drew ?_ | refine blk_alloc ?_ _)); refine blk_far ?_ NB314_316.out _; (with_reducible repeat (first | refine blk_drewN ?_ _ | refine blk_drew ?_ | refine blk_alloc ?_ _)); refine blk_far ?_ NB314_316.out _; (with_reducible repeat (first | refine blk_drewN ?_ _ | refine blk_drew ?_ | refine blk_alloc ?_ _)); refine blk_far ?_ NB314_316.out _; (with_reducible repeat (first | refine blk_drewN ?_ _ | refine blk_drew ?_ | refine blk_alloc ?_ _)); refine blk_far ?_ NB314_316.out _; (with_reducible repeat (first | refine blk_drewN ?_ _ | refine blk_drew ?_ | refine blk_alloc ?_ _)); exact BK314.out⟩, ⟨by (with_reducible repeat (first | refine blk_drewN ?_ _ | refine blk_drew ?_ | refine blk_alloc ?_ _)); refine blk_put (cs := #[.int .i64 ((rd_T53 l0 x8_2).f0), .int .i64 ((rd_T53 l0 x8_2).f1), .int .i64 ((rd_T53 l0 x8_2).f2), .string ((rd_T53 l0 x8_2).f3), .int .i64 0]) ?_ 4 _ rfl; (with_reducible repeat (first | refine blk_drewN ?_ _ | refine blk_drew ?_ | refine blk_alloc ?_ _)); refine blk_put (cs := #[.int .i64 ((rd_T53 l0 x8_2).f0), .int .i64 ((rd_T53 l0 x8_2).f1), .int .i64 ((rd_T53 l0 x8_2).f2), .string (⟨#[]⟩ : ByteArray), .int .i64 0]) ?_ 3 _ rfl; (with_reducible repeat (first | refine blk_drewN ?_ _ | refine blk_drew ?_ | refine blk_alloc ?_ _)); refine blk_put (cs := #[.int .i64 ((rd_T53 l0 x8_2).f0), .int .i64 ((rd_T53 l0 x8_2).f1), .int .i64 0, .string (⟨#[]⟩ : ByteArray), .int .i64 0]) ?_ 2 _ rfl; (with_reducible repeat (first | refine blk_drewN ?_ _ | refine blk_drew ?_ | refine blk_alloc ?_ _)); refine blk_put (cs := #[.int .i64 ((rd_T53 l0 x8_2).f0), .int .i64 0, .int .i64 0, .string (⟨#[]⟩ : ByteArray), .int .i64 0]) ?_ 1 _ rfl; (with_reducible repeat (first | refine blk_drewN ?_ _ | refine blk_drew ?_ | refine blk_alloc ?_ _)); refine blk_put (cs := #[.int .i64 0, .int .i64 0, .int .i64 0, .string (⟨#[]⟩ : ByteArray), .int .i64 0]) ?_ 0 _ rfl; (with_reducible repeat (first | refine blk_drewN ?_ _ | refine blk_drew ?_ | refine blk_alloc ?_ _)); exact BK316.out⟩, ⟨by repeat (first | (with_reducible first | exact HB.out | apply below_alloc | apply pw_below_drewN | apply below_drew1 | refine below_set ?_ GE314.out | refine below_set ?_ GE316.out) | exact HB.out)⟩⟩
                        case rest =>
                          clear HC21
                          try clear c1
                          try clear c2
                          try clear p2
                          try clear c3
                          try clear p3
                          try clear q3
                          try clear hx3
                          try clear c4
                          try clear c5
                          try clear c5b0
                          try clear c6
                          try clear c6b0
                          try clear p6
                          try clear c7
                          try clear c7b0
                          try clear c8
                          try clear c8b0
                          try clear c11
                          try clear c12
                          try clear c12b0
                          try clear c13
                          try clear c13b0
                          try clear c16
                          try clear c16b0
                          try clear c17
                          try clear c17b0
                          try clear c19
                          try clear c19b0
                          try clear c20
                          try clear c20b0
                          try clear c24
                          try clear c26
                          try clear c26b0
                          try clear c26b1
                          try clear c27
                          try clear c27b0
                          try clear c27b1
                          try clear c28
                          try clear c28b0
                          try clear c28b1
                          try clear c29
                          try clear c29b0
                          try clear c29b1
                          try clear c30
                          try clear c30b0
                          try clear c31
                          try clear p31
                          try clear q31
                          try clear hx31
                          try clear c34
                          try clear c37
                          try clear c40
                          try clear c43
                          try clear c46
                          try clear c46b0
                          try clear c46b1
                          try clear c47
                          try clear c47b0
                          try clear c48
                          try clear c51
                          try clear c54
                          try clear hcz15_0
                          try clear hcz15_1
                          try clear hcz15_2
                          try clear hcz15_3
                          try clear hcz15_4
                          try clear hcz18_0
                          try clear hcz18_1
                          try clear hcz18_2
                          try clear hcz18_3
                          try clear hcz18_4
                          try clear hcz22_0
                          try clear hcz22_1
                          try clear hcz22_2
                          try clear hcz22_3
                          try clear hcz22_4
                          try clear hcz25_0
                          try clear hcz25_1
                          try clear hcz25_2
                          try clear hcz25_3
                          try clear hcz25_4
                          try clear hcz32_0
                          try clear hcz32_1
                          try clear hcz32_2
                          try clear hcz32_3
                          try clear hcz32_4
                          try clear hcz33_0
                          try clear hcz33_1
                          try clear hcz33_2
                          try clear hcz33_3
                          try clear hcz33_4
                          try clear hcz35_0
                          try clear hcz35_1
                          try clear hcz35_2
                          try clear hcz35_3
                          try clear hcz35_4
                          try clear hcz36_0
                          try clear hcz36_1
                          try clear hcz36_2
                          try clear hcz36_3
                          try clear hcz36_4
                          try clear hcz38_0
                          try clear hcz38_1
                          try clear hcz38_2
                          try clear hcz38_3
                          try clear hcz38_4
                          try clear hcz39_0
                          try clear hcz39_1
                          try clear hcz39_2
                          try clear hcz39_3
                          try clear hcz39_4
                          try clear hcz41_0
                          try clear hcz41_1
                          try clear hcz41_2
                          try clear hcz41_3
                          try clear hcz41_4
                          try clear hcz42_0
                          try clear hcz42_1
                          try clear hcz42_2
                          try clear hcz42_3
                          try clear hcz42_4
                          try clear hcz44_0
                          try clear hcz44_1
                          try clear hcz44_2
                          try clear hcz44_3
                          try clear hcz44_4
                          try clear hcz45_0
                          try clear hcz45_1
                          try clear hcz45_2
                          try clear hcz45_3
                          try clear hcz45_4
                          try clear hcz49_0
                          try clear hcz49_1
                          try clear hcz49_2
                          try clear hcz49_3
                          try clear hcz49_4
                          try clear hcz50_0
                          try clear hcz50_1
                          try clear hcz50_2
                          try clear hcz50_3
                          try clear hcz50_4
                          try clear hcz52_0
                          try clear hcz52_1
                          try clear hcz52_2
                          try clear hcz52_3
                          try clear hcz52_4
                          try clear hcz53_0
                          try clear hcz53_1
                          try clear hcz53_2
                          try clear hcz53_3
                          try clear hcz53_4
                          try clear hcz55_0
                          try clear hcz55_1
                          try clear hcz55_2
                          try clear hcz55_3
                          try clear hcz55_4
                          try clear hfz15_0
                          try clear hfz15_1
                          try clear hfz15_2
                          try clear hfz15_3
                          try clear hfz15_4
                          try clear hfz18_0
                          try clear hfz18_1
                          try clear hfz18_2
                          try clear hfz18_3
                          try clear hfz18_4
                          try clear hfz22_0
                          try clear hfz22_1
                          try clear hfz22_2
                          try clear hfz22_3
                          try clear hfz22_4
                          try clear hfz25_0
                          try clear hfz25_1
                          try clear hfz25_2
                          try clear hfz25_3
                          try clear hfz25_4
                          try clear hfz32_0
                          try clear hfz32_1
                          try clear hfz32_2
                          try clear hfz32_3
                          try clear hfz32_4
                          try clear hfz33_0
                          try clear hfz33_1
                          try clear hfz33_2
                          try clear hfz33_3
                          try clear hfz33_4
                          try clear hfz35_0
                          try clear hfz35_1
                          try clear hfz35_2
                          try clear hfz35_3
                          try clear hfz35_4
                          try clear hfz36_0
                          try clear hfz36_1
                          try clear hfz36_2
                          try clear hfz36_3
                          try clear hfz36_4
                          try clear hfz38_0
                          try clear hfz38_1
                          try clear hfz38_2
                          try clear hfz38_3
                          try clear hfz38_4
                          try clear hfz39_0
                          try clear hfz39_1
                          try clear hfz39_2
                          try clear hfz39_3
                          try clear hfz39_4
                          try clear hfz41_0
                          try clear hfz41_1
                          try clear hfz41_2
                          try clear hfz41_3
                          try clear hfz41_4
                          try clear hfz42_0
                          try clear hfz42_1
                          try clear hfz42_2
                          try clear hfz42_3
                          try clear hfz42_4
                          try clear hfz44_0
                          try clear hfz44_1
                          try clear hfz44_2
                          try clear hfz44_3
                          try clear hfz44_4
                          try clear hfz45_0
                          try clear hfz45_1
                          try clear hfz45_2
                          try clear hfz45_3
                          try clear hfz45_4
                          try clear hfz49_0
                          try clear hfz49_1
                          try clear hfz49_2
                          try clear hfz49_3
                          try clear hfz49_4
                          try clear hfz50_0
                          try clear hfz50_1
                          try clear hfz50_2
                          try clear hfz50_3
                          try clear hfz50_4
                          try clear hfz52_0
                          try clear hfz52_1
                          try clear hfz52_2
                          try clear hfz52_3
                          try clear hfz52_4
                          try clear hfz53_0
                          try clear hfz53_1
                          try clear hfz53_2
                          try clear hfz53_3
                          try clear hfz53_4
                          try clear hfz55_0
                          try clear hfz55_1
                          try clear hfz55_2
                          try clear hfz55_3
                          try clear hfz55_4
                          try clear hx311_0
                          try clear hx311_1
                          try clear hx311_2
                          try clear hx311_3
                          try clear hx311_4
                          try clear hx313_0
                          try clear hx313_1
                          try clear hx313_2
                          try clear hx313_3
                          try clear hx313_4
                          try clear hx315_0
                          try clear hx315_1
                          try clear hx315_2
                          try clear hx315_3
                          try clear hx315_4
                          try clear p2
                          try clear p3
                          try clear p311
                          try clear p313
                          try clear p315
                          try clear p6
                          try clear q3
                          try clear q311
                          try clear q313
                          try clear q315
                          obtain ⟨kq, x78_20, rfl, HA, HJ20, BK314, BK316, HB⟩ := hcut
                          cases kq with
                          | zero => exact absurd HA.out (by simp [spec_l4Check.j2])
                          | succ kj20 =>
                            have H := HA.out
                            clear HA
                            simp only [spec_l4Check.j2] at H
                            by_cases c56 : x78_20 = true
                            · subst c56
                              have H1 : (some (-1)) = some r := by rw [if_pos rfl] at H; exact H
                              clear H
                              have H := H1
                              clear H1
                              obtain rfl := Option.some.inj H
                              go_wp2
                              go_ret
                              exact ⟨by first | rfl | (simp [errW_none, errW_some] <;> rfl) | (simp [*, errW_none, errW_some] <;> rfl), by repeat (first | (with_reducible first | exact HB.out | apply below_alloc | apply pw_below_drewN | apply below_drew1 | refine below_set ?_ GE314.out | refine below_set ?_ GE316.out) | exact HB.out)⟩
                            · replace c56 := Bool.eq_false_iff.mpr c56
                              subst c56
                              have H1 : ((spec_l4Check.f kj20 l0 x8_2 (wrap64 (a2 + 1))).bind fun t317 => (if t317 < 0 then (some (-1)) else (spec_l4Check.l0 kj20 l0 a2 t317 ((rd_T53 l0 x8_2).f1) (wrap64 (x10_2 + 1)) ((rd_T53 l0 a1).f0) ((rd_T53 l0 a1).f1) ((rd_T53 l0 a1).f2) ((rd_T53 l0 a1).f3) ((rd_T53 l0 a1).f4)))) = some r := by rw [if_neg (show ¬ (false = true) by decide)] at H; exact H
                              clear H
                              have H := H1
                              clear H1
                              replace H := Option.bind_eq_some_iff.mp H
                              obtain ⟨t317, A570, H⟩ := H
                              replace H : (if t317 < 0 then (some (-1)) else (spec_l4Check.l0 kj20 l0 a2 t317 ((rd_T53 l0 x8_2).f1) (wrap64 (x10_2 + 1)) ((rd_T53 l0 a1).f0) ((rd_T53 l0 a1).f1) ((rd_T53 l0 a1).f2) ((rd_T53 l0 a1).f3) ((rd_T53 l0 a1).f4))) = some r := H
                              have A57 := Aside0.mk A570
                              clear A570
                              by_cases c58 : t317 < 0
                              · rw [if_pos c58] at H
                                have c58b0 : decide (t317 < 0) = true := decide_eq_true c58
                                clear c58
                                obtain rfl := Option.some.inj H
                                have hnb59 := NB316_314.out
                                have hnc59 := NB314_316.out
                                have hcz60_0 : wc.cell? ⟨gb316, 0, none⟩ = some (.int .i64 ((rd_T53 l0 x8_2).f0)) := (blk_cell BK316.out 0).trans rfl
                                have hcz60_1 : wc.cell? ⟨gb316, 1, none⟩ = some (.int .i64 ((rd_T53 l0 x8_2).f1)) := (blk_cell BK316.out 1).trans rfl
                                have hcz60_2 : wc.cell? ⟨gb316, 2, none⟩ = some (.int .i64 ((rd_T53 l0 x8_2).f2)) := (blk_cell BK316.out 2).trans rfl
                                have hcz60_3 : wc.cell? ⟨gb316, 3, none⟩ = some (.string ((rd_T53 l0 x8_2).f3)) := (blk_cell BK316.out 3).trans rfl
                                have hcz60_4 : wc.cell? ⟨gb316, 4, none⟩ = some (.int .i64 ((rd_T53 l0 x8_2).f4)) := (blk_cell BK316.out 4).trans rfl
                                have hfz60_0 := blk_frozen BK316.out 0
                                have hfz60_1 := blk_frozen BK316.out 1
                                have hfz60_2 := blk_frozen BK316.out 2
                                have hfz60_3 := blk_frozen BK316.out 3
                                have hfz60_4 := blk_frozen BK316.out 4
                                go_wp2_with (first | ((with_reducible refine gate_callee (f := 164) rfl ?_); refine goesL_ (some 85) rfl rfl Try.func164 (by kernel_rfl) rfl #[.slice (some ad313) l0.length c0, .int .i64 x8_2, .int .i64 (wrap64 (a2 + 1))] rfl (by (try simp only [List.map_toArray, List.map_cons, List.map_nil]); first | done | rfl | (simp only [List.length_drop, List.length_take]; rfl)) ?_; (with_reducible refine (ih kj20 (by have := HJ3.out; have := HK2.out; have := HJ20.out; omega) _ _ l0 x8_2 (wrap64 (a2 + 1)) t317 _ ?side1 ?side2 A57.out).mono ?_); (case side1 => repeat (first | exact (Kd.C_below HR0.out HB.out) | (with_reducible refine Kd.C_alloc ?_ _) | (with_reducible refine Kd.C_drewN ?_ _) | (with_reducible refine Kd.C_drew ?_))); (case side2 => exact HC0.out); rintro e w61 ⟨rfl, hb⟩; refine ⟨_, rfl, ?_⟩; have n0_ := Aside0.mk (blk_below (g := gb314) (o := .cells #[.int .i64 ((rd_T53 l0 a1).f0), .int .i64 ((rd_T53 l0 a1).f1), .int .i64 ((rd_T53 l0 a1).f2), .string ((rd_T53 l0 a1).f3), .int .i64 ((rd_T53 l0 a1).f4)] 53 (0, 0)) (by (with_reducible repeat (first | refine blk_drewN ?_ _ | refine blk_drew ?_ | refine blk_alloc ?_ _)); exact BK314.out) hb); have n1_ := Aside0.mk (blk_below (g := gb316) (o := .cells #[.int .i64 ((rd_T53 l0 x8_2).f0), .int .i64 ((rd_T53 l0 x8_2).f1), .int .i64 ((rd_T53 l0 x8_2).f2), .string ((rd_T53 l0 x8_2).f3), .int .i64 ((rd_T53 l0 x8_2).f4)] 53 (0, 0)) (by (with_reducible repeat (first | refine blk_drewN ?_ _ | refine blk_drew ?_ | refine blk_alloc ?_ _)); exact BK316.out) hb); have n2_ := Aside0.mk (below_step (by repeat (first | (with_reducible first | exact HB.out | apply below_alloc | apply pw_below_drewN | apply below_drew1 | refine below_set ?_ GE314.out | refine below_set ?_ GE316.out) | exact HB.out)) hb); clear BK314; clear BK316; clear HB; have BK314 := n0_; have BK316 := n1_; have HB := n2_; clear n0_ n1_ n2_; (try clear hb); (try clear hb2); (try clear hk); (try clear hi)))
                                go_ret
                                exact ⟨by first | rfl | (simp [errW_none, errW_some] <;> rfl) | (simp [*, errW_none, errW_some] <;> rfl), by repeat (first | (with_reducible first | exact HB.out | apply below_alloc | apply pw_below_drewN | apply below_drew1 | refine below_set ?_ GE314.out | refine below_set ?_ GE316.out) | exact HB.out)⟩
                              · rw [if_neg c58] at H
                                have c58b0 : decide (t317 < 0) = false := decide_eq_false c58
                                clear c58
                                have H' := Aside0.mk H
                                clear H
                                have hnb62 := NB316_314.out
                                have hnc62 := NB314_316.out
                                have hcz63_0 : wc.cell? ⟨gb316, 0, none⟩ = some (.int .i64 ((rd_T53 l0 x8_2).f0)) := (blk_cell BK316.out 0).trans rfl
                                have hcz63_1 : wc.cell? ⟨gb316, 1, none⟩ = some (.int .i64 ((rd_T53 l0 x8_2).f1)) := (blk_cell BK316.out 1).trans rfl
                                have hcz63_2 : wc.cell? ⟨gb316, 2, none⟩ = some (.int .i64 ((rd_T53 l0 x8_2).f2)) := (blk_cell BK316.out 2).trans rfl
                                have hcz63_3 : wc.cell? ⟨gb316, 3, none⟩ = some (.string ((rd_T53 l0 x8_2).f3)) := (blk_cell BK316.out 3).trans rfl
                                have hcz63_4 : wc.cell? ⟨gb316, 4, none⟩ = some (.int .i64 ((rd_T53 l0 x8_2).f4)) := (blk_cell BK316.out 4).trans rfl
                                have hfz63_0 := blk_frozen BK316.out 0
                                have hfz63_1 := blk_frozen BK316.out 1
                                have hfz63_2 := blk_frozen BK316.out 2
                                have hfz63_3 := blk_frozen BK316.out 3
                                have hfz63_4 := blk_frozen BK316.out 4
                                go_wp2_with (first | ((with_reducible refine gate_callee (f := 164) rfl ?_); refine goesL_ (some 85) rfl rfl Try.func164 (by kernel_rfl) rfl #[.slice (some ad313) l0.length c0, .int .i64 x8_2, .int .i64 (wrap64 (a2 + 1))] rfl (by (try simp only [List.map_toArray, List.map_cons, List.map_nil]); first | done | rfl | (simp only [List.length_drop, List.length_take]; rfl)) ?_; (with_reducible refine (ih kj20 (by have := HJ3.out; have := HK2.out; have := HJ20.out; omega) _ _ l0 x8_2 (wrap64 (a2 + 1)) t317 _ ?side1 ?side2 A57.out).mono ?_); (case side1 => repeat (first | exact (Kd.C_below HR0.out HB.out) | (with_reducible refine Kd.C_alloc ?_ _) | (with_reducible refine Kd.C_drewN ?_ _) | (with_reducible refine Kd.C_drew ?_))); (case side2 => exact HC0.out); rintro e w64 ⟨rfl, hb⟩; refine ⟨_, rfl, ?_⟩; have n0_ := Aside0.mk (blk_below (g := gb314) (o := .cells #[.int .i64 ((rd_T53 l0 a1).f0), .int .i64 ((rd_T53 l0 a1).f1), .int .i64 ((rd_T53 l0 a1).f2), .string ((rd_T53 l0 a1).f3), .int .i64 ((rd_T53 l0 a1).f4)] 53 (0, 0)) (by (with_reducible repeat (first | refine blk_drewN ?_ _ | refine blk_drew ?_ | refine blk_alloc ?_ _)); exact BK314.out) hb); have n1_ := Aside0.mk (blk_below (g := gb316) (o := .cells #[.int .i64 ((rd_T53 l0 x8_2).f0), .int .i64 ((rd_T53 l0 x8_2).f1), .int .i64 ((rd_T53 l0 x8_2).f2), .string ((rd_T53 l0 x8_2).f3), .int .i64 ((rd_T53 l0 x8_2).f4)] 53 (0, 0)) (by (with_reducible repeat (first | refine blk_drewN ?_ _ | refine blk_drew ?_ | refine blk_alloc ?_ _)); exact BK316.out) hb); have n2_ := Aside0.mk (below_step (by repeat (first | (with_reducible first | exact HB.out | apply below_alloc | apply pw_below_drewN | apply below_drew1 | refine below_set ?_ GE314.out | refine below_set ?_ GE316.out) | exact HB.out)) hb); clear BK314; clear BK316; clear HB; have BK314 := n0_; have BK316 := n1_; have HB := n2_; clear n0_ n1_ n2_; (try clear hb); (try clear hb2); (try clear hk); (try clear hi)))
                                go_roundg kj20
                                case measure => have := HJ3.out; have := HK2.out; have := HJ20.out; omega
                                case rel => exact ⟨(t317), (((rd_T53 l0 x8_2).f1)), (wrap64 (x10_2 + 1)), (by first | rfl | (simp; done) | (simp [*]; done)), (by first | rfl | (simp; done) | (simp [*]; done)), (by first | rfl | (simp; done) | (simp [*]; done)), H', ⟨by have := HJ3.out; have := HK2.out; have := HJ20.out; omega⟩, ⟨by (with_reducible repeat (first | refine blk_drewN ?_ _ | refine blk_drew ?_ | refine blk_alloc ?_ _)); exact BK314.out⟩, ⟨by repeat (first | (with_reducible first | exact HB.out | apply below_alloc | apply pw_below_drewN | apply below_drew1 | refine below_set ?_ GE314.out | refine below_set ?_ GE316.out) | exact HB.out)⟩⟩
                      · rw [if_neg c20] at H
                        exact absurd H (by simp)
                    · rw [if_neg c19] at H
                      exact absurd H (by simp)
                · rw [if_neg c16] at H
                  have c16b0 : decide (x10_2 < ((rd_T53 l0 a1).f4)) = false := decide_eq_false c16
                  clear c16
                  obtain rfl := Option.some.inj H
                  have hcz65_0 : wr.cell? ⟨gb314, 0, none⟩ = some (.int .i64 ((rd_T53 l0 a1).f0)) := (blk_cell BK314.out 0).trans rfl
                  have hcz65_1 : wr.cell? ⟨gb314, 1, none⟩ = some (.int .i64 ((rd_T53 l0 a1).f1)) := (blk_cell BK314.out 1).trans rfl
                  have hcz65_2 : wr.cell? ⟨gb314, 2, none⟩ = some (.int .i64 ((rd_T53 l0 a1).f2)) := (blk_cell BK314.out 2).trans rfl
                  have hcz65_3 : wr.cell? ⟨gb314, 3, none⟩ = some (.string ((rd_T53 l0 a1).f3)) := (blk_cell BK314.out 3).trans rfl
                  have hcz65_4 : wr.cell? ⟨gb314, 4, none⟩ = some (.int .i64 ((rd_T53 l0 a1).f4)) := (blk_cell BK314.out 4).trans rfl
                  have hfz65_0 := blk_frozen BK314.out 0
                  have hfz65_1 := blk_frozen BK314.out 1
                  have hfz65_2 := blk_frozen BK314.out 2
                  have hfz65_3 := blk_frozen BK314.out 3
                  have hfz65_4 := blk_frozen BK314.out 4
                  go_wp2
                  go_ret
                  exact ⟨by first | rfl | (simp [errW_none, errW_some] <;> rfl) | (simp [*, errW_none, errW_some] <;> rfl), by repeat (first | (with_reducible first | exact HB.out | apply below_alloc | apply pw_below_drewN | apply below_drew1 | refine below_set ?_ GE314.out) | exact HB.out)⟩
          · rw [if_neg c13] at H
            exact absurd H (by simp)
        · rw [if_neg c12] at H
          exact absurd H (by simp)

end Go.Proofs.Ytnfamhegbfjggaa.PFnTreeParts
