/- The machine's side of FnDelta, written by wip/tools/hyb.py of this repo: each Go function as a plain Lean function, and the proof that the call comes to just its answer. No condition. -/
import Derived.Test.YtgcanbeckamjeaaPFnDeltax0
import Derived.Test.YtgcanbeckamjeaaPFnDeltax4
import Derived.Test.YtgcanbeckamjeaaPFnDeltax5
namespace Go.Proofs.Ytgcanbeckamjeaa.PFnDelta
open Go.RowKit Go.Proofs.YtgcanbeckamjeaaW.PrintWords Go.Proofs.YtgcanbeckamjeaaW.PrintLast Go.Proofs.YtgcanbeckamjeaaW.PrintMore Go.Proofs.YtgcanbeckamjeaaW.PrintMore2
attribute [local go_sem] max2_int min2_int max_two min_two max_three min_three max_four min_four   -- for this text's walks alone
set_option linter.unusedVariables false
set_option linter.unusedSimpArgs false

/-! ### spec_l9Block: function 37 -/
mutual
def spec_l9Block.l0 : Nat → List Int → Int → Int → Option (List Int)
  | 0, _, _, _ => none
  | k + 1, x0, x3, x4 => if x4 < (x0.length : Int) then (if 0 ≤ x4 then ((spec_l1Min.f x3 (rd x0 x4)).bind fun t325 => (spec_l9Block.l0 k x0 t325 (wrap64 (x4 + 1)))) else (none)) else (spec_l9Block.l1 k x0 x3 32 (([] : List Int)) (([] : List Int)) 0)
def spec_l9Block.l1 : Nat → List Int → Int → Int → List Int → List Int → Int → Option (List Int)
  | 0, _, _, _, _, _, _ => none
  | k + 1, x0, x3, x5, x6, x7, x8 => if x8 < 4 then (spec_l9Block.l2 k x0 x3 x5 x6 x7 x8 (([] : List Int)) 0 (wrap64 (x8 * x5))) else ((spec_ZigPut.f k x3).bind fun t332 => (if t332.length + x6.length < 140737488355328 then ((some (t332 ++ x6 : List Int)).bind fun y335 => (if y335.length + x7.length < 140737488355328 then (some (y335 ++ x7)) else (none))) else (none)))
def spec_l9Block.l2 : Nat → List Int → Int → Int → List Int → List Int → Int → List Int → Int → Int → Option (List Int)
  | 0, _, _, _, _, _, _, _, _, _ => none
  | k + 1, x0, x3, x5, x6, x7, x8, x9, x10, x11 => if x11 < (wrap64 ((wrap64 (x8 + 1)) * x5)) then (spec_l9Block.j3 k x0 x3 x5 x6 x7 x8 x9 x10 x11 (decide (x11 < (x0.length : Int)))) else (spec_l9Block.j3 k x0 x3 x5 x6 x7 x8 x9 x10 x11 false)
def spec_l9Block.j3 : Nat → List Int → Int → Int → List Int → List Int → Int → List Int → Int → Int → Bool → Option (List Int)
  | 0, _, _, _, _, _, _, _, _, _, _ => none
  | k + 1, x0, x3, x5, x6, x7, x8, x9, x10, x11, x48 => if x48 = true then (if 0 ≤ x11 then (if x11 < (x0.length : Int) then (if x9.length < 17592186044416 then ((spec_l9Width.f k (wrap64 ((rd x0 x11) - x3))).bind fun t349 => ((spec_l1Max.f x10 t349).bind fun t350 => (spec_l9Block.l2 k x0 x3 x5 x6 x7 x8 (x9 ++ [wrap64 ((rd x0 x11) - x3)]) t350 (wrap64 (x11 + 1))))) else (none)) else (none)) else (none)) else (if x6.length < 140737488355328 then ((some (x6 ++ [(x10) % 256] : List Int)).bind fun y351 => (if (x9.length : Int) = 0 then (spec_l9Block.l1 k x0 x3 x5 y351 x7 (wrap64 (x8 + 1))) else (spec_l9Block.l3 k x0 x3 x5 y351 x7 x8 x9 x10))) else (none))
def spec_l9Block.l3 : Nat → List Int → Int → Int → List Int → List Int → Int → List Int → Int → Option (List Int)
  | 0, _, _, _, _, _, _, _, _ => none
  | k + 1, x0, x3, x5, x6, x7, x8, x9, x10 => if (x9.length : Int) < x5 then (if x9.length < 17592186044416 then (spec_l9Block.l3 k x0 x3 x5 x6 x7 x8 (x9 ++ [0]) x10) else (none)) else ((spec_l9Bits.f k x9 x10).bind fun t357 => (if x7.length + t357.length < 140737488355328 then (spec_l9Block.l1 k x0 x3 x5 x6 (x7 ++ t357) (wrap64 (x8 + 1))) else (none)))
end
def spec_l9Block.f (k : Nat) (l0 : List Int) : Option (List Int) := if 0 < (l0.length : Int) then (spec_l9Block.l0 k l0 (rd l0 0) 1) else (none)
theorem spec_l9Block.mono_l : ∀ k, (∀ y0 y1 y2, LeO (spec_l9Block.l0 k y0 y1 y2) (spec_l9Block.l0 (k + 1) y0 y1 y2)) ∧ (∀ y0 y1 y2 y3 y4 y5, LeO (spec_l9Block.l1 k y0 y1 y2 y3 y4 y5) (spec_l9Block.l1 (k + 1) y0 y1 y2 y3 y4 y5)) ∧ (∀ y0 y1 y2 y3 y4 y5 y6 y7 y8, LeO (spec_l9Block.l2 k y0 y1 y2 y3 y4 y5 y6 y7 y8) (spec_l9Block.l2 (k + 1) y0 y1 y2 y3 y4 y5 y6 y7 y8)) ∧ (∀ y0 y1 y2 y3 y4 y5 y6 y7 y8 y9, LeO (spec_l9Block.j3 k y0 y1 y2 y3 y4 y5 y6 y7 y8 y9) (spec_l9Block.j3 (k + 1) y0 y1 y2 y3 y4 y5 y6 y7 y8 y9)) ∧ (∀ y0 y1 y2 y3 y4 y5 y6 y7, LeO (spec_l9Block.l3 k y0 y1 y2 y3 y4 y5 y6 y7) (spec_l9Block.l3 (k + 1) y0 y1 y2 y3 y4 y5 y6 y7))
  | 0 => ⟨fun _ _ _ r h => by simp [spec_l9Block.l0] at h, fun _ _ _ _ _ _ r h => by simp [spec_l9Block.l1] at h, fun _ _ _ _ _ _ _ _ _ r h => by simp [spec_l9Block.l2] at h, fun _ _ _ _ _ _ _ _ _ _ r h => by simp [spec_l9Block.j3] at h, fun _ _ _ _ _ _ _ _ r h => by simp [spec_l9Block.l3] at h⟩
  | k + 1 => by
    obtain ⟨ih0, ih1, ih2, ih3, ih4⟩ := spec_l9Block.mono_l k
    refine ⟨?_, ?_, ?_, ?_, ?_⟩
    · intro y0 y1 y2
      unfold spec_l9Block.l0
      repeat' first
      | (with_reducible exact ih0 _ _ _)
      | (with_reducible exact ih1 _ _ _ _ _ _)
      | (with_reducible exact ih2 _ _ _ _ _ _ _ _ _)
      | (with_reducible exact ih3 _ _ _ _ _ _ _ _ _ _)
      | (with_reducible exact ih4 _ _ _ _ _ _ _ _)
      | (with_reducible exact spec_ZigPut.mono _ _)
      | (with_reducible exact spec_l9Bits.mono _ _ _)
      | (with_reducible exact spec_l9Width.mono _ _)
      | (with_reducible exact LeO.refl _)
      | (with_reducible exact LeO.none _)
      | (with_reducible refine LeO.ite ?_ ?_)
      | (with_reducible refine LeO.bind ?_ (fun _ => ?_))
      | exact ih0 _ _ _
      | exact ih1 _ _ _ _ _ _
      | exact ih2 _ _ _ _ _ _ _ _ _
      | exact ih3 _ _ _ _ _ _ _ _ _ _
      | exact ih4 _ _ _ _ _ _ _ _
      | exact spec_ZigPut.mono _ _
      | exact spec_l9Bits.mono _ _ _
      | exact spec_l9Width.mono _ _
      | exact LeO.none _
      | refine LeO.ite ?_ ?_
      | refine LeO.bind ?_ (fun _ => ?_)
    · intro y0 y1 y2 y3 y4 y5
      unfold spec_l9Block.l1
      repeat' first
      | (with_reducible exact ih0 _ _ _)
      | (with_reducible exact ih1 _ _ _ _ _ _)
      | (with_reducible exact ih2 _ _ _ _ _ _ _ _ _)
      | (with_reducible exact ih3 _ _ _ _ _ _ _ _ _ _)
      | (with_reducible exact ih4 _ _ _ _ _ _ _ _)
      | (with_reducible exact spec_ZigPut.mono _ _)
      | (with_reducible exact spec_l9Bits.mono _ _ _)
      | (with_reducible exact spec_l9Width.mono _ _)
      | (with_reducible exact LeO.refl _)
      | (with_reducible exact LeO.none _)
      | (with_reducible refine LeO.ite ?_ ?_)
      | (with_reducible refine LeO.bind ?_ (fun _ => ?_))
      | exact ih0 _ _ _
      | exact ih1 _ _ _ _ _ _
      | exact ih2 _ _ _ _ _ _ _ _ _
      | exact ih3 _ _ _ _ _ _ _ _ _ _
      | exact ih4 _ _ _ _ _ _ _ _
      | exact spec_ZigPut.mono _ _
      | exact spec_l9Bits.mono _ _ _
      | exact spec_l9Width.mono _ _
      | exact LeO.none _
      | refine LeO.ite ?_ ?_
      | refine LeO.bind ?_ (fun _ => ?_)
    · intro y0 y1 y2 y3 y4 y5 y6 y7 y8
      unfold spec_l9Block.l2
      repeat' first
      | (with_reducible exact ih0 _ _ _)
      | (with_reducible exact ih1 _ _ _ _ _ _)
      | (with_reducible exact ih2 _ _ _ _ _ _ _ _ _)
      | (with_reducible exact ih3 _ _ _ _ _ _ _ _ _ _)
      | (with_reducible exact ih4 _ _ _ _ _ _ _ _)
      | (with_reducible exact spec_ZigPut.mono _ _)
      | (with_reducible exact spec_l9Bits.mono _ _ _)
      | (with_reducible exact spec_l9Width.mono _ _)
      | (with_reducible exact LeO.refl _)
      | (with_reducible exact LeO.none _)
      | (with_reducible refine LeO.ite ?_ ?_)
      | (with_reducible refine LeO.bind ?_ (fun _ => ?_))
      | exact ih0 _ _ _
      | exact ih1 _ _ _ _ _ _
      | exact ih2 _ _ _ _ _ _ _ _ _
      | exact ih3 _ _ _ _ _ _ _ _ _ _
      | exact ih4 _ _ _ _ _ _ _ _
      | exact spec_ZigPut.mono _ _
      | exact spec_l9Bits.mono _ _ _
      | exact spec_l9Width.mono _ _
      | exact LeO.none _
      | refine LeO.ite ?_ ?_
      | refine LeO.bind ?_ (fun _ => ?_)
    · intro y0 y1 y2 y3 y4 y5 y6 y7 y8 y9
      unfold spec_l9Block.j3
      repeat' first
      | (with_reducible exact ih0 _ _ _)
      | (with_reducible exact ih1 _ _ _ _ _ _)
      | (with_reducible exact ih2 _ _ _ _ _ _ _ _ _)
      | (with_reducible exact ih3 _ _ _ _ _ _ _ _ _ _)
      | (with_reducible exact ih4 _ _ _ _ _ _ _ _)
      | (with_reducible exact spec_ZigPut.mono _ _)
      | (with_reducible exact spec_l9Bits.mono _ _ _)
      | (with_reducible exact spec_l9Width.mono _ _)
      | (with_reducible exact LeO.refl _)
      | (with_reducible exact LeO.none _)
      | (with_reducible refine LeO.ite ?_ ?_)
      | (with_reducible refine LeO.bind ?_ (fun _ => ?_))
      | exact ih0 _ _ _
      | exact ih1 _ _ _ _ _ _
      | exact ih2 _ _ _ _ _ _ _ _ _
      | exact ih3 _ _ _ _ _ _ _ _ _ _
      | exact ih4 _ _ _ _ _ _ _ _
      | exact spec_ZigPut.mono _ _
      | exact spec_l9Bits.mono _ _ _
      | exact spec_l9Width.mono _ _
      | exact LeO.none _
      | refine LeO.ite ?_ ?_
      | refine LeO.bind ?_ (fun _ => ?_)
    · intro y0 y1 y2 y3 y4 y5 y6 y7
      unfold spec_l9Block.l3
      repeat' first
      | (with_reducible exact ih0 _ _ _)
      | (with_reducible exact ih1 _ _ _ _ _ _)
      | (with_reducible exact ih2 _ _ _ _ _ _ _ _ _)
      | (with_reducible exact ih3 _ _ _ _ _ _ _ _ _ _)
      | (with_reducible exact ih4 _ _ _ _ _ _ _ _)
      | (with_reducible exact spec_ZigPut.mono _ _)
      | (with_reducible exact spec_l9Bits.mono _ _ _)
      | (with_reducible exact spec_l9Width.mono _ _)
      | (with_reducible exact LeO.refl _)
      | (with_reducible exact LeO.none _)
      | (with_reducible refine LeO.ite ?_ ?_)
      | (with_reducible refine LeO.bind ?_ (fun _ => ?_))
      | exact ih0 _ _ _
      | exact ih1 _ _ _ _ _ _
      | exact ih2 _ _ _ _ _ _ _ _ _
      | exact ih3 _ _ _ _ _ _ _ _ _ _
      | exact ih4 _ _ _ _ _ _ _ _
      | exact spec_ZigPut.mono _ _
      | exact spec_l9Bits.mono _ _ _
      | exact spec_l9Width.mono _ _
      | exact LeO.none _
      | refine LeO.ite ?_ ?_
      | refine LeO.bind ?_ (fun _ => ?_)
theorem spec_l9Block.mono : ∀ a0 k, LeO (spec_l9Block.f k a0) (spec_l9Block.f (k + 1) a0) := by
  intro a0 k
  obtain ⟨ih0, ih1, ih2, ih3, ih4⟩ := spec_l9Block.mono_l k
  unfold spec_l9Block.f
  repeat' first
      | (with_reducible exact ih0 _ _ _)
      | (with_reducible exact ih1 _ _ _ _ _ _)
      | (with_reducible exact ih2 _ _ _ _ _ _ _ _ _)
      | (with_reducible exact ih3 _ _ _ _ _ _ _ _ _ _)
      | (with_reducible exact ih4 _ _ _ _ _ _ _ _)
      | (with_reducible exact spec_ZigPut.mono _ _)
      | (with_reducible exact spec_l9Bits.mono _ _ _)
      | (with_reducible exact spec_l9Width.mono _ _)
      | (with_reducible exact LeO.refl _)
      | (with_reducible exact LeO.none _)
      | (with_reducible refine LeO.ite ?_ ?_)
      | (with_reducible refine LeO.bind ?_ (fun _ => ?_))
      | exact ih0 _ _ _
      | exact ih1 _ _ _ _ _ _
      | exact ih2 _ _ _ _ _ _ _ _ _
      | exact ih3 _ _ _ _ _ _ _ _ _ _
      | exact ih4 _ _ _ _ _ _ _ _
      | exact spec_ZigPut.mono _ _
      | exact spec_l9Bits.mono _ _ _
      | exact spec_l9Width.mono _ _
      | exact LeO.none _
      | refine LeO.ite ?_ ?_
      | refine LeO.bind ?_ (fun _ => ?_)
set_option maxHeartbeats 8000000 in
set_option maxRecDepth 100000 in
theorem spec_l9Block.calls (k : Nat) (A0 : Option Addr) (c0 : Nat) (l0 : List Int) (r : List Int) (w : World) (hr0 : Kd.C (Kd.int .i64) w A0 l0.length l0) (hc0 : l0.length ≤ c0) (h : spec_l9Block.f k l0 = some r) :
    Calls Try.prog 37 #[.slice A0 l0.length c0] w fun e w' => ∃ v0_ : Value, e = .returned (v0_) ∧ Kd.R (Kd.int .u8) 5 w' w.heap.size (fun _ => True) v0_ r ∧ Below w.heap.size w w' := by
  have HR0 := Aside0.mk hr0
  have HC0 := Aside0.mk hc0
  clear hr0 hc0
  have HB := Aside0.mk (Below.refl w.heap.size w)
  have H : (if 0 < (l0.length : Int) then (spec_l9Block.l0 k l0 (rd l0 0) 1) else (none)) = some r := h
  clear h
  by_cases c2 : 0 < (l0.length : Int)
  · rw [if_pos c2] at H
    have c2b0 : decide (0 < (l0.length : Int)) = true := decide_eq_true c2
    have c2b1 : decide (0 < l0.length) = true := decide_eq_true (by omega)
    clear c2
    have H' := Aside0.mk H
    clear H
    have p323 : 0 ≤ (0 : Int) := (by omega)
    have q323 : 0 < (l0.length : Int) := of_decide_eq_true (by first | (with_reducible assumption) | assumption)
    obtain ⟨ad323, e323, hx323_0⟩ := Kd.at_int HR0.out 0 p323 q323
    cases e323
    have qi323 : (0 < l0.length) = True := eq_true (by omega)
    (try rw [show ((0 : Int)).toNat = 0 from rfl] at hx323_0)
    (try rw [Addr.add_zero'] at hx323_0)
    replace p323 := eq_true p323
    replace q323 := eq_true q323
    go_enter Try.func37, Try.ntmps37
    go_wp2
    go_loopg [3, 4] k (fun kq v3 v4 w' => ∃ (x3_1 : Int) (x4_1 : Int), v3 = .int .i64 x3_1 ∧ v4 = .int .i64 x4_1 ∧ Aside0 (spec_l9Block.l0 kq l0 x3_1 x4_1 = some r) ∧ Aside0 (kq ≤ k) ∧ Aside0 (Below w.heap.size w w'))
    case atStart => exact ⟨(rd l0 0), (1), (by first | rfl | (simp; done) | (simp [*]; done)), (by first | rfl | (simp; done) | (simp [*]; done)), H', ⟨Nat.le_refl _⟩, ⟨below_later HB.out⟩⟩
    case round =>
      clear H'
      try clear c2
      try clear c2b0
      try clear c2b1
      try clear p2
      try clear hx323_0
      try clear p323
      try clear q323
      obtain ⟨x3_1, x4_1, rfl, rfl, HA, HK1, HB⟩ := hrel
      cases gk with
      | zero => exact absurd HA.out (by simp [spec_l9Block.l0])
      | succ k1 =>
        have H := HA.out
        clear HA
        simp only [spec_l9Block.l0] at H
        by_cases c3 : x4_1 < (l0.length : Int)
        · rw [if_pos c3] at H
          have c3b0 : decide (x4_1 < (l0.length : Int)) = true := decide_eq_true c3
          clear c3
          by_cases c4 : 0 ≤ x4_1
          · rw [if_pos c4] at H
            have c4b0 : decide (0 ≤ x4_1) = true := decide_eq_true c4
            clear c4
            replace H := Option.bind_eq_some_iff.mp H
            obtain ⟨t325, A50, H⟩ := H
            replace H : (spec_l9Block.l0 k1 l0 t325 (wrap64 (x4_1 + 1))) = some r := H
            have A5 := Aside0.mk A50
            clear A50
            have H' := Aside0.mk H
            clear H
            have p324 : 0 ≤ (x4_1 : Int) := of_decide_eq_true (by first | (with_reducible assumption) | assumption)
            have q324 : x4_1 < (l0.length : Int) := of_decide_eq_true (by first | (with_reducible assumption) | assumption)
            obtain ⟨ad324, e324, hx324_0⟩ := Kd.at_int HR0.out x4_1 p324 q324
            obtain rfl : ad323 = ad324 := (by injection e324)
            replace hx324_0 := (HB.out.cell (World.block_lt_of_cell? w _ hx324_0)).trans hx324_0
            replace p324 := eq_true p324
            replace q324 := eq_true q324
            go_wp2_with (first | ((with_reducible refine gate_callee (f := 38) rfl ?_); refine goesL_ (some 26) rfl rfl Try.func38 (by kernel_rfl) rfl #[.int .i64 x3_1, .int .i64 (rd l0 x4_1)] rfl (by (try simp only [List.map_toArray, List.map_cons, List.map_nil]); first | done | rfl | (simp only [List.length_drop, List.length_take]; rfl)) ?_; (with_reducible refine (spec_l1Min.calls x3_1 (rd l0 x4_1) t325 _ A5.out).mono ?_); rintro e w' ⟨rfl, ⟨nd, rfl⟩⟩; refine ⟨_, rfl, ?_⟩))
            go_roundg k1
            case measure => have := HK1.out; omega
            case rel => exact ⟨(t325), (wrap64 (x4_1 + 1)), (by first | rfl | (simp; done) | (simp [*]; done)), (by first | rfl | (simp; done) | (simp [*]; done)), H', ⟨by have := HK1.out; omega⟩, ⟨below_later HB.out⟩⟩
          · rw [if_neg c4] at H
            exact absurd H (by simp)
        · rw [if_neg c3] at H
          have c3b0 : decide (x4_1 < (l0.length : Int)) = false := decide_eq_false c3
          clear c3
          obtain ⟨y326, hy326⟩ : ∃ y_ : List Int, y_ = (([] : List Int)) := ⟨_, rfl⟩
          replace H : (spec_l9Block.l1 k1 l0 x3_1 32 y326 (([] : List Int)) 0) = some r := by first | (rw [hy326]; with_reducible exact H) | (have H2_ := (Option.bind_some _ _).symm.trans H; rw [hy326]; with_reducible exact H2_) | (have H2_ := (Option.bind_some _ _).symm.trans H; with_reducible exact H2_) | with_reducible exact H | (rw [hy326]; exact H) | exact H
          have Ny326 := Aside0.mk hy326
          clear hy326
          obtain ⟨y329, hy329⟩ : ∃ y_ : List Int, y_ = (([] : List Int)) := ⟨_, rfl⟩
          replace H : (spec_l9Block.l1 k1 l0 x3_1 32 y326 y329 0) = some r := by first | (rw [hy329]; with_reducible exact H) | (have H2_ := (Option.bind_some _ _).symm.trans H; rw [hy329]; with_reducible exact H2_) | (have H2_ := (Option.bind_some _ _).symm.trans H; with_reducible exact H2_) | with_reducible exact H | (rw [hy329]; exact H) | exact H
          have Ny329 := Aside0.mk hy329
          clear hy329
          have H' := Aside0.mk H
          clear H
          go_wp2_with (first | ((with_reducible refine gate_dst (N := 27) rfl ?_); (try (refine gate_guard (by rfl) ?_; dsimp only)); refine Kd.R_lit (Kd.int .u8) _ 5 ?hg (N := 27) ?hd (xs := ([] : List Int)) (inner := []) (ok := fun _ => True) (okp := fun _ => True) ?hr ?hp (fun _ hk => hk) trivial (Below.refl _ _) (Nat.le_refl _) (by simp) ?_; (case hd => rfl); (case hg => rfl); (case hr => first | (go_simp; done) | (go_simp; rfl)); (case hp => exact (Reps.none _ _)); intro v327 w6 ho7 hb hg_ hnew_; clear hg_ hnew_; (first | rw [← Ny326.out] at ho7 | (simp only [Int.reduceToNat] at ho7; rw [← Ny326.out] at ho7)); have n0_ := Aside0.mk (Kd.R_lower ho7 (below_size (below_later HB.out))); have n1_ := Aside0.mk (below_step (below_later HB.out) hb); clear HB; have HO328 := n0_; have HB := n1_; clear n0_ n1_; clear hb ho7) | ((with_reducible refine gate_dst (N := 28) rfl ?_); (try (refine gate_guard (by rfl) ?_; dsimp only)); refine Kd.R_lit (Kd.int .u8) _ 5 ?hg (N := 28) ?hd (xs := ([] : List Int)) (inner := []) (ok := fun _ => True) (okp := fun _ => True) ?hr ?hp (fun _ hk => hk) trivial (Below.refl _ _) (Nat.le_refl _) (by simp) ?_; (case hd => rfl); (case hg => rfl); (case hr => first | (go_simp; done) | (go_simp; rfl)); (case hp => exact (Reps.none _ _)); intro v330 w8 ho9 hb hg_ hnew_; clear hg_ hnew_; (first | rw [← Ny329.out] at ho9 | (simp only [Int.reduceToNat] at ho9; rw [← Ny329.out] at ho9)); have n0_ := Aside0.mk (Kd.R_elder' (R_later HO328.out) (Kd.R_base ho9) hb); have n1_ := Aside0.mk (Kd.R_lower (Kd.R_new' ho9 (Kd.R_lt (R_later HO328.out))) (below_size (below_later HB.out))); have n2_ := Aside0.mk (below_step (below_later HB.out) hb); clear HO328; clear HB; have HO328 := n0_; have HO331 := n1_; have HB := n2_; clear n0_ n1_ n2_; clear hb ho9))
          go_loopg [6, 7, 8] k1 (fun kq v6 v7 v8 w' => ∃ (x6_2 : List Int) (x7_2 : List Int) (x8_2 : Int), v8 = .int .i64 x8_2 ∧ Aside0 (spec_l9Block.l1 kq l0 x3_1 32 x6_2 x7_2 x8_2 = some r) ∧ Aside0 (kq ≤ k1) ∧ Aside0 (Kd.R (Kd.int .u8) 5 w' w.heap.size (fun k_ => some k_ ≠ (v7 : Value).ownBlock) v6 x6_2) ∧ Aside0 (Kd.R (Kd.int .u8) 5 w' w.heap.size (fun k_ => some k_ ≠ (v6 : Value).ownBlock) v7 x7_2) ∧ Aside0 (Below w.heap.size w w'))
          case atStart => exact ⟨(y326), (y329), (0), (by first | rfl | (simp; done) | (simp [*]; done)), H', ⟨Nat.le_refl _⟩, ⟨by (with_reducible repeat (first | apply Kd.R_alloc | apply Kd.R_drewN | apply Kd.R_drew)); exact Kd.R_mono HO328.out (fun _ hk => hk.2)⟩, ⟨by (with_reducible repeat (first | apply Kd.R_alloc | apply Kd.R_drewN | apply Kd.R_drew)); exact Kd.R_mono HO331.out (fun _ hk => hk.2)⟩, ⟨below_later HB.out⟩⟩
          case round =>
            clear H'
            try clear c2
            try clear c2b0
            try clear c2b1
            try clear p2
            try clear c3
            try clear c3b0
            try clear p3
            try clear q3
            try clear hx3
            try clear qi3
            try clear c4
            try clear c4b0
            try clear p6
            try clear hx323_0
            try clear hx324_0
            try clear p2
            try clear p323
            try clear p324
            try clear q323
            try clear q324
            obtain ⟨x6_2, x7_2, x8_2, rfl, HA, HK2, HO_6, HO_7, HB⟩ := hrel
            cases gk with
            | zero => exact absurd HA.out (by simp [spec_l9Block.l1])
            | succ k2 =>
              have H := HA.out
              clear HA
              simp only [spec_l9Block.l1] at H
              by_cases c10 : x8_2 < 4
              · rw [if_pos c10] at H
                have c10b0 : decide (x8_2 < 4) = true := decide_eq_true c10
                clear c10
                obtain ⟨y341, hy341⟩ : ∃ y_ : List Int, y_ = (([] : List Int)) := ⟨_, rfl⟩
                replace H : (spec_l9Block.l2 k2 l0 x3_1 32 x6_2 x7_2 x8_2 y341 0 (wrap64 (x8_2 * 32))) = some r := by first | (rw [hy341]; with_reducible exact H) | (have H2_ := (Option.bind_some _ _).symm.trans H; rw [hy341]; with_reducible exact H2_) | (have H2_ := (Option.bind_some _ _).symm.trans H; with_reducible exact H2_) | with_reducible exact H | (rw [hy341]; exact H) | exact H
                have Ny341 := Aside0.mk hy341
                clear hy341
                have H' := Aside0.mk H
                clear H
                go_wp2_with (first | ((with_reducible refine gate_dst (N := 33) rfl ?_); (try (refine gate_guard (by rfl) ?_; dsimp only)); refine Kd.R_lit (Kd.int .i64) _ 3 ?hg (N := 33) ?hd (xs := ([] : List Int)) (inner := []) (ok := fun _ => True) (okp := fun _ => True) ?hr ?hp (fun _ hk => hk) trivial (Below.refl _ _) (Nat.le_refl _) (by simp) ?_; (case hd => rfl); (case hg => rfl); (case hr => first | (go_simp; done) | (go_simp; rfl)); (case hp => exact (Reps.none _ _)); intro v342 w11 ho12 hb hg_ hnew_; clear hg_ hnew_; (first | rw [← Ny341.out] at ho12 | (simp only [Int.reduceToNat] at ho12; rw [← Ny341.out] at ho12)); have n0_ := Aside0.mk (Kd.R_below (R_later HO_6.out) hb); have n1_ := Aside0.mk (Kd.R_below (R_later HO_7.out) hb); have n2_ := Aside0.mk (Kd.R_lower ho12 (below_size (below_later HB.out))); have n3_ := Aside0.mk (below_step (below_later HB.out) hb); clear HO_6; clear HO_7; clear HB; have HO_6 := n0_; have HO_7 := n1_; have HO343 := n2_; have HB := n3_; clear n0_ n1_ n2_ n3_; clear hb ho12))
                go_loopg [9, 10, 11] k2 (fun kq v9 v10 v11 w' => ∃ (x9_3 : List Int) (x10_3 : Int) (x11_3 : Int), v10 = .int .i64 x10_3 ∧ v11 = .int .i64 x11_3 ∧ Aside0 (spec_l9Block.l2 kq l0 x3_1 32 x6_2 x7_2 x8_2 x9_3 x10_3 x11_3 = some r) ∧ Aside0 (kq ≤ k2) ∧ Aside0 (Kd.R (Kd.int .u8) 5 w' w.heap.size (fun k_ => some k_ ≠ (u7 : Value).ownBlock) u6 x6_2) ∧ Aside0 (Kd.R (Kd.int .u8) 5 w' w.heap.size (fun k_ => some k_ ≠ (u6 : Value).ownBlock) u7 x7_2) ∧ Aside0 (Kd.R (Kd.int .i64) 3 w' w.heap.size (fun _ => True) v9 x9_3) ∧ Aside0 (Below w.heap.size w w'))
                case atStart => exact ⟨(y341), (0), (wrap64 (x8_2 * 32)), (by first | rfl | (simp; done) | (simp [*]; done)), (by first | rfl | (simp; done) | (simp [*]; done)), H', ⟨Nat.le_refl _⟩, ⟨by (with_reducible repeat (first | apply Kd.R_alloc | apply Kd.R_drewN | apply Kd.R_drew)); exact HO_6.out⟩, ⟨by (with_reducible repeat (first | apply Kd.R_alloc | apply Kd.R_drewN | apply Kd.R_drew)); exact HO_7.out⟩, ⟨by (with_reducible repeat (first | apply Kd.R_alloc | apply Kd.R_drewN | apply Kd.R_drew)); exact HO343.out⟩, ⟨below_later HB.out⟩⟩
                case round =>
                  clear H'
                  try clear c1
                  try clear c2
                  try clear c2b0
                  try clear c2b1
                  try clear p2
                  try clear c3
                  try clear c3b0
                  try clear p3
                  try clear q3
                  try clear hx3
                  try clear qi3
                  try clear c4
                  try clear c4b0
                  try clear p6
                  try clear c10
                  try clear c10b0
                  try clear hx323_0
                  try clear hx324_0
                  try clear p2
                  try clear p3
                  try clear p323
                  try clear p324
                  try clear p6
                  try clear q3
                  try clear q323
                  try clear q324
                  obtain ⟨x9_3, x10_3, x11_3, rfl, rfl, HA, HK3, HO_6, HO_7, HO_9, HB⟩ := hrel
                  cases gk with
                  | zero => exact absurd HA.out (by simp [spec_l9Block.l2])
                  | succ k3 =>
                    have H := HA.out
                    clear HA
                    simp only [spec_l9Block.l2] at H
                    have HC13 := Aside0.mk H
                    clear H
                    go_upto_region 14 with (fail)
                    go_cut [48] (fun v48 wc => ∃ (kq : Nat) (x48_12 : Bool), v48 = .bool x48_12 ∧ Aside0 (spec_l9Block.j3 kq l0 x3_1 32 x6_2 x7_2 x8_2 x9_3 x10_3 x11_3 x48_12 = some r) ∧ Aside0 (kq ≤ k3) ∧ Aside0 (Kd.R (Kd.int .u8) 5 wc w.heap.size (fun k_ => some k_ ≠ (u7 : Value).ownBlock) u6 x6_2) ∧ Aside0 (Kd.R (Kd.int .u8) 5 wc w.heap.size (fun k_ => some k_ ≠ (u6 : Value).ownBlock) u7 x7_2) ∧ Aside0 (Kd.R (Kd.int .i64) 3 wc w.heap.size (fun _ => True) u9 x9_3) ∧ Aside0 (Below w.heap.size w wc))
                    case first =>
                      have H := HC13.out
                      clear HC13
                      by_cases c14 : x11_3 < (wrap64 ((wrap64 (x8_2 + 1)) * 32))
                      · rw [if_pos c14] at H
                        have c14b0 : decide (x11_3 < (wrap64 ((wrap64 (x8_2 + 1)) * 32))) = true := decide_eq_true c14
                        clear c14
                        (first | rw [c14b0] | (simp only [i64_w, i32_w]; rw [c14b0]) | skip)
                        have H' := Aside0.mk H
                        clear H
                        go_wp2
                        go_meet
                        case rel => exact ⟨_, (decide (x11_3 < (l0.length : Int))), (by first | rfl | (simp; done) | (simp [*]; done)), H', ⟨by have := HK1.out; have := HK2.out; have := HK3.out; first | omega | exact Nat.le_refl _⟩, ⟨by (with_reducible repeat (first | apply Kd.R_alloc | apply Kd.R_drewN | apply Kd.R_drew)); exact HO_6.out⟩, ⟨by (with_reducible repeat (first | apply Kd.R_alloc | apply Kd.R_drewN | apply Kd.R_drew)); exact HO_7.out⟩, ⟨by (with_reducible repeat (first | apply Kd.R_alloc | apply Kd.R_drewN | apply Kd.R_drew)); exact HO_9.out⟩, ⟨below_later HB.out⟩⟩
                      · rw [if_neg c14] at H
                        have c14b0 : decide (x11_3 < (wrap64 ((wrap64 (x8_2 + 1)) * 32))) = false := decide_eq_false c14
                        clear c14
                        (first | rw [c14b0] | (simp only [i64_w, i32_w]; rw [c14b0]) | skip)
                        have H' := Aside0.mk H
                        clear H
                        go_wp2
                        go_meet
                        case rel => exact ⟨_, (false), (by first | rfl | (simp; done) | (simp [*]; done)), H', ⟨by have := HK1.out; have := HK2.out; have := HK3.out; first | omega | exact Nat.le_refl _⟩, ⟨by (with_reducible repeat (first | apply Kd.R_alloc | apply Kd.R_drewN | apply Kd.R_drew)); exact HO_6.out⟩, ⟨by (with_reducible repeat (first | apply Kd.R_alloc | apply Kd.R_drewN | apply Kd.R_drew)); exact HO_7.out⟩, ⟨by (with_reducible repeat (first | apply Kd.R_alloc | apply Kd.R_drewN | apply Kd.R_drew)); exact HO_9.out⟩, ⟨below_later HB.out⟩⟩
                    case rest =>
                      clear HC13
                      try clear c1
                      try clear c2
                      try clear c2b0
                      try clear c2b1
                      try clear p2
                      try clear c3
                      try clear c3b0
                      try clear p3
                      try clear q3
                      try clear hx3
                      try clear qi3
                      try clear c4
                      try clear c4b0
                      try clear p6
                      try clear c10
                      try clear c10b0
                      try clear c14
                      try clear c14b0
                      try clear hx323_0
                      try clear hx324_0
                      try clear p2
                      try clear p3
                      try clear p323
                      try clear p324
                      try clear p6
                      try clear q3
                      try clear q323
                      try clear q324
                      obtain ⟨kq, x48_12, rfl, HA, HJ12, HO_6, HO_7, HO_9, HB⟩ := hcut
                      cases kq with
                      | zero => exact absurd HA.out (by simp [spec_l9Block.j3])
                      | succ kj12 =>
                        have H := HA.out
                        clear HA
                        simp only [spec_l9Block.j3] at H
                        by_cases c15 : x48_12 = true
                        · subst c15
                          have H1 : (if 0 ≤ x11_3 then (if x11_3 < (l0.length : Int) then (if x9_3.length < 17592186044416 then ((spec_l9Width.f kj12 (wrap64 ((rd l0 x11_3) - x3_1))).bind fun t349 => ((spec_l1Max.f x10_3 t349).bind fun t350 => (spec_l9Block.l2 kj12 l0 x3_1 32 x6_2 x7_2 x8_2 (x9_3 ++ [wrap64 ((rd l0 x11_3) - x3_1)]) t350 (wrap64 (x11_3 + 1))))) else (none)) else (none)) else (none)) = some r := by rw [if_pos rfl] at H; exact H
                          clear H
                          have H := H1
                          clear H1
                          by_cases c16 : 0 ≤ x11_3
                          · rw [if_pos c16] at H
                            have c16b0 : decide (0 ≤ x11_3) = true := decide_eq_true c16
                            clear c16
                            by_cases c17 : x11_3 < (l0.length : Int)
                            · rw [if_pos c17] at H
                              have c17b0 : decide (x11_3 < (l0.length : Int)) = true := decide_eq_true c17
                              clear c17
                              by_cases c18 : x9_3.length < 17592186044416
                              · rw [if_pos c18] at H
                                have LMc18 := Aside0.mk c18
                                clear c18
                                obtain ⟨y345, hy345⟩ : ∃ y_ : List Int, y_ = (x9_3 ++ [wrap64 ((rd l0 x11_3) - x3_1)]) := ⟨_, rfl⟩
                                replace H : ((spec_l9Width.f kj12 (wrap64 ((rd l0 x11_3) - x3_1))).bind fun t349 => ((spec_l1Max.f x10_3 t349).bind fun t350 => (spec_l9Block.l2 kj12 l0 x3_1 32 x6_2 x7_2 x8_2 y345 t350 (wrap64 (x11_3 + 1))))) = some r := by first | (rw [hy345]; with_reducible exact H) | (have H2_ := (Option.bind_some _ _).symm.trans H; rw [hy345]; with_reducible exact H2_) | (have H2_ := (Option.bind_some _ _).symm.trans H; with_reducible exact H2_) | with_reducible exact H | (rw [hy345]; exact H) | exact H
                                have Ny345 := Aside0.mk hy345
                                clear hy345
                                replace H := Option.bind_eq_some_iff.mp H
                                obtain ⟨t349, A190, H⟩ := H
                                replace H : ((spec_l1Max.f x10_3 t349).bind fun t350 => (spec_l9Block.l2 kj12 l0 x3_1 32 x6_2 x7_2 x8_2 y345 t350 (wrap64 (x11_3 + 1)))) = some r := H
                                have A19 := Aside0.mk A190
                                clear A190
                                replace H := Option.bind_eq_some_iff.mp H
                                obtain ⟨t350, A200, H⟩ := H
                                replace H : (spec_l9Block.l2 kj12 l0 x3_1 32 x6_2 x7_2 x8_2 y345 t350 (wrap64 (x11_3 + 1))) = some r := H
                                have A20 := Aside0.mk A200
                                clear A200
                                have H' := Aside0.mk H
                                clear H
                                have p344 : 0 ≤ (x11_3 : Int) := of_decide_eq_true (by first | (with_reducible assumption) | assumption)
                                have q344 : x11_3 < (l0.length : Int) := of_decide_eq_true (by first | (with_reducible assumption) | assumption)
                                obtain ⟨ad344, e344, hx344_0⟩ := Kd.at_int HR0.out x11_3 p344 q344
                                obtain rfl : ad323 = ad344 := (by injection e344)
                                replace hx344_0 := (HB.out.cell (World.block_lt_of_cell? w _ hx344_0)).trans hx344_0
                                replace p344 := eq_true p344
                                replace q344 := eq_true q344
                                go_wp2_with (first | ((with_reducible refine gate_builtin (b := .append) (xs := #[.tmp 51, .tmp 58]) rfl ?_); (try (refine gate_guard (by rfl) ?_; dsimp only)); at_builtin; refine Kd.R_append (Kd.int .i64) (w0 := w) w.heap.size rfl (.tmp 51) (.tmp 58) 24 3 (.int .i64 0) 8 rfl Try.underlying24 info3 rfl (by decide) (by omega) u9 x9_3 (wrap64 ((rd l0 x11_3) - x3_1)) [.int .i64 (wrap64 ((rd l0 x11_3) - x3_1))] (fun _ => True) (fun _ => False) rfl rfl ?aP (fun _ hk => hk.elim) ?aF ?aO ?aB ?aS ?aL ?_; (case aP => exact rfl); (case aB => exact (below_later HB.out)); (case aF => exact (fun _ _ => trivial)); (case aO => exact (R_later HO_9.out)); (case aS => exact (below_size (below_later HB.out))); (case aL => have := LMc18.out; omega); intro v346 w21 ho hb hg hat; rw [← Ny345.out] at ho; have n0_ := Aside0.mk (Kd.R_over' (R_later HO_6.out) (Kd.R_typed (R_later HO_9.out)) (by decide) hg); have n1_ := Aside0.mk (Kd.R_over' (R_later HO_7.out) (Kd.R_typed (R_later HO_9.out)) (by decide) hg); have n2_ := Aside0.mk (hb); have n3_ := Aside0.mk (ho); clear HO_6; clear HO_7; clear HB; clear HO_9; have HO_6 := n0_; have HO_7 := n1_; have HB := n2_; have HO347 := n3_; clear n0_ n1_ n2_ n3_; clear ho hb hg hat; have p348 : 0 ≤ (x11_3 : Int) := of_decide_eq_true (by first | (with_reducible assumption) | assumption); have q348 : x11_3 < (l0.length : Int) := of_decide_eq_true (by first | (with_reducible assumption) | assumption); obtain ⟨ad348, e348, hx348_0⟩ := Kd.at_int HR0.out x11_3 p348 q348; obtain rfl : ad323 = ad348 := (by injection e348); replace hx348_0 := (HB.out.cell (World.block_lt_of_cell? w _ hx348_0)).trans hx348_0; replace p348 := eq_true p348; replace q348 := eq_true q348) | ((with_reducible refine gate_callee (f := 60) rfl ?_); refine goesL_ (some 67) rfl rfl Try.func60 (by kernel_rfl) rfl #[.int .i64 (wrap64 ((rd l0 x11_3) - x3_1))] rfl (by (try simp only [List.map_toArray, List.map_cons, List.map_nil]); first | done | rfl | (simp only [List.length_drop, List.length_take]; rfl)) ?_; (with_reducible refine (spec_l9Width.calls kj12 (wrap64 ((rd l0 x11_3) - x3_1)) t349 _ A19.out).mono ?_); rintro e w' ⟨rfl, ⟨nd, rfl⟩⟩; refine ⟨_, rfl, ?_⟩) | ((with_reducible refine gate_callee (f := 59) rfl ?_); refine goesL_ (some 68) rfl rfl Try.func59 (by kernel_rfl) rfl #[.int .i64 x10_3, .int .i64 t349] rfl (by (try simp only [List.map_toArray, List.map_cons, List.map_nil]); first | done | rfl | (simp only [List.length_drop, List.length_take]; rfl)) ?_; (with_reducible refine (spec_l1Max.calls x10_3 t349 t350 _ A20.out).mono ?_); rintro e w' ⟨rfl, ⟨nd, rfl⟩⟩; refine ⟨_, rfl, ?_⟩))
                                go_roundg kj12
                                case measure => have := HK1.out; have := HK2.out; have := HK3.out; have := HJ12.out; omega
                                case rel => exact ⟨(y345), (t350), (wrap64 (x11_3 + 1)), (by first | rfl | (simp; done) | (simp [*]; done)), (by first | rfl | (simp; done) | (simp [*]; done)), H', ⟨by have := HK1.out; have := HK2.out; have := HK3.out; have := HJ12.out; omega⟩, ⟨by (with_reducible repeat (first | apply Kd.R_alloc | apply Kd.R_drewN | apply Kd.R_drew)); exact HO_6.out⟩, ⟨by (with_reducible repeat (first | apply Kd.R_alloc | apply Kd.R_drewN | apply Kd.R_drew)); exact HO_7.out⟩, ⟨by (with_reducible repeat (first | apply Kd.R_alloc | apply Kd.R_drewN | apply Kd.R_drew)); exact HO347.out⟩, ⟨below_later HB.out⟩⟩
                              · rw [if_neg c18] at H
                                exact absurd H (by simp)
                            · rw [if_neg c17] at H
                              exact absurd H (by simp)
                          · rw [if_neg c16] at H
                            exact absurd H (by simp)
                        · replace c15 := Bool.eq_false_iff.mpr c15
                          subst c15
                          have H1 : (if x6_2.length < 140737488355328 then ((some (x6_2 ++ [(x10_3) % 256] : List Int)).bind fun y351 => (if (x9_3.length : Int) = 0 then (spec_l9Block.l1 kj12 l0 x3_1 32 y351 x7_2 (wrap64 (x8_2 + 1))) else (spec_l9Block.l3 kj12 l0 x3_1 32 y351 x7_2 x8_2 x9_3 x10_3))) else (none)) = some r := by rw [if_neg (show ¬ (false = true) by decide)] at H; exact H
                          clear H
                          have H := H1
                          clear H1
                          by_cases c22 : x6_2.length < 140737488355328
                          · rw [if_pos c22] at H
                            have LMc22 := Aside0.mk c22
                            clear c22
                            obtain ⟨y351, hy351⟩ : ∃ y_ : List Int, y_ = (x6_2 ++ [(x10_3) % 256]) := ⟨_, rfl⟩
                            replace H : (if (x9_3.length : Int) = 0 then (spec_l9Block.l1 kj12 l0 x3_1 32 y351 x7_2 (wrap64 (x8_2 + 1))) else (spec_l9Block.l3 kj12 l0 x3_1 32 y351 x7_2 x8_2 x9_3 x10_3)) = some r := by first | (rw [hy351]; with_reducible exact H) | (have H2_ := (Option.bind_some _ _).symm.trans H; rw [hy351]; with_reducible exact H2_) | (have H2_ := (Option.bind_some _ _).symm.trans H; with_reducible exact H2_) | with_reducible exact H | (rw [hy351]; exact H) | exact H
                            have Ny351 := Aside0.mk hy351
                            clear hy351
                            by_cases c23 : (x9_3.length : Int) = 0
                            · rw [if_pos c23] at H
                              have c23b0 : ((x9_3.length : Int) == 0) = true := beq_iff_eq.mpr c23
                              have c23b1 : ((x9_3.length : Int) != 0) = false := bne_eq_false_iff_eq.mpr c23
                              clear c23
                              have H' := Aside0.mk H
                              clear H
                              go_wp2_with (first | ((with_reducible refine gate_builtin (b := .append) (xs := #[.tmp 69, .tmp 72]) rfl ?_); (try (refine gate_guard (by rfl) ?_; dsimp only)); at_builtin; refine Kd.R_append (Kd.int .u8) (w0 := w) w.heap.size rfl (.tmp 69) (.tmp 72) 22 5 (.int .u8 0) 1 rfl Try.underlying22 info5 rfl (by decide) (by omega) u6 x6_2 ((x10_3) % 256) [.int .u8 ((x10_3) % 256)] (fun k_ => some k_ ≠ (u7 : Value).ownBlock) (fun _ => False) rfl rfl ?aP (fun _ hk => hk.elim) ?aF ?aO ?aB ?aS ?aL ?_; (case aP => exact rfl); (case aB => exact (below_later HB.out)); (case aF => exact (fun k_ hk => Kd.fresh' (Kd.R_lt (R_later HO_7.out)) k_ hk)); (case aO => exact (R_later HO_6.out)); (case aS => exact (below_size (below_later HB.out))); (case aL => have := LMc22.out; omega); intro v352 w24 ho hb hg hat; rw [← Ny351.out] at ho; have n0_ := Aside0.mk (Kd.R_after (ok := (fun _ => True)) (by (with_reducible repeat (first | apply Kd.R_alloc | apply Kd.R_drewN | apply Kd.R_drew)); exact Kd.R_mono HO_7.out (fun _ hk => ⟨trivial, hk⟩)) hg hat); have n1_ := Aside0.mk (Kd.R_over' (R_later HO_9.out) (Kd.R_typed (R_later HO_6.out)) (by decide) hg); have n2_ := Aside0.mk (hb); have n3_ := Aside0.mk (ho); clear HO_7; clear HO_9; clear HB; clear HO_6; have HO_7 := n0_; have HO_9 := n1_; have HB := n2_; have HO353 := n3_; clear n0_ n1_ n2_ n3_; clear ho hb hg hat; obtain ⟨Ao25, co25, eo25⟩ := Kd.R_slice HO_9.out; subst eo25))
                              go_roundg kj12
                              case measure => have := HK1.out; have := HK2.out; have := HK3.out; have := HJ12.out; omega
                              case rel => exact ⟨(y351), (x7_2), (wrap64 (x8_2 + 1)), (by first | rfl | (simp; done) | (simp [*]; done)), H', ⟨by have := HK1.out; have := HK2.out; have := HK3.out; have := HJ12.out; omega⟩, ⟨by (with_reducible repeat (first | apply Kd.R_alloc | apply Kd.R_drewN | apply Kd.R_drew)); exact HO353.out⟩, ⟨by (with_reducible repeat (first | apply Kd.R_alloc | apply Kd.R_drewN | apply Kd.R_drew)); exact Kd.R_mono HO_7.out (fun _ hk => hk.2)⟩, ⟨below_later HB.out⟩⟩
                            · rw [if_neg c23] at H
                              have c23b0 : ((x9_3.length : Int) == 0) = false := beq_eq_false_iff_ne.mpr c23
                              have c23b1 : ((x9_3.length : Int) != 0) = true := bne_iff_ne.mpr c23
                              have c23b2 : ¬ (x9_3 = []) := fun h_ => c23 (by rw [h_]; rfl)
                              have H' := Aside0.mk H
                              clear H
                              go_wp2_with (first | ((with_reducible refine gate_builtin (b := .append) (xs := #[.tmp 69, .tmp 72]) rfl ?_); (try (refine gate_guard (by rfl) ?_; dsimp only)); at_builtin; refine Kd.R_append (Kd.int .u8) (w0 := w) w.heap.size rfl (.tmp 69) (.tmp 72) 22 5 (.int .u8 0) 1 rfl Try.underlying22 info5 rfl (by decide) (by omega) u6 x6_2 ((x10_3) % 256) [.int .u8 ((x10_3) % 256)] (fun k_ => some k_ ≠ (u7 : Value).ownBlock) (fun _ => False) rfl rfl ?aP (fun _ hk => hk.elim) ?aF ?aO ?aB ?aS ?aL ?_; (case aP => exact rfl); (case aB => exact (below_later HB.out)); (case aF => exact (fun k_ hk => Kd.fresh' (Kd.R_lt (R_later HO_7.out)) k_ hk)); (case aO => exact (R_later HO_6.out)); (case aS => exact (below_size (below_later HB.out))); (case aL => have := LMc22.out; omega); intro v352 w26 ho hb hg hat; rw [← Ny351.out] at ho; have n0_ := Aside0.mk (Kd.R_after (ok := (fun _ => True)) (by (with_reducible repeat (first | apply Kd.R_alloc | apply Kd.R_drewN | apply Kd.R_drew)); exact Kd.R_mono HO_7.out (fun _ hk => ⟨trivial, hk⟩)) hg hat); have n1_ := Aside0.mk (Kd.R_over' (R_later HO_9.out) (Kd.R_typed (R_later HO_6.out)) (by decide) hg); have n2_ := Aside0.mk (hb); have n3_ := Aside0.mk (ho); clear HO_7; clear HO_9; clear HB; clear HO_6; have HO_7 := n0_; have HO_9 := n1_; have HB := n2_; have HO353 := n3_; clear n0_ n1_ n2_ n3_; clear ho hb hg hat; obtain ⟨Ao27, co27, eo27⟩ := Kd.R_slice HO_9.out; subst eo27))
                              go_loopg [9] kj12 (fun kq v9 w' => ∃ (x9_5 : List Int), Aside0 (spec_l9Block.l3 kq l0 x3_1 32 y351 x7_2 x8_2 x9_5 x10_3 = some r) ∧ Aside0 (kq ≤ kj12) ∧ Aside0 (Kd.R (Kd.int .u8) 5 w' w.heap.size (fun k_ => some k_ ≠ (u7 : Value).ownBlock) v352 y351) ∧ Aside0 (Kd.R (Kd.int .u8) 5 w' w.heap.size (fun k_ => some k_ ≠ (v352 : Value).ownBlock) u7 x7_2) ∧ Aside0 (Kd.R (Kd.int .i64) 3 w' w.heap.size (fun _ => True) v9 x9_5) ∧ Aside0 (Below w.heap.size w w'))
                              case atStart => exact ⟨(x9_3), H', ⟨Nat.le_refl _⟩, ⟨by (with_reducible repeat (first | apply Kd.R_alloc | apply Kd.R_drewN | apply Kd.R_drew)); exact HO353.out⟩, ⟨by (with_reducible repeat (first | apply Kd.R_alloc | apply Kd.R_drewN | apply Kd.R_drew)); exact Kd.R_mono HO_7.out (fun _ hk => hk.2)⟩, ⟨by (with_reducible repeat (first | apply Kd.R_alloc | apply Kd.R_drewN | apply Kd.R_drew)); exact HO_9.out⟩, ⟨below_later HB.out⟩⟩
                              case round =>
                                clear H'
                                try clear c1
                                try clear c2
                                try clear c2b0
                                try clear c2b1
                                try clear p2
                                try clear c3
                                try clear c3b0
                                try clear p3
                                try clear q3
                                try clear hx3
                                try clear qi3
                                try clear c4
                                try clear c4b0
                                try clear c5
                                try clear c6
                                try clear p6
                                try clear c10
                                try clear c10b0
                                try clear c14
                                try clear c14b0
                                try clear c15
                                try clear c16
                                try clear c16b0
                                try clear c17
                                try clear c17b0
                                try clear c18
                                try clear c22
                                try clear c23
                                try clear c23b0
                                try clear c23b1
                                try clear c23b2
                                try clear hx323_0
                                try clear hx324_0
                                try clear hx344_0
                                try clear hx348_0
                                try clear p2
                                try clear p3
                                try clear p323
                                try clear p324
                                try clear p344
                                try clear p348
                                try clear p6
                                try clear q3
                                try clear q323
                                try clear q324
                                try clear q344
                                try clear q348
                                obtain ⟨x9_5, HA, HK5, HO_6, HO_7, HO_9, HB⟩ := hrel
                                cases gk with
                                | zero => exact absurd HA.out (by simp [spec_l9Block.l3])
                                | succ k5 =>
                                  have H := HA.out
                                  clear HA
                                  simp only [spec_l9Block.l3] at H
                                  by_cases c28 : (x9_5.length : Int) < 32
                                  · rw [if_pos c28] at H
                                    have c28b0 : decide ((x9_5.length : Int) < 32) = true := decide_eq_true c28
                                    have c28b1 : decide (x9_5.length < 32) = true := decide_eq_true (by omega)
                                    clear c28
                                    by_cases c29 : x9_5.length < 17592186044416
                                    · rw [if_pos c29] at H
                                      have LMc29 := Aside0.mk c29
                                      clear c29
                                      obtain ⟨y354, hy354⟩ : ∃ y_ : List Int, y_ = (x9_5 ++ [0]) := ⟨_, rfl⟩
                                      replace H : (spec_l9Block.l3 k5 l0 x3_1 32 y351 x7_2 x8_2 y354 x10_3) = some r := by first | (rw [hy354]; with_reducible exact H) | (have H2_ := (Option.bind_some _ _).symm.trans H; rw [hy354]; with_reducible exact H2_) | (have H2_ := (Option.bind_some _ _).symm.trans H; with_reducible exact H2_) | with_reducible exact H | (rw [hy354]; exact H) | exact H
                                      have Ny354 := Aside0.mk hy354
                                      clear hy354
                                      have H' := Aside0.mk H
                                      clear H
                                      obtain ⟨Ao30, co30, eo30⟩ := Kd.R_slice HO_9.out
                                      subst eo30
                                      go_wp2_with (first | ((with_reducible refine gate_builtin (b := .append) (xs := #[.tmp 81, .tmp 82]) rfl ?_); (try (refine gate_guard (by rfl) ?_; dsimp only)); at_builtin; refine Kd.R_append (Kd.int .i64) (w0 := w) w.heap.size rfl (.tmp 81) (.tmp 82) 24 3 (.int .i64 0) 8 rfl Try.underlying24 info3 rfl (by decide) (by omega) (.slice Ao30 x9_5.length co30) x9_5 0 [.int .i64 0] (fun _ => True) (fun _ => False) rfl rfl ?aP (fun _ hk => hk.elim) ?aF ?aO ?aB ?aS ?aL ?_; (case aP => exact rfl); (case aB => exact (below_later HB.out)); (case aF => exact (fun _ _ => trivial)); (case aO => exact (R_later HO_9.out)); (case aS => exact (below_size (below_later HB.out))); (case aL => have := LMc29.out; omega); intro v355 w31 ho hb hg hat; rw [← Ny354.out] at ho; have n0_ := Aside0.mk (Kd.R_over' (R_later HO_6.out) (Kd.R_typed (R_later HO_9.out)) (by decide) hg); have n1_ := Aside0.mk (Kd.R_over' (R_later HO_7.out) (Kd.R_typed (R_later HO_9.out)) (by decide) hg); have n2_ := Aside0.mk (hb); have n3_ := Aside0.mk (ho); clear HO_6; clear HO_7; clear HB; clear HO_9; have HO_6 := n0_; have HO_7 := n1_; have HB := n2_; have HO356 := n3_; clear n0_ n1_ n2_ n3_; clear ho hb hg hat))
                                      go_roundg k5
                                      case measure => have := HK1.out; have := HK2.out; have := HK3.out; have := HJ12.out; have := HK5.out; omega
                                      case rel => exact ⟨(y354), H', ⟨by have := HK1.out; have := HK2.out; have := HK3.out; have := HJ12.out; have := HK5.out; omega⟩, ⟨by (with_reducible repeat (first | apply Kd.R_alloc | apply Kd.R_drewN | apply Kd.R_drew)); exact HO_6.out⟩, ⟨by (with_reducible repeat (first | apply Kd.R_alloc | apply Kd.R_drewN | apply Kd.R_drew)); exact HO_7.out⟩, ⟨by (with_reducible repeat (first | apply Kd.R_alloc | apply Kd.R_drewN | apply Kd.R_drew)); exact HO356.out⟩, ⟨below_later HB.out⟩⟩
                                    · rw [if_neg c29] at H
                                      exact absurd H (by simp)
                                  · rw [if_neg c28] at H
                                    have c28b0 : decide ((x9_5.length : Int) < 32) = false := decide_eq_false c28
                                    have c28b1 : decide (x9_5.length < 32) = false := decide_eq_false (by omega)
                                    clear c28
                                    replace H := Option.bind_eq_some_iff.mp H
                                    obtain ⟨t357, A320, H⟩ := H
                                    replace H : (if x7_2.length + t357.length < 140737488355328 then (spec_l9Block.l1 k5 l0 x3_1 32 y351 (x7_2 ++ t357) (wrap64 (x8_2 + 1))) else (none)) = some r := H
                                    have A32 := Aside0.mk A320
                                    clear A320
                                    by_cases c33 : x7_2.length + t357.length < 140737488355328
                                    · rw [if_pos c33] at H
                                      have LMc33 := Aside0.mk c33
                                      clear c33
                                      obtain ⟨y360, hy360⟩ : ∃ y_ : List Int, y_ = (x7_2 ++ t357) := ⟨_, rfl⟩
                                      replace H : (spec_l9Block.l1 k5 l0 x3_1 32 y351 y360 (wrap64 (x8_2 + 1))) = some r := by first | (rw [hy360]; with_reducible exact H) | (have H2_ := (Option.bind_some _ _).symm.trans H; rw [hy360]; with_reducible exact H2_) | (have H2_ := (Option.bind_some _ _).symm.trans H; with_reducible exact H2_) | with_reducible exact H | (rw [hy360]; exact H) | exact H
                                      have Ny360 := Aside0.mk hy360
                                      clear hy360
                                      have H' := Aside0.mk H
                                      clear H
                                      obtain ⟨Ao34, co34, eo34⟩ := Kd.R_slice HO_9.out
                                      subst eo34
                                      go_wp2_with (first | ((with_reducible refine gate_callee (f := 61) rfl ?_); refine goesL_ (some 87) rfl rfl Try.func61 (by kernel_rfl) rfl #[.slice Ao34 x9_5.length co34, .int .i64 x10_3] rfl (by (try simp only [List.map_toArray, List.map_cons, List.map_nil]); first | done | rfl | (simp only [List.length_drop, List.length_take]; rfl)) ?_; (with_reducible refine (spec_l9Bits.calls k5 _ _ x9_5 x10_3 t357 _ ?side1 ?side2 A32.out).mono ?_); (case side1 => repeat (first | exact (Kd.R_reads' HO_9.out).2.2 | (with_reducible refine Kd.C_alloc ?_ _) | (with_reducible refine Kd.C_drewN ?_ _) | (with_reducible refine Kd.C_drew ?_))); (case side2 => exact (Kd.R_reads' HO_9.out).2.1); rintro e w35 ⟨v358, rfl, ho0, hb⟩; refine ⟨_, rfl, ?_⟩; have n0_ := Aside0.mk (Kd.R_elder' (R_later HO_6.out) (Kd.R_base ho0) hb); have n1_ := Aside0.mk (Kd.R_elder' (R_later HO_7.out) (Kd.R_base ho0) hb); have n2_ := Aside0.mk (Kd.R_below (R_later HO_9.out) hb); have n3_ := Aside0.mk (Kd.R_lower (Kd.R_new' (Kd.R_new' ho0 (Kd.R_lt (R_later HO_6.out))) (Kd.R_lt (R_later HO_7.out))) (below_size (below_later HB.out))); have n4_ := Aside0.mk (below_step (below_later HB.out) hb); clear HO_6; clear HO_7; clear HO_9; clear HB; have HO_6 := n0_; have HO_7 := n1_; have HO_9 := n2_; have HO359 := n3_; have HB := n4_; clear n0_ n1_ n2_ n3_ n4_; (try clear hb); (try clear hb2); (try clear hk); (try clear hi); (try clear ho0); obtain ⟨Ao37, co37, eo37⟩ := Kd.R_slice HO359.out; subst eo37) | ((with_reducible refine gate_builtin (b := .append) (xs := #[.tmp 84, .tmp 87]) rfl ?_); (try (refine gate_guard (by rfl) ?_; dsimp only)); at_builtin; refine Kd.R_append_rows (Kd.int .u8) (w0 := w) w.heap.size rfl (.tmp 84) (.tmp 87) 22 5 (.int .u8 0) 1 rfl Try.underlying22 info5 rfl (by decide) (by omega) u7 x7_2 t357 _ _ _ (fun k_ => some k_ ≠ (v352 : Value).ownBlock ∧ some k_ ≠ (.slice Ao37 t357.length co37 : Value).ownBlock) (fun _ => False) rfl rfl ?aO ?aR (fun _ _ h => h) (fun _ h => h.elim) ?aF ?aB ?aS ?aL ?_; (case aR => repeat (first | exact (Kd.R_reads' HO359.out).2.2 | (with_reducible refine Kd.C_alloc ?_ _) | (with_reducible refine Kd.C_drewN ?_ _) | (with_reducible refine Kd.C_drew ?_))); (case aB => exact (below_later HB.out)); (case aF => exact (fun k_ hk => ⟨Kd.fresh' (Kd.R_lt (R_later HO_6.out)) k_ hk, Kd.fresh' (Kd.R_lt (R_later HO359.out)) k_ hk⟩)); (case aO => exact (R_later HO_7.out)); (case aS => exact (below_size (below_later HB.out))); (case aL => have := LMc33.out; omega); intro v361 w36 ho hb hg hat; rw [← Ny360.out] at ho; have n0_ := Aside0.mk (Kd.R_after (ok := (fun k_ => some k_ ≠ (.slice Ao37 t357.length co37 : Value).ownBlock)) (by (with_reducible repeat (first | apply Kd.R_alloc | apply Kd.R_drewN | apply Kd.R_drew)); exact Kd.R_mono HO_6.out (fun _ hk => ⟨hk.2, hk.1⟩)) hg hat); have n1_ := Aside0.mk (Kd.R_over' (R_later HO_9.out) (Kd.R_typed (R_later HO_7.out)) (by decide) hg); have n2_ := Aside0.mk (Kd.R_after (ok := (fun k_ => some k_ ≠ (v352 : Value).ownBlock)) (by (with_reducible repeat (first | apply Kd.R_alloc | apply Kd.R_drewN | apply Kd.R_drew)); exact Kd.R_mono HO359.out (fun _ hk => ⟨hk.1.2, hk.2⟩)) hg hat); have n3_ := Aside0.mk (hb); have n4_ := Aside0.mk (ho); clear HO_6; clear HO_9; clear HO359; clear HB; clear HO_7; have HO_6 := n0_; have HO_9 := n1_; have HO359 := n2_; have HB := n3_; have HO362 := n4_; clear n0_ n1_ n2_ n3_ n4_; clear ho hb hg hat))
                                      go_roundg k5
                                      case measure => have := HK1.out; have := HK2.out; have := HK3.out; have := HJ12.out; have := HK5.out; omega
                                      case rel => exact ⟨(y351), (y360), (wrap64 (x8_2 + 1)), (by first | rfl | (simp; done) | (simp [*]; done)), H', ⟨by have := HK1.out; have := HK2.out; have := HK3.out; have := HJ12.out; have := HK5.out; omega⟩, ⟨by (with_reducible repeat (first | apply Kd.R_alloc | apply Kd.R_drewN | apply Kd.R_drew)); exact Kd.R_mono HO_6.out (fun _ hk => hk.2)⟩, ⟨by (with_reducible repeat (first | apply Kd.R_alloc | apply Kd.R_drewN | apply Kd.R_drew)); exact Kd.R_mono HO362.out (fun _ hk => hk.1)⟩, ⟨below_later HB.out⟩⟩
                                    · rw [if_neg c33] at H
                                      exact absurd H (by simp)
                          · rw [if_neg c22] at H
                            exact absurd H (by simp)
              · rw [if_neg c10] at H
                have c10b0 : decide (x8_2 < 4) = false := decide_eq_false c10
                clear c10
                replace H := Option.bind_eq_some_iff.mp H
                obtain ⟨t332, A380, H⟩ := H
                replace H : (if t332.length + x6_2.length < 140737488355328 then ((some (t332 ++ x6_2 : List Int)).bind fun y335 => (if y335.length + x7_2.length < 140737488355328 then (some (y335 ++ x7_2)) else (none))) else (none)) = some r := H
                have A38 := Aside0.mk A380
                clear A380
                by_cases c39 : t332.length + x6_2.length < 140737488355328
                · rw [if_pos c39] at H
                  have LMc39 := Aside0.mk c39
                  clear c39
                  obtain ⟨y335, hy335⟩ : ∃ y_ : List Int, y_ = (t332 ++ x6_2) := ⟨_, rfl⟩
                  replace H : (if y335.length + x7_2.length < 140737488355328 then (some (y335 ++ x7_2)) else (none)) = some r := by first | (rw [hy335]; with_reducible exact H) | (have H2_ := (Option.bind_some _ _).symm.trans H; rw [hy335]; with_reducible exact H2_) | (have H2_ := (Option.bind_some _ _).symm.trans H; with_reducible exact H2_) | with_reducible exact H | (rw [hy335]; exact H) | exact H
                  have Ny335 := Aside0.mk hy335
                  clear hy335
                  by_cases c40 : y335.length + x7_2.length < 140737488355328
                  · rw [if_pos c40] at H
                    have LMc40 := Aside0.mk c40
                    clear c40
                    obtain ⟨y338, hy338⟩ : ∃ y_ : List Int, y_ = (y335 ++ x7_2) := ⟨_, rfl⟩
                    replace H : (some y338) = some r := by first | (rw [hy338]; with_reducible exact H) | (have H2_ := (Option.bind_some _ _).symm.trans H; rw [hy338]; with_reducible exact H2_) | (have H2_ := (Option.bind_some _ _).symm.trans H; with_reducible exact H2_) | with_reducible exact H | (rw [hy338]; exact H) | exact H
                    have Ny338 := Aside0.mk hy338
                    clear hy338
                    obtain rfl := Option.some.inj H
                    go_wp2_with (first | ((with_reducible refine gate_callee (f := 35) rfl ?_); refine goesL_ (some 90) rfl rfl Try.func35 (by kernel_rfl) rfl #[.int .i64 x3_1] rfl (by (try simp only [List.map_toArray, List.map_cons, List.map_nil]); first | done | rfl | (simp only [List.length_drop, List.length_take]; rfl)) ?_; (with_reducible refine (spec_ZigPut.calls k2 x3_1 t332 _ A38.out).mono ?_); rintro e w41 ⟨v333, rfl, ho0, hb⟩; refine ⟨_, rfl, ?_⟩; have n0_ := Aside0.mk (Kd.R_elder' (R_later HO_6.out) (Kd.R_base ho0) hb); have n1_ := Aside0.mk (Kd.R_elder' (R_later HO_7.out) (Kd.R_base ho0) hb); have n2_ := Aside0.mk (Kd.R_lower (Kd.R_new' (Kd.R_new' ho0 (Kd.R_lt (R_later HO_6.out))) (Kd.R_lt (R_later HO_7.out))) (below_size (below_later HB.out))); have n3_ := Aside0.mk (below_step (below_later HB.out) hb); clear HO_6; clear HO_7; clear HB; have HO_6 := n0_; have HO_7 := n1_; have HO334 := n2_; have HB := n3_; clear n0_ n1_ n2_ n3_; (try clear hb); (try clear hb2); (try clear hk); (try clear hi); (try clear ho0); obtain ⟨Ao43, co43, eo43⟩ := Kd.R_slice HO_6.out; subst eo43) | ((with_reducible refine gate_builtin (b := .append) (xs := #[.tmp 90, .tmp 91]) rfl ?_); (try (refine gate_guard (by rfl) ?_; dsimp only)); at_builtin; refine Kd.R_append_rows (Kd.int .u8) (w0 := w) w.heap.size rfl (.tmp 90) (.tmp 91) 22 5 (.int .u8 0) 1 rfl Try.underlying22 info5 rfl (by decide) (by omega) v333 t332 x6_2 _ _ _ (fun k_ => some k_ ≠ (.slice Ao43 x6_2.length co43 : Value).ownBlock ∧ some k_ ≠ (u7 : Value).ownBlock) (fun _ => False) rfl rfl ?aO ?aR (fun _ _ h => h) (fun _ h => h.elim) ?aF ?aB ?aS ?aL ?_; (case aR => repeat (first | exact (Kd.R_reads' HO_6.out).2.2 | (with_reducible refine Kd.C_alloc ?_ _) | (with_reducible refine Kd.C_drewN ?_ _) | (with_reducible refine Kd.C_drew ?_))); (case aB => exact (below_later HB.out)); (case aF => exact (fun k_ hk => ⟨Kd.fresh' (Kd.R_lt (R_later HO_6.out)) k_ hk, Kd.fresh' (Kd.R_lt (R_later HO_7.out)) k_ hk⟩)); (case aO => exact (by (with_reducible repeat (first | apply Kd.R_alloc | apply Kd.R_drewN | apply Kd.R_drew)); exact Kd.R_mono HO334.out (fun _ hk => ⟨hk.1.2, hk.2⟩))); (case aS => exact (below_size (below_later HB.out))); (case aL => have := LMc39.out; omega); intro v336 w42 ho hb hg hat; rw [← Ny335.out] at ho; have n0_ := Aside0.mk (Kd.R_after (ok := (fun k_ => some k_ ≠ (u7 : Value).ownBlock)) (R_later HO_6.out) hg hat); have n1_ := Aside0.mk (Kd.R_after (ok := (fun k_ => some k_ ≠ (.slice Ao43 x6_2.length co43 : Value).ownBlock)) (R_later HO_7.out) hg hat); have n2_ := Aside0.mk (hb); have n3_ := Aside0.mk (ho); clear HO_6; clear HO_7; clear HB; clear HO334; have HO_6 := n0_; have HO_7 := n1_; have HB := n2_; have HO337 := n3_; clear n0_ n1_ n2_ n3_; clear ho hb hg hat; obtain ⟨Ao45, co45, eo45⟩ := Kd.R_slice HO_7.out; subst eo45) | ((with_reducible refine gate_builtin (b := .append) (xs := #[.tmp 92, .tmp 93]) rfl ?_); (try (refine gate_guard (by rfl) ?_; dsimp only)); at_builtin; refine Kd.R_append_rows (Kd.int .u8) (w0 := w) w.heap.size rfl (.tmp 92) (.tmp 93) 22 5 (.int .u8 0) 1 rfl Try.underlying22 info5 rfl (by decide) (by omega) v336 y335 x7_2 _ _ _ (fun k_ => some k_ ≠ (.slice Ao43 x6_2.length co43 : Value).ownBlock ∧ some k_ ≠ (.slice Ao45 x7_2.length co45 : Value).ownBlock) (fun _ => False) rfl rfl ?aO ?aR (fun _ _ h => h) (fun _ h => h.elim) ?aF ?aB ?aS ?aL ?_; (case aR => repeat (first | exact (Kd.R_reads' HO_7.out).2.2 | (with_reducible refine Kd.C_alloc ?_ _) | (with_reducible refine Kd.C_drewN ?_ _) | (with_reducible refine Kd.C_drew ?_))); (case aB => exact (below_later HB.out)); (case aF => exact (fun k_ hk => ⟨Kd.fresh' (Kd.R_lt (R_later HO_6.out)) k_ hk, Kd.fresh' (Kd.R_lt (R_later HO_7.out)) k_ hk⟩)); (case aO => exact (R_later HO337.out)); (case aS => exact (below_size (below_later HB.out))); (case aL => have := LMc40.out; omega); intro v339 w44 ho hb hg hat; rw [← Ny338.out] at ho; have n0_ := Aside0.mk (Kd.R_after (ok := (fun k_ => some k_ ≠ (.slice Ao45 x7_2.length co45 : Value).ownBlock)) (R_later HO_6.out) hg hat); have n1_ := Aside0.mk (Kd.R_after (ok := (fun k_ => some k_ ≠ (.slice Ao43 x6_2.length co43 : Value).ownBlock)) (R_later HO_7.out) hg hat); have n2_ := Aside0.mk (hb); have n3_ := Aside0.mk (ho); clear HO_6; clear HO_7; clear HB; clear HO337; have HO_6 := n0_; have HO_7 := n1_; have HB := n2_; have HO340 := n3_; clear n0_ n1_ n2_ n3_; clear ho hb hg hat))
                    go_ret
                    exact ⟨_, by first | rfl | (simp [errW_none, errW_some] <;> rfl) | (simp [*, errW_none, errW_some] <;> rfl), by (with_reducible repeat (first | apply Kd.R_alloc | apply Kd.R_drewN | apply Kd.R_drew)); exact Kd.R_mono HO340.out (fun _ hk => trivial), below_later HB.out⟩
                  · rw [if_neg c40] at H
                    exact absurd H (by simp)
                · rw [if_neg c39] at H
                  exact absurd H (by simp)
  · rw [if_neg c2] at H
    exact absurd H (by simp)

end Go.Proofs.Ytgcanbeckamjeaa.PFnDelta
