/- The machine's side of FnExactEncPack, written by wip/tools/hyb.py of this repo: each Go function as a plain Lean function, and the proof that the call comes to just its answer. No condition. -/
import Derived.Test.YtkocikdceojnmaaPFnExactEncPackx0
import Derived.Test.YtkocikdceojnmaaPFnExactEncPackx2
import Derived.Test.YtkocikdceojnmaaPFnExactEncPackx3
import Derived.Test.YtkocikdceojnmaaPFnExactEncPackx5
import Derived.Test.YtkocikdceojnmaaPFnExactEncPackx6
namespace Go.Proofs.Ytkocikdceojnmaa.PFnExactEncPack
open Go.RowKit Go.Proofs.YtkocikdceojnmaaW.PrintWords Go.Proofs.YtkocikdceojnmaaW.PrintLast Go.Proofs.YtkocikdceojnmaaW.PrintMore Go.Proofs.YtkocikdceojnmaaW.PrintMore2
attribute [local go_sem] max2_int min2_int max_two min_two max_three min_three max_four min_four   -- for this text's walks alone
set_option linter.unusedVariables false
set_option linter.unusedSimpArgs false

/-! ### spec_l9Block: function 51 -/
mutual
def spec_l9Block.l0 : Nat → List Int → Int → Int → Option (List Int)
  | 0, _, _, _ => none
  | k + 1, x0, x3, x4 => if x4 < (x0.length : Int) then (if 0 ≤ x4 then ((spec_l1Min.f x3 (rd x0 x4)).bind fun t272 => (spec_l9Block.l0 k x0 t272 (wrap64 (x4 + 1)))) else (none)) else (spec_l9Block.l1 k x0 x3 32 (([] : List Int)) (([] : List Int)) 0)
def spec_l9Block.l1 : Nat → List Int → Int → Int → List Int → List Int → Int → Option (List Int)
  | 0, _, _, _, _, _, _ => none
  | k + 1, x0, x3, x5, x6, x7, x8 => if x8 < 4 then (spec_l9Block.l2 k x0 x3 x5 x6 x7 x8 (([] : List Int)) 0 (wrap64 (x8 * x5))) else ((spec_ZigPut.f k x3).bind fun t279 => (if t279.length + x6.length < 140737488355328 then ((some (t279 ++ x6 : List Int)).bind fun y282 => (if y282.length + x7.length < 140737488355328 then (some (y282 ++ x7)) else (none))) else (none)))
def spec_l9Block.l2 : Nat → List Int → Int → Int → List Int → List Int → Int → List Int → Int → Int → Option (List Int)
  | 0, _, _, _, _, _, _, _, _, _ => none
  | k + 1, x0, x3, x5, x6, x7, x8, x9, x10, x11 => if x11 < (wrap64 ((wrap64 (x8 + 1)) * x5)) then (spec_l9Block.j3 k x0 x3 x5 x6 x7 x8 x9 x10 x11 (decide (x11 < (x0.length : Int)))) else (spec_l9Block.j3 k x0 x3 x5 x6 x7 x8 x9 x10 x11 false)
def spec_l9Block.j3 : Nat → List Int → Int → Int → List Int → List Int → Int → List Int → Int → Int → Bool → Option (List Int)
  | 0, _, _, _, _, _, _, _, _, _, _ => none
  | k + 1, x0, x3, x5, x6, x7, x8, x9, x10, x11, x48 => if x48 = true then (if 0 ≤ x11 then (if x11 < (x0.length : Int) then (if x9.length < 17592186044416 then ((spec_l9Width.f k (wrap64 ((rd x0 x11) - x3))).bind fun t296 => ((spec_l1Max.f x10 t296).bind fun t297 => (spec_l9Block.l2 k x0 x3 x5 x6 x7 x8 (x9 ++ [wrap64 ((rd x0 x11) - x3)]) t297 (wrap64 (x11 + 1))))) else (none)) else (none)) else (none)) else (if x6.length < 140737488355328 then ((some (x6 ++ [(x10) % 256] : List Int)).bind fun y298 => (if (x9.length : Int) = 0 then (spec_l9Block.l1 k x0 x3 x5 y298 x7 (wrap64 (x8 + 1))) else (spec_l9Block.l3 k x0 x3 x5 y298 x7 x8 x9 x10))) else (none))
def spec_l9Block.l3 : Nat → List Int → Int → Int → List Int → List Int → Int → List Int → Int → Option (List Int)
  | 0, _, _, _, _, _, _, _, _ => none
  | k + 1, x0, x3, x5, x6, x7, x8, x9, x10 => if (x9.length : Int) < x5 then (if x9.length < 17592186044416 then (spec_l9Block.l3 k x0 x3 x5 x6 x7 x8 (x9 ++ [0]) x10) else (none)) else ((spec_l9Bits.f k x9 x10).bind fun t304 => (if x7.length + t304.length < 140737488355328 then (spec_l9Block.l1 k x0 x3 x5 x6 (x7 ++ t304) (wrap64 (x8 + 1))) else (none)))
end
def spec_l9Block.f (k : Nat) (l0 : List Int) : Option (List Int) := if 0 < (l0.length : Int) then (spec_l9Block.l0 k l0 (rd l0 0) 1) else (none)
set_option maxHeartbeats 8000000 in
set_option maxRecDepth 100000 in
theorem spec_l9Block.calls (k : Nat) (A0 : Option Addr) (c0 : Nat) (l0 : List Int) (r : List Int) (w : World) (hr0 : Kd.C (Kd.int .i64) w A0 l0.length l0) (hc0 : l0.length ≤ c0) (h : spec_l9Block.f k l0 = some r) :
    Calls Try.prog 51 #[.slice A0 l0.length c0] w fun e w' => ∃ v0_ : Value, e = .returned (v0_) ∧ Kd.R (Kd.int .u8) 5 w' w.heap.size (fun _ => True) v0_ r ∧ Below w.heap.size w w' := by
  have HR0 := Aside0.mk hr0
  have HC0 := Aside0.mk hc0
  clear hr0 hc0
  have HB := Aside0.mk (Below.refl w.heap.size w)
  have H : (if 0 < (l0.length : Int) then (spec_l9Block.l0 k l0 (rd l0 0) 1) else (none)) = some r := h
  clear h
  replace H := ifs H
  obtain ⟨c2, H⟩ := H
  have c2b0 := decide_eq_true c2
  have c2b1 : decide (0 < l0.length) = true := decide_eq_true (by omega)
  clear c2
  have H' := Aside0.mk H
  clear H
  have p270 : 0 ≤ (0 : Int) := (by omega)
  have q270 : 0 < (l0.length : Int) := dcd
  obtain ⟨ad270, e270, hx270_0⟩ := Kd.at_int HR0.out 0 p270 q270
  cases e270
  have qi270 : (0 < l0.length) = True := eq_true (by omega)
  (try rw [show ((0 : Int)).toNat = 0 from rfl] at hx270_0)
  (try rw [Addr.add_zero'] at hx270_0)
  replace p270 := eq_true p270
  replace q270 := eq_true q270
  go_enter Try.func51, Try.ntmps51
  go_wp2
  go_loopg [3, 4] k (fun kq v3 v4 w' => ∃ (x3_1 : Int) (x4_1 : Int), v3 = .int .i64 x3_1 ∧ v4 = .int .i64 x4_1 ∧ Aside0 (spec_l9Block.l0 kq l0 x3_1 x4_1 = some r) ∧ Aside0 (kq ≤ k) ∧ Aside0 (Below w.heap.size w w'))
  case atStart => exact ⟨(rd l0 0), (1), sr, sr, H', ⟨Nat.le_refl _⟩, ⟨below_later HB.out⟩⟩
  case round =>
    clear H'
    try clear c2
    try clear c2b0
    try clear c2b1
    try clear hx270_0
    try clear p270
    try clear q270
    obtain ⟨x3_1, x4_1, rfl, rfl, HA, HK1, HB⟩ := hrel
    cases gk with
    | zero => exact absurd HA.out (by simp [spec_l9Block.l0])
    | succ k1 =>
      have H := HA.out
      clear HA
      simp only [spec_l9Block.l0] at H
      by_cases c3 : x4_1 < (l0.length : Int)
      · rw [if_pos c3] at H
        have c3b0 := decide_eq_true c3
        clear c3
        replace H := ifd H
        obtain ⟨c4b0, H⟩ := H
        replace H := bnd H
        obtain ⟨t272, A5, H⟩ := H
        have H' := Aside0.mk H
        clear H
        have p271 : 0 ≤ (x4_1 : Int) := dcd
        have q271 : x4_1 < (l0.length : Int) := dcd
        obtain ⟨ad271, e271, hx271_0⟩ := Kd.at_int HR0.out x4_1 p271 q271
        obtain rfl : ad270 = ad271 := (by injection e271)
        replace hx271_0 := crd HB hx271_0
        replace p271 := eq_true p271
        replace q271 := eq_true q271
        go_wp2_with (first | ((with_reducible refine gate_callee (f := 52) rfl ?_); refine gl_ (some 26) Try.func52 #[.int .i64 x3_1, .int .i64 (rd l0 x4_1)] rfl ?_; (with_reducible refine (spec_l1Min.calls x3_1 (rd l0 x4_1) t272 _ A5.out).mono ?_); rintro e w' ⟨rfl, ⟨nd, rfl⟩⟩; refine ⟨_, rfl, ?_⟩))
        go_roundg k1
        case measure => have := HK1.out; omega
        case rel => exact ⟨(t272), (wrap64 (x4_1 + 1)), sr, sr, H', ⟨by have := HK1.out; omega⟩, ⟨below_later HB.out⟩⟩
      · rw [if_neg c3] at H
        have c3b0 := decide_eq_false c3
        clear c3
        obtain ⟨y273, hy273⟩ : ∃ y_ : List Int, y_ = (([] : List Int)) := ⟨_, rfl⟩
        replace H : (spec_l9Block.l1 k1 l0 x3_1 32 y273 (([] : List Int)) 0) = some r := by first | (rw [hy273]; with_reducible exact H) | (rw [hy273]; exact H) | exact H
        have Ny273 := Aside0.mk hy273
        clear hy273
        obtain ⟨y276, hy276⟩ : ∃ y_ : List Int, y_ = (([] : List Int)) := ⟨_, rfl⟩
        replace H : (spec_l9Block.l1 k1 l0 x3_1 32 y273 y276 0) = some r := by first | (rw [hy276]; with_reducible exact H) | (rw [hy276]; exact H) | exact H
        have Ny276 := Aside0.mk hy276
        clear hy276
        have H' := Aside0.mk H
        clear H
        go_wp2_with (first | ((with_reducible refine gate_dst (N := 27) rfl ?_); (try (refine gate_guard (by rfl) ?_; dsimp only)); refine Kd.R_lit (Kd.int .u8) _ 5 ?hg (N := 27) ?hd (xs := ([] : List Int)) (inner := []) (ok := fun _ => True) (okp := fun _ => True) ?hr ?hp (fun _ hk => hk) trivial (Below.refl _ _) (Nat.le_refl _) (by simp) ?_; (case hd => rfl); (case hg => rfl); (case hr => first | (go_simp; done) | (go_simp; rfl)); (case hp => exact (Reps.none _ _)); intro v274 w6 ho7 hb hg_ hnew_; clear hg_ hnew_; (first | rw [← Ny273.out] at ho7 | (simp only [Int.reduceToNat] at ho7; rw [← Ny273.out] at ho7)); have HO275 := Aside0.mk (Kd.R_lower ho7 (below_size (below_later HB.out))); replace HB := bst HB hb; clear hb ho7) | ((with_reducible refine gate_dst (N := 28) rfl ?_); (try (refine gate_guard (by rfl) ?_; dsimp only)); refine Kd.R_lit (Kd.int .u8) _ 5 ?hg (N := 28) ?hd (xs := ([] : List Int)) (inner := []) (ok := fun _ => True) (okp := fun _ => True) ?hr ?hp (fun _ hk => hk) trivial (Below.refl _ _) (Nat.le_refl _) (by simp) ?_; (case hd => rfl); (case hg => rfl); (case hr => first | (go_simp; done) | (go_simp; rfl)); (case hp => exact (Reps.none _ _)); intro v277 w8 ho9 hb hg_ hnew_; clear hg_ hnew_; (first | rw [← Ny276.out] at ho9 | (simp only [Int.reduceToNat] at ho9; rw [← Ny276.out] at ho9)); have HO278 := Aside0.mk (Kd.R_lower (Kd.R_new' ho9 (Kd.R_lt (R_later HO275.out))) (below_size (below_later HB.out))); replace HO275 := Aside0.mk (Kd.R_elder' (R_later HO275.out) (Kd.R_base ho9) hb); replace HB := bst HB hb; clear hb ho9))
        go_loopg [6, 7, 8] k1 (fun kq v6 v7 v8 w' => ∃ (x6_2 : List Int) (x7_2 : List Int) (x8_2 : Int), v8 = .int .i64 x8_2 ∧ Aside0 (spec_l9Block.l1 kq l0 x3_1 32 x6_2 x7_2 x8_2 = some r) ∧ Aside0 (kq ≤ k1) ∧ Aside0 (Kd.R (Kd.int .u8) 5 w' w.heap.size (fun k_ => some k_ ≠ (v7 : Value).ownBlock) v6 x6_2) ∧ Aside0 (Kd.R (Kd.int .u8) 5 w' w.heap.size (fun k_ => some k_ ≠ (v6 : Value).ownBlock) v7 x7_2) ∧ Aside0 (Below w.heap.size w w'))
        case atStart => exact ⟨(y273), (y276), (0), sr, H', ⟨Nat.le_refl _⟩, ⟨R_later (Kd.R_mono HO275.out (fun _ hk => hk.2))⟩, ⟨R_later (Kd.R_mono HO278.out (fun _ hk => hk.2))⟩, ⟨below_later HB.out⟩⟩
        case round =>
          clear H'
          try clear c2
          try clear c2b0
          try clear c2b1
          try clear c3
          try clear c3b0
          try clear hx270_0
          try clear p270
          try clear q270
          obtain ⟨x6_2, x7_2, x8_2, rfl, HA, HK2, HO_6, HO_7, HB⟩ := hrel
          cases gk with
          | zero => exact absurd HA.out (by simp [spec_l9Block.l1])
          | succ k2 =>
            have H := HA.out
            clear HA
            simp only [spec_l9Block.l1] at H
            by_cases c10 : x8_2 < 4
            · rw [if_pos c10] at H
              have c10b0 := decide_eq_true c10
              clear c10
              obtain ⟨y288, hy288⟩ : ∃ y_ : List Int, y_ = (([] : List Int)) := ⟨_, rfl⟩
              replace H : (spec_l9Block.l2 k2 l0 x3_1 32 x6_2 x7_2 x8_2 y288 0 (wrap64 (x8_2 * 32))) = some r := by first | (rw [hy288]; with_reducible exact H) | (rw [hy288]; exact H) | exact H
              have Ny288 := Aside0.mk hy288
              clear hy288
              have H' := Aside0.mk H
              clear H
              go_wp2_with (first | ((with_reducible refine gate_dst (N := 33) rfl ?_); (try (refine gate_guard (by rfl) ?_; dsimp only)); refine Kd.R_lit (Kd.int .i64) _ 3 ?hg (N := 33) ?hd (xs := ([] : List Int)) (inner := []) (ok := fun _ => True) (okp := fun _ => True) ?hr ?hp (fun _ hk => hk) trivial (Below.refl _ _) (Nat.le_refl _) (by simp) ?_; (case hd => rfl); (case hg => rfl); (case hr => first | (go_simp; done) | (go_simp; rfl)); (case hp => exact (Reps.none _ _)); intro v289 w11 ho12 hb hg_ hnew_; clear hg_ hnew_; (first | rw [← Ny288.out] at ho12 | (simp only [Int.reduceToNat] at ho12; rw [← Ny288.out] at ho12)); have HO290 := Aside0.mk (Kd.R_lower ho12 (below_size (below_later HB.out))); replace HO_6 := Aside0.mk (Kd.R_below (R_later HO_6.out) hb); replace HO_7 := Aside0.mk (Kd.R_below (R_later HO_7.out) hb); replace HB := bst HB hb; clear hb ho12))
              go_loopg [9, 10, 11] k2 (fun kq v9 v10 v11 w' => ∃ (x9_3 : List Int) (x10_3 : Int) (x11_3 : Int), v10 = .int .i64 x10_3 ∧ v11 = .int .i64 x11_3 ∧ Aside0 (spec_l9Block.l2 kq l0 x3_1 32 x6_2 x7_2 x8_2 x9_3 x10_3 x11_3 = some r) ∧ Aside0 (kq ≤ k2) ∧ Aside0 (Kd.R (Kd.int .u8) 5 w' w.heap.size (fun k_ => some k_ ≠ (u7 : Value).ownBlock) u6 x6_2) ∧ Aside0 (Kd.R (Kd.int .u8) 5 w' w.heap.size (fun k_ => some k_ ≠ (u6 : Value).ownBlock) u7 x7_2) ∧ Aside0 (Kd.R (Kd.int .i64) 3 w' w.heap.size (fun _ => True) v9 x9_3) ∧ Aside0 (Below w.heap.size w w'))
              case atStart => exact ⟨(y288), (0), (wrap64 (x8_2 * 32)), sr, sr, H', ⟨Nat.le_refl _⟩, ⟨R_later HO_6.out⟩, ⟨R_later HO_7.out⟩, ⟨R_later HO290.out⟩, ⟨below_later HB.out⟩⟩
              case round =>
                clear H'
                try clear c2
                try clear c2b0
                try clear c2b1
                try clear c3
                try clear c3b0
                try clear c10
                try clear c10b0
                try clear hx270_0
                try clear p270
                try clear q270
                obtain ⟨x9_3, x10_3, x11_3, rfl, rfl, HA, HK3, HO_6, HO_7, HO_9, HB⟩ := hrel
                cases gk with
                | zero => exact absurd HA.out (by simp [spec_l9Block.l2])
                | succ k3 =>
                  have H := HA.out
                  clear HA
                  simp only [spec_l9Block.l2] at H
                  have HC13 := Aside0.mk H
                  clear H
                  go_upto_region 14 with (fail)
                  go_cut [48] (fun v48 wc => ∃ (kq : Nat) (x48_12 : Bool), v48 = .bool x48_12 ∧ Aside0 (spec_l9Block.j3 kq l0 x3_1 32 x6_2 x7_2 x8_2 x9_3 x10_3 x11_3 x48_12 = some r) ∧ Aside0 (kq ≤ k3) ∧ Aside0 (Kd.R (Kd.int .u8) 5 wc w.heap.size (fun k_ => some k_ ≠ (u7 : Value).ownBlock) u6 x6_2) ∧ Aside0 (Kd.R (Kd.int .u8) 5 wc w.heap.size (fun k_ => some k_ ≠ (u6 : Value).ownBlock) u7 x7_2) ∧ Aside0 (Kd.R (Kd.int .i64) 3 wc w.heap.size (fun _ => True) u9 x9_3) ∧ Aside0 (Below w.heap.size w wc))
                  case first =>
                    have H := HC13.out
                    clear HC13
                    by_cases c14 : x11_3 < (wrap64 ((wrap64 (x8_2 + 1)) * 32))
                    · rw [if_pos c14] at H
                      have c14b0 := decide_eq_true c14
                      clear c14
                      (first | rw [c14b0] | (simp only [i64_w, i32_w]; rw [c14b0]) | skip)
                      have H' := Aside0.mk H
                      clear H
                      go_wp2
                      go_meet
                      case rel => exact ⟨_, (decide (x11_3 < (l0.length : Int))), sr, H', ⟨by have := HK1.out; have := HK2.out; have := HK3.out; first | omega | exact Nat.le_refl _⟩, ⟨R_later HO_6.out⟩, ⟨R_later HO_7.out⟩, ⟨R_later HO_9.out⟩, ⟨below_later HB.out⟩⟩
                    · rw [if_neg c14] at H
                      have c14b0 := decide_eq_false c14
                      clear c14
                      (first | rw [c14b0] | (simp only [i64_w, i32_w]; rw [c14b0]) | skip)
                      have H' := Aside0.mk H
                      clear H
                      go_wp2
                      go_meet
                      case rel => exact ⟨_, (false), sr, H', ⟨by have := HK1.out; have := HK2.out; have := HK3.out; first | omega | exact Nat.le_refl _⟩, ⟨R_later HO_6.out⟩, ⟨R_later HO_7.out⟩, ⟨R_later HO_9.out⟩, ⟨below_later HB.out⟩⟩
                  case rest =>
                    clear HC13
                    try clear c2
                    try clear c2b0
                    try clear c2b1
                    try clear c3
                    try clear c3b0
                    try clear c10
                    try clear c10b0
                    try clear hx270_0
                    try clear p270
                    try clear q270
                    obtain ⟨kq, x48_12, rfl, HA, HJ12, HO_6, HO_7, HO_9, HB⟩ := hcut
                    cases kq with
                    | zero => exact absurd HA.out (by simp [spec_l9Block.j3])
                    | succ kj12 =>
                      have H := HA.out
                      clear HA
                      simp only [spec_l9Block.j3] at H
                      by_cases c15 : x48_12 = true
                      · subst c15
                        replace H := ifp rfl H
                        replace H := ifd H
                        obtain ⟨c16b0, H⟩ := H
                        replace H := ifd H
                        obtain ⟨c17b0, H⟩ := H
                        replace H := ifs H
                        obtain ⟨c18, H⟩ := H
                        have LMc18 := Aside0.mk c18
                        clear c18
                        obtain ⟨y292, hy292⟩ : ∃ y_ : List Int, y_ = (x9_3 ++ [wrap64 ((rd l0 x11_3) - x3_1)]) := ⟨_, rfl⟩
                        replace H : ((spec_l9Width.f kj12 (wrap64 ((rd l0 x11_3) - x3_1))).bind fun t296 => ((spec_l1Max.f x10_3 t296).bind fun t297 => (spec_l9Block.l2 kj12 l0 x3_1 32 x6_2 x7_2 x8_2 y292 t297 (wrap64 (x11_3 + 1))))) = some r := by first | (rw [hy292]; with_reducible exact H) | (rw [hy292]; exact H) | exact H
                        have Ny292 := Aside0.mk hy292
                        clear hy292
                        replace H := bnd H
                        obtain ⟨t296, A19, H⟩ := H
                        replace H := bnd H
                        obtain ⟨t297, A20, H⟩ := H
                        have H' := Aside0.mk H
                        clear H
                        have p291 : 0 ≤ (x11_3 : Int) := dcd
                        have q291 : x11_3 < (l0.length : Int) := dcd
                        obtain ⟨ad291, e291, hx291_0⟩ := Kd.at_int HR0.out x11_3 p291 q291
                        obtain rfl : ad270 = ad291 := (by injection e291)
                        replace hx291_0 := crd HB hx291_0
                        replace p291 := eq_true p291
                        replace q291 := eq_true q291
                        go_wp2_with (first | ((with_reducible refine gate_builtin (b := .append) (xs := #[.tmp 51, .tmp 58]) rfl ?_); (try (refine gate_guard (by rfl) ?_; dsimp only)); at_builtin; refine Kd.R_append (Kd.int .i64) (w0 := w) w.heap.size rfl (.tmp 51) (.tmp 58) 41 3 (.int .i64 0) 8 rfl Try.underlying41 info3 rfl (by decide) (by omega) u9 x9_3 (wrap64 ((rd l0 x11_3) - x3_1)) [.int .i64 (wrap64 ((rd l0 x11_3) - x3_1))] (fun _ => True) (fun _ => False) rfl rfl ?aP (fun _ hk => hk.elim) ?aF ?aO ?aB ?aS ?aL ?_; (case aP => exact rfl); (case aB => exact (below_later HB.out)); (case aF => exact (fun _ _ => trivial)); (case aO => exact (R_later HO_9.out)); (case aS => exact (below_size (below_later HB.out))); (case aL => have := LMc18.out; omega); intro v293 w21 ho hb hg hat; rw [← Ny292.out] at ho; have n0_ := Aside0.mk (Kd.R_over' (R_later HO_6.out) (Kd.R_typed (R_later HO_9.out)) (by decide) hg); have n1_ := Aside0.mk (Kd.R_over' (R_later HO_7.out) (Kd.R_typed (R_later HO_9.out)) (by decide) hg); have n2_ := Aside0.mk (hb); have n3_ := Aside0.mk (ho); clear HO_6; clear HO_7; clear HB; clear HO_9; have HO_6 := n0_; have HO_7 := n1_; have HB := n2_; have HO294 := n3_; clear n0_ n1_ n2_ n3_; clear ho hb hg hat; have p295 : 0 ≤ (x11_3 : Int) := dcd; have q295 : x11_3 < (l0.length : Int) := dcd; obtain ⟨ad295, e295, hx295_0⟩ := Kd.at_int HR0.out x11_3 p295 q295; obtain rfl : ad270 = ad295 := (by injection e295); replace hx295_0 := crd HB hx295_0; replace p295 := eq_true p295; replace q295 := eq_true q295) | ((with_reducible refine gate_callee (f := 77) rfl ?_); refine gl_ (some 67) Try.func77 #[.int .i64 (wrap64 ((rd l0 x11_3) - x3_1))] rfl ?_; (with_reducible refine (spec_l9Width.calls kj12 (wrap64 ((rd l0 x11_3) - x3_1)) t296 _ A19.out).mono ?_); rintro e w' ⟨rfl, ⟨nd, rfl⟩⟩; refine ⟨_, rfl, ?_⟩) | ((with_reducible refine gate_callee (f := 57) rfl ?_); refine gl_ (some 68) Try.func57 #[.int .i64 x10_3, .int .i64 t296] rfl ?_; (with_reducible refine (spec_l1Max.calls x10_3 t296 t297 _ A20.out).mono ?_); rintro e w' ⟨rfl, ⟨nd, rfl⟩⟩; refine ⟨_, rfl, ?_⟩))
                        go_roundg kj12
                        case measure => have := HK1.out; have := HK2.out; have := HK3.out; have := HJ12.out; omega
                        case rel => exact ⟨(y292), (t297), (wrap64 (x11_3 + 1)), sr, sr, H', ⟨by have := HK1.out; have := HK2.out; have := HK3.out; have := HJ12.out; omega⟩, ⟨R_later HO_6.out⟩, ⟨R_later HO_7.out⟩, ⟨R_later HO294.out⟩, ⟨below_later HB.out⟩⟩
                      · replace c15 := Bool.eq_false_iff.mpr c15
                        subst c15
                        replace H := ifn Bool.false_ne_true H
                        replace H := ifs H
                        obtain ⟨c22, H⟩ := H
                        have LMc22 := Aside0.mk c22
                        clear c22
                        replace H := bsm H
                        obtain ⟨y298, Ny298, H⟩ := H
                        by_cases c23 : (x9_3.length : Int) = 0
                        · rw [if_pos c23] at H
                          have c23b0 : ((x9_3.length : Int) == 0) = true := beq_iff_eq.mpr c23
                          have c23b1 : ((x9_3.length : Int) != 0) = false := bne_eq_false_iff_eq.mpr c23
                          clear c23
                          have H' := Aside0.mk H
                          clear H
                          go_wp2_with (first | ((with_reducible refine gate_builtin (b := .append) (xs := #[.tmp 69, .tmp 72]) rfl ?_); (try (refine gate_guard (by rfl) ?_; dsimp only)); at_builtin; refine Kd.R_append (Kd.int .u8) (w0 := w) w.heap.size rfl (.tmp 69) (.tmp 72) 24 5 (.int .u8 0) 1 rfl Try.underlying24 info5 rfl (by decide) (by omega) u6 x6_2 ((x10_3) % 256) [.int .u8 ((x10_3) % 256)] (fun k_ => some k_ ≠ (u7 : Value).ownBlock) (fun _ => False) rfl rfl ?aP (fun _ hk => hk.elim) ?aF ?aO ?aB ?aS ?aL ?_; (case aP => exact rfl); (case aB => exact (below_later HB.out)); (case aF => exact (fun k_ hk => Kd.fresh' (Kd.R_lt (R_later HO_7.out)) k_ hk)); (case aO => exact (R_later HO_6.out)); (case aS => exact (below_size (below_later HB.out))); (case aL => have := LMc22.out; omega); intro v299 w24 ho hb hg hat; rw [← Ny298.out] at ho; have n0_ := Aside0.mk (Kd.R_after (ok := (fun _ => True)) (by (with_reducible repeat (first | apply Kd.R_alloc | apply Kd.R_drewN | apply Kd.R_drew)); exact Kd.R_mono HO_7.out (fun _ hk => ⟨trivial, hk⟩)) hg hat); have n1_ := Aside0.mk (Kd.R_over' (R_later HO_9.out) (Kd.R_typed (R_later HO_6.out)) (by decide) hg); have n2_ := Aside0.mk (hb); have n3_ := Aside0.mk (ho); clear HO_7; clear HO_9; clear HB; clear HO_6; have HO_7 := n0_; have HO_9 := n1_; have HB := n2_; have HO300 := n3_; clear n0_ n1_ n2_ n3_; clear ho hb hg hat; obtain ⟨Ao25, co25, eo25⟩ := Kd.R_slice HO_9.out; subst eo25))
                          go_roundg kj12
                          case measure => have := HK1.out; have := HK2.out; have := HK3.out; have := HJ12.out; omega
                          case rel => exact ⟨(y298), (x7_2), (wrap64 (x8_2 + 1)), sr, H', ⟨by have := HK1.out; have := HK2.out; have := HK3.out; have := HJ12.out; omega⟩, ⟨R_later HO300.out⟩, ⟨R_later (Kd.R_mono HO_7.out (fun _ hk => hk.2))⟩, ⟨below_later HB.out⟩⟩
                        · rw [if_neg c23] at H
                          have c23b0 : ((x9_3.length : Int) == 0) = false := beq_eq_false_iff_ne.mpr c23
                          have c23b1 : ((x9_3.length : Int) != 0) = true := bne_iff_ne.mpr c23
                          have c23b2 : ¬ (x9_3 = []) := fun h_ => c23 (by rw [h_]; rfl)
                          have H' := Aside0.mk H
                          clear H
                          go_wp2_with (first | ((with_reducible refine gate_builtin (b := .append) (xs := #[.tmp 69, .tmp 72]) rfl ?_); (try (refine gate_guard (by rfl) ?_; dsimp only)); at_builtin; refine Kd.R_append (Kd.int .u8) (w0 := w) w.heap.size rfl (.tmp 69) (.tmp 72) 24 5 (.int .u8 0) 1 rfl Try.underlying24 info5 rfl (by decide) (by omega) u6 x6_2 ((x10_3) % 256) [.int .u8 ((x10_3) % 256)] (fun k_ => some k_ ≠ (u7 : Value).ownBlock) (fun _ => False) rfl rfl ?aP (fun _ hk => hk.elim) ?aF ?aO ?aB ?aS ?aL ?_; (case aP => exact rfl); (case aB => exact (below_later HB.out)); (case aF => exact (fun k_ hk => Kd.fresh' (Kd.R_lt (R_later HO_7.out)) k_ hk)); (case aO => exact (R_later HO_6.out)); (case aS => exact (below_size (below_later HB.out))); (case aL => have := LMc22.out; omega); intro v299 w26 ho hb hg hat; rw [← Ny298.out] at ho; have n0_ := Aside0.mk (Kd.R_after (ok := (fun _ => True)) (by (with_reducible repeat (first | apply Kd.R_alloc | apply Kd.R_drewN | apply Kd.R_drew)); exact Kd.R_mono HO_7.out (fun _ hk => ⟨trivial, hk⟩)) hg hat); have n1_ := Aside0.mk (Kd.R_over' (R_later HO_9.out) (Kd.R_typed (R_later HO_6.out)) (by decide) hg); have n2_ := Aside0.mk (hb); have n3_ := Aside0.mk (ho); clear HO_7; clear HO_9; clear HB; clear HO_6; have HO_7 := n0_; have HO_9 := n1_; have HB := n2_; have HO300 := n3_; clear n0_ n1_ n2_ n3_; clear ho hb hg hat; obtain ⟨Ao27, co27, eo27⟩ := Kd.R_slice HO_9.out; subst eo27))
                          go_loopg [9] kj12 (fun kq v9 w' => ∃ (x9_5 : List Int), Aside0 (spec_l9Block.l3 kq l0 x3_1 32 y298 x7_2 x8_2 x9_5 x10_3 = some r) ∧ Aside0 (kq ≤ kj12) ∧ Aside0 (Kd.R (Kd.int .u8) 5 w' w.heap.size (fun k_ => some k_ ≠ (u7 : Value).ownBlock) v299 y298) ∧ Aside0 (Kd.R (Kd.int .u8) 5 w' w.heap.size (fun k_ => some k_ ≠ (v299 : Value).ownBlock) u7 x7_2) ∧ Aside0 (Kd.R (Kd.int .i64) 3 w' w.heap.size (fun _ => True) v9 x9_5) ∧ Aside0 (Below w.heap.size w w'))
                          case atStart => exact ⟨(x9_3), H', ⟨Nat.le_refl _⟩, ⟨R_later HO300.out⟩, ⟨R_later (Kd.R_mono HO_7.out (fun _ hk => hk.2))⟩, ⟨R_later HO_9.out⟩, ⟨below_later HB.out⟩⟩
                          case round =>
                            clear H'
                            try clear c2
                            try clear c2b0
                            try clear c2b1
                            try clear c3
                            try clear c3b0
                            try clear c10
                            try clear c10b0
                            try clear c15
                            try clear c22
                            try clear c23
                            try clear c23b0
                            try clear c23b1
                            try clear c23b2
                            try clear hx270_0
                            try clear p270
                            try clear q270
                            obtain ⟨x9_5, HA, HK5, HO_6, HO_7, HO_9, HB⟩ := hrel
                            cases gk with
                            | zero => exact absurd HA.out (by simp [spec_l9Block.l3])
                            | succ k5 =>
                              have H := HA.out
                              clear HA
                              simp only [spec_l9Block.l3] at H
                              by_cases c28 : (x9_5.length : Int) < 32
                              · rw [if_pos c28] at H
                                have c28b0 := decide_eq_true c28
                                have c28b1 : decide (x9_5.length < 32) = true := decide_eq_true (by omega)
                                clear c28
                                replace H := ifs H
                                obtain ⟨c29, H⟩ := H
                                have LMc29 := Aside0.mk c29
                                clear c29
                                obtain ⟨y301, hy301⟩ : ∃ y_ : List Int, y_ = (x9_5 ++ [0]) := ⟨_, rfl⟩
                                replace H : (spec_l9Block.l3 k5 l0 x3_1 32 y298 x7_2 x8_2 y301 x10_3) = some r := by first | (rw [hy301]; with_reducible exact H) | (rw [hy301]; exact H) | exact H
                                have Ny301 := Aside0.mk hy301
                                clear hy301
                                have H' := Aside0.mk H
                                clear H
                                obtain ⟨Ao30, co30, eo30⟩ := Kd.R_slice HO_9.out
                                subst eo30
                                go_wp2_with (first | ((with_reducible refine gate_builtin (b := .append) (xs := #[.tmp 81, .tmp 82]) rfl ?_); (try (refine gate_guard (by rfl) ?_; dsimp only)); at_builtin; refine Kd.R_append (Kd.int .i64) (w0 := w) w.heap.size rfl (.tmp 81) (.tmp 82) 41 3 (.int .i64 0) 8 rfl Try.underlying41 info3 rfl (by decide) (by omega) (.slice Ao30 x9_5.length co30) x9_5 0 [.int .i64 0] (fun _ => True) (fun _ => False) rfl rfl ?aP (fun _ hk => hk.elim) ?aF ?aO ?aB ?aS ?aL ?_; (case aP => exact rfl); (case aB => exact (below_later HB.out)); (case aF => exact (fun _ _ => trivial)); (case aO => exact (R_later HO_9.out)); (case aS => exact (below_size (below_later HB.out))); (case aL => have := LMc29.out; omega); intro v302 w31 ho hb hg hat; rw [← Ny301.out] at ho; have n0_ := Aside0.mk (Kd.R_over' (R_later HO_6.out) (Kd.R_typed (R_later HO_9.out)) (by decide) hg); have n1_ := Aside0.mk (Kd.R_over' (R_later HO_7.out) (Kd.R_typed (R_later HO_9.out)) (by decide) hg); have n2_ := Aside0.mk (hb); have n3_ := Aside0.mk (ho); clear HO_6; clear HO_7; clear HB; clear HO_9; have HO_6 := n0_; have HO_7 := n1_; have HB := n2_; have HO303 := n3_; clear n0_ n1_ n2_ n3_; clear ho hb hg hat))
                                go_roundg k5
                                case measure => have := HK1.out; have := HK2.out; have := HK3.out; have := HJ12.out; have := HK5.out; omega
                                case rel => exact ⟨(y301), H', ⟨by have := HK1.out; have := HK2.out; have := HK3.out; have := HJ12.out; have := HK5.out; omega⟩, ⟨R_later HO_6.out⟩, ⟨R_later HO_7.out⟩, ⟨R_later HO303.out⟩, ⟨below_later HB.out⟩⟩
                              · rw [if_neg c28] at H
                                have c28b0 := decide_eq_false c28
                                have c28b1 : decide (x9_5.length < 32) = false := decide_eq_false (by omega)
                                clear c28
                                replace H := bnd H
                                obtain ⟨t304, A32, H⟩ := H
                                replace H := ifs H
                                obtain ⟨c33, H⟩ := H
                                have LMc33 := Aside0.mk c33
                                clear c33
                                obtain ⟨y307, hy307⟩ : ∃ y_ : List Int, y_ = (x7_2 ++ t304) := ⟨_, rfl⟩
                                replace H : (spec_l9Block.l1 k5 l0 x3_1 32 y298 y307 (wrap64 (x8_2 + 1))) = some r := by first | (rw [hy307]; with_reducible exact H) | (rw [hy307]; exact H) | exact H
                                have Ny307 := Aside0.mk hy307
                                clear hy307
                                have H' := Aside0.mk H
                                clear H
                                obtain ⟨Ao34, co34, eo34⟩ := Kd.R_slice HO_9.out
                                subst eo34
                                go_wp2_with (first | ((with_reducible refine gate_callee (f := 78) rfl ?_); refine gl_ (some 87) Try.func78 #[.slice Ao34 x9_5.length co34, .int .i64 x10_3] rfl ?_; (with_reducible refine (spec_l9Bits.calls k5 _ _ x9_5 x10_3 t304 _ ?side1 ?side2 A32.out).mono ?_); (case side1 => repeat (first | exact (Kd.R_reads' HO_9.out).2.2 | (with_reducible refine Kd.C_alloc ?_ _) | (with_reducible refine Kd.C_drewN ?_ _) | (with_reducible refine Kd.C_drew ?_))); (case side2 => exact (Kd.R_reads' HO_9.out).2.1); rintro e w35 ⟨v305, rfl, ho0, hb⟩; refine ⟨_, rfl, ?_⟩; have HO306 := Aside0.mk (Kd.R_lower (Kd.R_new' (Kd.R_new' ho0 (Kd.R_lt (R_later HO_6.out))) (Kd.R_lt (R_later HO_7.out))) (below_size (below_later HB.out))); replace HO_6 := Aside0.mk (Kd.R_elder' (R_later HO_6.out) (Kd.R_base ho0) hb); replace HO_7 := Aside0.mk (Kd.R_elder' (R_later HO_7.out) (Kd.R_base ho0) hb); replace HO_9 := Aside0.mk (Kd.R_below (R_later HO_9.out) hb); replace HB := bst HB hb; (try clear hb); (try clear hk); (try clear ho0); obtain ⟨Ao37, co37, eo37⟩ := Kd.R_slice HO306.out; subst eo37) | ((with_reducible refine gate_builtin (b := .append) (xs := #[.tmp 84, .tmp 87]) rfl ?_); (try (refine gate_guard (by rfl) ?_; dsimp only)); at_builtin; refine Kd.R_append_rows (Kd.int .u8) (w0 := w) w.heap.size rfl (.tmp 84) (.tmp 87) 24 5 (.int .u8 0) 1 rfl Try.underlying24 info5 rfl (by decide) (by omega) u7 x7_2 t304 _ _ _ (fun k_ => some k_ ≠ (v299 : Value).ownBlock ∧ some k_ ≠ (.slice Ao37 t304.length co37 : Value).ownBlock) (fun _ => False) rfl rfl ?aO ?aR (fun _ _ h => h) (fun _ h => h.elim) ?aF ?aB ?aS ?aL ?_; (case aR => repeat (first | exact (Kd.R_reads' HO306.out).2.2 | (with_reducible refine Kd.C_alloc ?_ _) | (with_reducible refine Kd.C_drewN ?_ _) | (with_reducible refine Kd.C_drew ?_))); (case aB => exact (below_later HB.out)); (case aF => exact (fun k_ hk => ⟨Kd.fresh' (Kd.R_lt (R_later HO_6.out)) k_ hk, Kd.fresh' (Kd.R_lt (R_later HO306.out)) k_ hk⟩)); (case aO => exact (R_later HO_7.out)); (case aS => exact (below_size (below_later HB.out))); (case aL => have := LMc33.out; omega); intro v308 w36 ho hb hg hat; rw [← Ny307.out] at ho; have n0_ := Aside0.mk (Kd.R_after (ok := (fun k_ => some k_ ≠ (.slice Ao37 t304.length co37 : Value).ownBlock)) (by (with_reducible repeat (first | apply Kd.R_alloc | apply Kd.R_drewN | apply Kd.R_drew)); exact Kd.R_mono HO_6.out (fun _ hk => ⟨hk.2, hk.1⟩)) hg hat); have n1_ := Aside0.mk (Kd.R_over' (R_later HO_9.out) (Kd.R_typed (R_later HO_7.out)) (by decide) hg); have n2_ := Aside0.mk (Kd.R_after (ok := (fun k_ => some k_ ≠ (v299 : Value).ownBlock)) (by (with_reducible repeat (first | apply Kd.R_alloc | apply Kd.R_drewN | apply Kd.R_drew)); exact Kd.R_mono HO306.out (fun _ hk => ⟨hk.1.2, hk.2⟩)) hg hat); have n3_ := Aside0.mk (hb); have n4_ := Aside0.mk (ho); clear HO_6; clear HO_9; clear HO306; clear HB; clear HO_7; have HO_6 := n0_; have HO_9 := n1_; have HO306 := n2_; have HB := n3_; have HO309 := n4_; clear n0_ n1_ n2_ n3_ n4_; clear ho hb hg hat))
                                go_roundg k5
                                case measure => have := HK1.out; have := HK2.out; have := HK3.out; have := HJ12.out; have := HK5.out; omega
                                case rel => exact ⟨(y298), (y307), (wrap64 (x8_2 + 1)), sr, H', ⟨by have := HK1.out; have := HK2.out; have := HK3.out; have := HJ12.out; have := HK5.out; omega⟩, ⟨R_later (Kd.R_mono HO_6.out (fun _ hk => hk.2))⟩, ⟨R_later (Kd.R_mono HO309.out (fun _ hk => hk.1))⟩, ⟨below_later HB.out⟩⟩
            · rw [if_neg c10] at H
              have c10b0 := decide_eq_false c10
              clear c10
              replace H := bnd H
              obtain ⟨t279, A38, H⟩ := H
              replace H := ifs H
              obtain ⟨c39, H⟩ := H
              have LMc39 := Aside0.mk c39
              clear c39
              replace H := bsm H
              obtain ⟨y282, Ny282, H⟩ := H
              replace H := ifs H
              obtain ⟨c40, H⟩ := H
              have LMc40 := Aside0.mk c40
              clear c40
              obtain ⟨y285, hy285⟩ : ∃ y_ : List Int, y_ = (y282 ++ x7_2) := ⟨_, rfl⟩
              replace H : (some y285) = some r := by first | (rw [hy285]; with_reducible exact H) | (rw [hy285]; exact H) | exact H
              have Ny285 := Aside0.mk hy285
              clear hy285
              obtain rfl := Option.some.inj H
              go_wp2_with (first | ((with_reducible refine gate_callee (f := 49) rfl ?_); refine gl_ (some 90) Try.func49 #[.int .i64 x3_1] rfl ?_; (with_reducible refine (spec_ZigPut.calls k2 x3_1 t279 _ A38.out).mono ?_); rintro e w41 ⟨v280, rfl, ho0, hb⟩; refine ⟨_, rfl, ?_⟩; have HO281 := Aside0.mk (Kd.R_lower (Kd.R_new' (Kd.R_new' ho0 (Kd.R_lt (R_later HO_6.out))) (Kd.R_lt (R_later HO_7.out))) (below_size (below_later HB.out))); replace HO_6 := Aside0.mk (Kd.R_elder' (R_later HO_6.out) (Kd.R_base ho0) hb); replace HO_7 := Aside0.mk (Kd.R_elder' (R_later HO_7.out) (Kd.R_base ho0) hb); replace HB := bst HB hb; (try clear hb); (try clear hk); (try clear ho0); obtain ⟨Ao43, co43, eo43⟩ := Kd.R_slice HO_6.out; subst eo43) | ((with_reducible refine gate_builtin (b := .append) (xs := #[.tmp 90, .tmp 91]) rfl ?_); (try (refine gate_guard (by rfl) ?_; dsimp only)); at_builtin; refine Kd.R_append_rows (Kd.int .u8) (w0 := w) w.heap.size rfl (.tmp 90) (.tmp 91) 24 5 (.int .u8 0) 1 rfl Try.underlying24 info5 rfl (by decide) (by omega) v280 t279 x6_2 _ _ _ (fun k_ => some k_ ≠ (.slice Ao43 x6_2.length co43 : Value).ownBlock ∧ some k_ ≠ (u7 : Value).ownBlock) (fun _ => False) rfl rfl ?aO ?aR (fun _ _ h => h) (fun _ h => h.elim) ?aF ?aB ?aS ?aL ?_; (case aR => repeat (first | exact (Kd.R_reads' HO_6.out).2.2 | (with_reducible refine Kd.C_alloc ?_ _) | (with_reducible refine Kd.C_drewN ?_ _) | (with_reducible refine Kd.C_drew ?_))); (case aB => exact (below_later HB.out)); (case aF => exact (fun k_ hk => ⟨Kd.fresh' (Kd.R_lt (R_later HO_6.out)) k_ hk, Kd.fresh' (Kd.R_lt (R_later HO_7.out)) k_ hk⟩)); (case aO => exact (by (with_reducible repeat (first | apply Kd.R_alloc | apply Kd.R_drewN | apply Kd.R_drew)); exact Kd.R_mono HO281.out (fun _ hk => ⟨hk.1.2, hk.2⟩))); (case aS => exact (below_size (below_later HB.out))); (case aL => have := LMc39.out; omega); intro v283 w42 ho hb hg hat; rw [← Ny282.out] at ho; have n0_ := Aside0.mk (Kd.R_after (ok := (fun k_ => some k_ ≠ (u7 : Value).ownBlock)) (R_later HO_6.out) hg hat); have n1_ := Aside0.mk (Kd.R_after (ok := (fun k_ => some k_ ≠ (.slice Ao43 x6_2.length co43 : Value).ownBlock)) (R_later HO_7.out) hg hat); have n2_ := Aside0.mk (hb); have n3_ := Aside0.mk (ho); clear HO_6; clear HO_7; clear HB; clear HO281; have HO_6 := n0_; have HO_7 := n1_; have HB := n2_; have HO284 := n3_; clear n0_ n1_ n2_ n3_; clear ho hb hg hat; obtain ⟨Ao45, co45, eo45⟩ := Kd.R_slice HO_7.out; subst eo45) | ((with_reducible refine gate_builtin (b := .append) (xs := #[.tmp 92, .tmp 93]) rfl ?_); (try (refine gate_guard (by rfl) ?_; dsimp only)); at_builtin; refine Kd.R_append_rows (Kd.int .u8) (w0 := w) w.heap.size rfl (.tmp 92) (.tmp 93) 24 5 (.int .u8 0) 1 rfl Try.underlying24 info5 rfl (by decide) (by omega) v283 y282 x7_2 _ _ _ (fun k_ => some k_ ≠ (.slice Ao43 x6_2.length co43 : Value).ownBlock ∧ some k_ ≠ (.slice Ao45 x7_2.length co45 : Value).ownBlock) (fun _ => False) rfl rfl ?aO ?aR (fun _ _ h => h) (fun _ h => h.elim) ?aF ?aB ?aS ?aL ?_; (case aR => repeat (first | exact (Kd.R_reads' HO_7.out).2.2 | (with_reducible refine Kd.C_alloc ?_ _) | (with_reducible refine Kd.C_drewN ?_ _) | (with_reducible refine Kd.C_drew ?_))); (case aB => exact (below_later HB.out)); (case aF => exact (fun k_ hk => ⟨Kd.fresh' (Kd.R_lt (R_later HO_6.out)) k_ hk, Kd.fresh' (Kd.R_lt (R_later HO_7.out)) k_ hk⟩)); (case aO => exact (R_later HO284.out)); (case aS => exact (below_size (below_later HB.out))); (case aL => have := LMc40.out; omega); intro v286 w44 ho hb hg hat; rw [← Ny285.out] at ho; have n0_ := Aside0.mk (Kd.R_after (ok := (fun k_ => some k_ ≠ (.slice Ao45 x7_2.length co45 : Value).ownBlock)) (R_later HO_6.out) hg hat); have n1_ := Aside0.mk (Kd.R_after (ok := (fun k_ => some k_ ≠ (.slice Ao43 x6_2.length co43 : Value).ownBlock)) (R_later HO_7.out) hg hat); have n2_ := Aside0.mk (hb); have n3_ := Aside0.mk (ho); clear HO_6; clear HO_7; clear HB; clear HO284; have HO_6 := n0_; have HO_7 := n1_; have HB := n2_; have HO287 := n3_; clear n0_ n1_ n2_ n3_; clear ho hb hg hat))
              go_ret
              exact ⟨_, by first | rfl | (simp [errW_none, errW_some] <;> rfl) | (simp [*, errW_none, errW_some] <;> rfl), by (with_reducible repeat (first | apply Kd.R_alloc | apply Kd.R_drewN | apply Kd.R_drew)); exact Kd.R_mono HO287.out (fun _ hk => trivial), below_later HB.out⟩
/-! ### spec_DeltaPack: function 20 -/
mutual
def spec_DeltaPack.j0 : Nat → List Int → Int → Option (List Int × Bool)
  | 0, _, _ => none
  | k + 1, x0, x4 => (spec_UvarPut.f k 128).bind fun t314 => ((spec_UvarPut.f k 4).bind fun t317 => (if t314.length + t317.length < 140737488355328 then ((some (t314 ++ t317 : List Int)).bind fun y320 => ((spec_UvarPut.f k (x0.length : Int)).bind fun t323 => (if y320.length + t323.length < 140737488355328 then ((some (y320 ++ t323 : List Int)).bind fun y326 => ((spec_ZigPut.f k x4).bind fun t329 => (if y326.length + t329.length < 140737488355328 then ((spec_Differences.f k x0).bind fun t335 => (spec_DeltaPack.l0 k (y326 ++ t329) t335 0)) else (none)))) else (none)))) else (none)))
def spec_DeltaPack.l0 : Nat → List Int → List Int → Int → Option (List Int × Bool)
  | 0, _, _, _ => none
  | k + 1, x5, x6, x7 => if x7 < (x6.length : Int) then ((spec_l1Min.f (wrap64 (x7 + 128)) (x6.length : Int)).bind fun t338 => (if 0 ≤ x7 then (if x7 ≤ t338 then (if t338 ≤ (x6.length : Int) then ((spec_l9Block.f k ((x6.take (t338 : Int).toNat).drop (x7 : Int).toNat)).bind fun t343 => (if x5.length + t343.length < 140737488355328 then (spec_DeltaPack.l0 k (x5 ++ t343) x6 (wrap64 (x7 + 128))) else (none))) else (none)) else (none)) else (none))) else (some (x5, true))
end
def spec_DeltaPack.f (k : Nat) (l0 : List Int) : Option (List Int × Bool) := if (l0.length : Int) > 2000 then (some ((([] : List Int)), false)) else (if (l0.length : Int) > 0 then (if 0 < (l0.length : Int) then (spec_DeltaPack.j0 k l0 (rd l0 0)) else (none)) else (spec_DeltaPack.j0 k l0 0))
set_option maxHeartbeats 8000000 in
set_option maxRecDepth 100000 in
theorem spec_DeltaPack.calls (k : Nat) (A0 : Option Addr) (c0 : Nat) (l0 : List Int) (r1 : List Int) (r2 : Bool) (w : World) (hr0 : Kd.C (Kd.int .i64) w A0 l0.length l0) (hc0 : l0.length ≤ c0) (h : spec_DeltaPack.f k l0 = some (r1, r2)) :
    Calls Try.prog 20 #[.slice A0 l0.length c0] w fun e w' => ∃ v0_ : Value, e = .returned (.tuple #[v0_, .bool r2]) ∧ Kd.R (Kd.int .u8) 5 w' w.heap.size (fun _ => True) v0_ r1 ∧ Below w.heap.size w w' := by
  have HR0 := Aside0.mk hr0
  have HC0 := Aside0.mk hc0
  clear hr0 hc0
  have HB := Aside0.mk (Below.refl w.heap.size w)
  have H : (if (l0.length : Int) > 2000 then (some ((([] : List Int)), false)) else (if (l0.length : Int) > 0 then (if 0 < (l0.length : Int) then (spec_DeltaPack.j0 k l0 (rd l0 0)) else (none)) else (spec_DeltaPack.j0 k l0 0))) = some (r1, r2) := h
  clear h
  by_cases c2 : (l0.length : Int) > 2000
  · rw [if_pos c2] at H
    have c2b0 : decide (2000 < (l0.length : Int)) = true := decide_eq_true c2
    have c2b1 : decide (2000 < l0.length) = true := decide_eq_true (by omega)
    clear c2
    obtain ⟨y310, hy310⟩ : ∃ y_ : List Int, y_ = (([] : List Int)) := ⟨_, rfl⟩
    replace H : (some (y310, false)) = some (r1, r2) := by first | (rw [hy310]; with_reducible exact H) | (rw [hy310]; exact H) | exact H
    have Ny310 := Aside0.mk hy310
    clear hy310
    simp only [Option.some.injEq, Prod.mk.injEq] at H
    obtain ⟨rfl, rfl⟩ := H
    go_enter Try.func20, Try.ntmps20
    go_wp2_with (first | ((with_reducible refine gate_dst (N := 11) rfl ?_); refine Kd.R_lit (Kd.int .u8) _ 5 ?hg (N := 11) ?hd (xs := ([] : List Int)) (inner := []) (ok := fun _ => True) (okp := fun _ => True) ?hr ?hp (fun _ hk => hk) trivial (Below.refl _ _) (Nat.le_refl _) (by simp) ?_; (case hd => rfl); (case hg => rfl); (case hr => first | (go_simp; done) | (go_simp; rfl)); (case hp => exact (Reps.none _ _)); intro v311 w3 ho4 hb hg_ hnew_; clear hg_ hnew_; (first | rw [← Ny310.out] at ho4 | (simp only [Int.reduceToNat] at ho4; rw [← Ny310.out] at ho4)); have HO312 := Aside0.mk (Kd.R_lower ho4 (below_size (below_later HB.out))); replace HB := bst HB hb; clear hb ho4))
    go_ret2
    exact ⟨_, by first | rfl | (simp [errW_none, errW_some] <;> rfl) | (simp [*, errW_none, errW_some] <;> rfl), by (with_reducible repeat (first | apply Kd.R_alloc | apply Kd.R_drewN | apply Kd.R_drew)); exact HO312.out, below_later HB.out⟩
  · rw [if_neg c2] at H
    have c2b0 : decide (2000 < (l0.length : Int)) = false := decide_eq_false c2
    have c2b1 : decide (2000 < l0.length) = false := decide_eq_false (by omega)
    clear c2
    have HC5 := Aside0.mk H
    clear H
    go_enter Try.func20, Try.ntmps20
    go_upto_if 14 with (fail)
    go_cut [4] (fun v4 wc => ∃ (kq : Nat) (x4_4 : Int), v4 = .int .i64 x4_4 ∧ Aside0 (spec_DeltaPack.j0 kq l0 x4_4 = some (r1, r2)) ∧ Aside0 (kq ≤ k) ∧ Aside0 (Below w.heap.size w wc))
    case first =>
      have H := HC5.out
      clear HC5
      by_cases c6 : (l0.length : Int) > 0
      · rw [if_pos c6] at H
        have c6b0 : decide (0 < (l0.length : Int)) = true := decide_eq_true c6
        have c6b1 : decide (0 < l0.length) = true := decide_eq_true (by omega)
        clear c6
        (first | rw [c6b0] | rw [c6b1] | (simp only [i64_w, i32_w]; rw [c6b0]) | skip)
        replace H := ifs H
        obtain ⟨c7, H⟩ := H
        have c7b0 := decide_eq_true c7
        have c7b1 : decide (0 < l0.length) = true := decide_eq_true (by omega)
        clear c7
        have H' := Aside0.mk H
        clear H
        have p313 : 0 ≤ (0 : Int) := (by omega)
        have q313 : 0 < (l0.length : Int) := dcd
        obtain ⟨ad313, e313, hx313_0⟩ := Kd.at_int HR0.out 0 p313 q313
        cases e313
        have qi313 : (0 < l0.length) = True := eq_true (by omega)
        (try rw [show ((0 : Int)).toNat = 0 from rfl] at hx313_0)
        (try rw [Addr.add_zero'] at hx313_0)
        replace hx313_0 := crd HB hx313_0
        replace p313 := eq_true p313
        replace q313 := eq_true q313
        go_wp2
        go_meet
        case rel => exact ⟨_, (rd l0 0), sr, H', ⟨by first | omega | exact Nat.le_refl _⟩, ⟨below_later HB.out⟩⟩
      · rw [if_neg c6] at H
        have c6b0 : decide (0 < (l0.length : Int)) = false := decide_eq_false c6
        have c6b1 : decide (0 < l0.length) = false := decide_eq_false (by omega)
        clear c6
        (first | rw [c6b0] | rw [c6b1] | (simp only [i64_w, i32_w]; rw [c6b0]) | skip)
        have H' := Aside0.mk H
        clear H
        go_wp2
        go_meet
        case rel => exact ⟨_, (0), sr, H', ⟨by first | omega | exact Nat.le_refl _⟩, ⟨below_later HB.out⟩⟩
    case rest =>
      clear HC5
      try clear c2
      try clear c2b0
      try clear c2b1
      obtain ⟨kq, x4_4, rfl, HA, HJ4, HB⟩ := hcut
      cases kq with
      | zero => exact absurd HA.out (by simp [spec_DeltaPack.j0])
      | succ kj4 =>
        have H := HA.out
        clear HA
        simp only [spec_DeltaPack.j0] at H
        replace H := bnd H
        obtain ⟨t314, A8, H⟩ := H
        replace H := bnd H
        obtain ⟨t317, A9, H⟩ := H
        replace H := ifs H
        obtain ⟨c10, H⟩ := H
        have LMc10 := Aside0.mk c10
        clear c10
        replace H := bsm H
        obtain ⟨y320, Ny320, H⟩ := H
        replace H := bnd H
        obtain ⟨t323, A11, H⟩ := H
        replace H := ifs H
        obtain ⟨c12, H⟩ := H
        have LMc12 := Aside0.mk c12
        clear c12
        replace H := bsm H
        obtain ⟨y326, Ny326, H⟩ := H
        replace H := bnd H
        obtain ⟨t329, A13, H⟩ := H
        replace H := ifs H
        obtain ⟨c14, H⟩ := H
        have LMc14 := Aside0.mk c14
        clear c14
        obtain ⟨y332, hy332⟩ : ∃ y_ : List Int, y_ = (y326 ++ t329) := ⟨_, rfl⟩
        replace H : ((spec_Differences.f kj4 l0).bind fun t335 => (spec_DeltaPack.l0 kj4 y332 t335 0)) = some (r1, r2) := by first | (rw [hy332]; with_reducible exact H) | (rw [hy332]; exact H) | exact H
        have Ny332 := Aside0.mk hy332
        clear hy332
        replace H := bnd H
        obtain ⟨t335, A15, H⟩ := H
        have H' := Aside0.mk H
        clear H
        go_wp2_with (first | ((with_reducible refine gate_callee (f := 45) rfl ?_); refine gl_ (some 18) Try.func45 #[.int .i64 128] rfl ?_; (with_reducible refine (spec_UvarPut.calls kj4 128 t314 _ A8.out).mono ?_); rintro e w16 ⟨v315, rfl, ho0, hb⟩; refine ⟨_, rfl, ?_⟩; have HO316 := Aside0.mk (Kd.R_lower ho0 (below_size (below_later HB.out))); replace HB := bst HB hb; (try clear hb); (try clear hk); (try clear ho0)) | ((with_reducible refine gate_callee (f := 45) rfl ?_); refine gl_ (some 19) Try.func45 #[.int .i64 4] rfl ?_; (with_reducible refine (spec_UvarPut.calls kj4 4 t317 _ A9.out).mono ?_); rintro e w17 ⟨v318, rfl, ho0, hb⟩; refine ⟨_, rfl, ?_⟩; have HO319 := Aside0.mk (Kd.R_lower (Kd.R_new' ho0 (Kd.R_lt (R_later HO316.out))) (below_size (below_later HB.out))); replace HO316 := Aside0.mk (Kd.R_elder' (R_later HO316.out) (Kd.R_base ho0) hb); replace HB := bst HB hb; (try clear hb); (try clear hk); (try clear ho0); obtain ⟨Ao19, co19, eo19⟩ := Kd.R_slice HO319.out; subst eo19) | ((with_reducible refine gate_builtin (b := .append) (xs := #[.tmp 18, .tmp 19]) rfl ?_); at_builtin; refine Kd.R_append_rows (Kd.int .u8) (w0 := w) w.heap.size rfl (.tmp 18) (.tmp 19) 24 5 (.int .u8 0) 1 rfl Try.underlying24 info5 rfl (by decide) (by omega) v315 t314 t317 _ _ _ (fun k_ => some k_ ≠ (.slice Ao19 t317.length co19 : Value).ownBlock) (fun _ => False) rfl rfl ?aO ?aR (fun _ _ h => h) (fun _ h => h.elim) ?aF ?aB ?aS ?aL ?_; (case aR => repeat (first | exact (Kd.R_reads' HO319.out).2.2 | (with_reducible refine Kd.C_alloc ?_ _) | (with_reducible refine Kd.C_drewN ?_ _) | (with_reducible refine Kd.C_drew ?_))); (case aB => exact (below_later HB.out)); (case aF => exact (fun k_ hk => Kd.fresh' (Kd.R_lt (R_later HO319.out)) k_ hk)); (case aO => exact (by (with_reducible repeat (first | apply Kd.R_alloc | apply Kd.R_drewN | apply Kd.R_drew)); exact Kd.R_mono HO316.out (fun _ hk => hk.2))); (case aS => exact (below_size (below_later HB.out))); (case aL => have := LMc10.out; omega); intro v321 w18 ho hb hg hat; rw [← Ny320.out] at ho; have n0_ := Aside0.mk (Kd.R_after (ok := (fun _ => True)) (R_later HO319.out) hg hat); have n1_ := Aside0.mk (hb); have n2_ := Aside0.mk (ho); clear HO319; clear HB; clear HO316; have HO319 := n0_; have HB := n1_; have HO322 := n2_; clear n0_ n1_ n2_; clear ho hb hg hat) | ((with_reducible refine gate_callee (f := 45) rfl ?_); refine gl_ (some 24) Try.func45 #[.int .i64 (l0.length : Int)] rfl ?_; (with_reducible refine (spec_UvarPut.calls kj4 (l0.length : Int) t323 _ A11.out).mono ?_); rintro e w20 ⟨v324, rfl, ho0, hb⟩; refine ⟨_, rfl, ?_⟩; have HO325 := Aside0.mk (Kd.R_lower (Kd.R_new' (Kd.R_new' ho0 (Kd.R_lt (R_later HO319.out))) (Kd.R_lt (R_later HO322.out))) (below_size (below_later HB.out))); replace HO319 := Aside0.mk (Kd.R_elder' (R_later HO319.out) (Kd.R_base ho0) hb); replace HO322 := Aside0.mk (Kd.R_elder' (R_later HO322.out) (Kd.R_base ho0) hb); replace HB := bst HB hb; (try clear hb); (try clear hk); (try clear ho0); obtain ⟨Ao22, co22, eo22⟩ := Kd.R_slice HO325.out; subst eo22) | ((with_reducible refine gate_builtin (b := .append) (xs := #[.tmp 21, .tmp 24]) rfl ?_); at_builtin; refine Kd.R_append_rows (Kd.int .u8) (w0 := w) w.heap.size rfl (.tmp 21) (.tmp 24) 24 5 (.int .u8 0) 1 rfl Try.underlying24 info5 rfl (by decide) (by omega) v321 y320 t323 _ _ _ (fun k_ => some k_ ≠ (.slice Ao19 t317.length co19 : Value).ownBlock ∧ some k_ ≠ (.slice Ao22 t323.length co22 : Value).ownBlock) (fun _ => False) rfl rfl ?aO ?aR (fun _ _ h => h) (fun _ h => h.elim) ?aF ?aB ?aS ?aL ?_; (case aR => repeat (first | exact (Kd.R_reads' HO325.out).2.2 | (with_reducible refine Kd.C_alloc ?_ _) | (with_reducible refine Kd.C_drewN ?_ _) | (with_reducible refine Kd.C_drew ?_))); (case aB => exact (below_later HB.out)); (case aF => exact (fun k_ hk => ⟨Kd.fresh' (Kd.R_lt (R_later HO319.out)) k_ hk, Kd.fresh' (Kd.R_lt (R_later HO325.out)) k_ hk⟩)); (case aO => exact (R_later HO322.out)); (case aS => exact (below_size (below_later HB.out))); (case aL => have := LMc12.out; omega); intro v327 w21 ho hb hg hat; rw [← Ny326.out] at ho; have n0_ := Aside0.mk (Kd.R_after (ok := (fun k_ => some k_ ≠ (.slice Ao22 t323.length co22 : Value).ownBlock)) (by (with_reducible repeat (first | apply Kd.R_alloc | apply Kd.R_drewN | apply Kd.R_drew)); exact Kd.R_mono HO319.out (fun _ hk => ⟨hk.2, hk.1.2⟩)) hg hat); have n1_ := Aside0.mk (Kd.R_after (ok := (fun k_ => some k_ ≠ (.slice Ao19 t317.length co19 : Value).ownBlock)) (by (with_reducible repeat (first | apply Kd.R_alloc | apply Kd.R_drewN | apply Kd.R_drew)); exact Kd.R_mono HO325.out (fun _ hk => ⟨hk.1.2, hk.2⟩)) hg hat); have n2_ := Aside0.mk (hb); have n3_ := Aside0.mk (ho); clear HO319; clear HO325; clear HB; clear HO322; have HO319 := n0_; have HO325 := n1_; have HB := n2_; have HO328 := n3_; clear n0_ n1_ n2_ n3_; clear ho hb hg hat) | ((with_reducible refine gate_callee (f := 49) rfl ?_); refine gl_ (some 28) Try.func49 #[.int .i64 x4_4] rfl ?_; (with_reducible refine (spec_ZigPut.calls kj4 x4_4 t329 _ A13.out).mono ?_); rintro e w23 ⟨v330, rfl, ho0, hb⟩; refine ⟨_, rfl, ?_⟩; have HO331 := Aside0.mk (Kd.R_lower (Kd.R_new' (Kd.R_new' (Kd.R_new' ho0 (Kd.R_lt (R_later HO319.out))) (Kd.R_lt (R_later HO325.out))) (Kd.R_lt (R_later HO328.out))) (below_size (below_later HB.out))); replace HO319 := Aside0.mk (Kd.R_elder' (R_later HO319.out) (Kd.R_base ho0) hb); replace HO325 := Aside0.mk (Kd.R_elder' (R_later HO325.out) (Kd.R_base ho0) hb); replace HO328 := Aside0.mk (Kd.R_elder' (R_later HO328.out) (Kd.R_base ho0) hb); replace HB := bst HB hb; (try clear hb); (try clear hk); (try clear ho0); obtain ⟨Ao25, co25, eo25⟩ := Kd.R_slice HO331.out; subst eo25) | ((with_reducible refine gate_builtin (b := .append) (xs := #[.tmp 26, .tmp 28]) rfl ?_); at_builtin; refine Kd.R_append_rows (Kd.int .u8) (w0 := w) w.heap.size rfl (.tmp 26) (.tmp 28) 24 5 (.int .u8 0) 1 rfl Try.underlying24 info5 rfl (by decide) (by omega) v327 y326 t329 _ _ _ (fun k_ => some k_ ≠ (.slice Ao19 t317.length co19 : Value).ownBlock ∧ some k_ ≠ (.slice Ao22 t323.length co22 : Value).ownBlock ∧ some k_ ≠ (.slice Ao25 t329.length co25 : Value).ownBlock) (fun _ => False) rfl rfl ?aO ?aR (fun _ _ h => h) (fun _ h => h.elim) ?aF ?aB ?aS ?aL ?_; (case aR => repeat (first | exact (Kd.R_reads' HO331.out).2.2 | (with_reducible refine Kd.C_alloc ?_ _) | (with_reducible refine Kd.C_drewN ?_ _) | (with_reducible refine Kd.C_drew ?_))); (case aB => exact (below_later HB.out)); (case aF => exact (fun k_ hk => ⟨Kd.fresh' (Kd.R_lt (R_later HO319.out)) k_ hk, Kd.fresh' (Kd.R_lt (R_later HO325.out)) k_ hk, Kd.fresh' (Kd.R_lt (R_later HO331.out)) k_ hk⟩)); (case aO => exact (by (with_reducible repeat (first | apply Kd.R_alloc | apply Kd.R_drewN | apply Kd.R_drew)); exact Kd.R_mono HO328.out (fun _ hk => ⟨hk.1.1, ⟨hk.1.2, hk.2⟩⟩))); (case aS => exact (below_size (below_later HB.out))); (case aL => have := LMc14.out; omega); intro v333 w24 ho hb hg hat; rw [← Ny332.out] at ho; have n0_ := Aside0.mk (Kd.R_after (ok := (fun k_ => some k_ ≠ (.slice Ao22 t323.length co22 : Value).ownBlock ∧ some k_ ≠ (.slice Ao25 t329.length co25 : Value).ownBlock)) (by (with_reducible repeat (first | apply Kd.R_alloc | apply Kd.R_drewN | apply Kd.R_drew)); exact Kd.R_mono HO319.out (fun _ hk => ⟨⟨hk.1.1, hk.2⟩, hk.1.2⟩)) hg hat); have n1_ := Aside0.mk (Kd.R_after (ok := (fun k_ => some k_ ≠ (.slice Ao19 t317.length co19 : Value).ownBlock ∧ some k_ ≠ (.slice Ao25 t329.length co25 : Value).ownBlock)) (by (with_reducible repeat (first | apply Kd.R_alloc | apply Kd.R_drewN | apply Kd.R_drew)); exact Kd.R_mono HO325.out (fun _ hk => ⟨⟨hk.1.1, hk.2⟩, hk.1.2⟩)) hg hat); have n2_ := Aside0.mk (Kd.R_after (ok := (fun k_ => some k_ ≠ (.slice Ao19 t317.length co19 : Value).ownBlock ∧ some k_ ≠ (.slice Ao22 t323.length co22 : Value).ownBlock)) (by (with_reducible repeat (first | apply Kd.R_alloc | apply Kd.R_drewN | apply Kd.R_drew)); exact Kd.R_mono HO331.out (fun _ hk => ⟨⟨hk.1.1.2, hk.1.2⟩, hk.2⟩)) hg hat); have n3_ := Aside0.mk (hb); have n4_ := Aside0.mk (ho); clear HO319; clear HO325; clear HO331; clear HB; clear HO328; have HO319 := n0_; have HO325 := n1_; have HO331 := n2_; have HB := n3_; have HO334 := n4_; clear n0_ n1_ n2_ n3_ n4_; clear ho hb hg hat) | ((with_reducible refine gate_callee (f := 50) rfl ?_); refine gl_ (some 31) Try.func50 #[.slice A0 l0.length c0] rfl ?_; (with_reducible refine (spec_Differences.calls kj4 _ _ l0 t335 _ ?side1 ?side2 A15.out).mono ?_); (case side1 => repeat (first | exact (Kd.C_below HR0.out HB.out) | (with_reducible refine Kd.C_alloc ?_ _) | (with_reducible refine Kd.C_drewN ?_ _) | (with_reducible refine Kd.C_drew ?_))); (case side2 => exact HC0.out); rintro e w26 ⟨v336, rfl, ho0, hb⟩; refine ⟨_, rfl, ?_⟩; have HO337 := Aside0.mk (Kd.R_lower ho0 (below_size (below_later HB.out))); replace HO319 := Aside0.mk (Kd.R_below (R_later HO319.out) hb); replace HO325 := Aside0.mk (Kd.R_below (R_later HO325.out) hb); replace HO331 := Aside0.mk (Kd.R_below (R_later HO331.out) hb); replace HO334 := Aside0.mk (Kd.R_below (R_later HO334.out) hb); replace HB := bst HB hb; (try clear hb); (try clear hk); (try clear ho0)))
        go_loopg [5, 7] kj4 (fun kq v5 v7 w' => ∃ (x5_2 : List Int) (x7_2 : Int), v7 = .int .i64 x7_2 ∧ Aside0 (spec_DeltaPack.l0 kq x5_2 t335 x7_2 = some (r1, r2)) ∧ Aside0 (kq ≤ kj4) ∧ Aside0 (Kd.R (Kd.int .u8) 5 w' w.heap.size (fun _ => True) v5 x5_2) ∧ Aside0 (Kd.R (Kd.int .i64) 3 w' w.heap.size (fun _ => True) v336 t335) ∧ Aside0 (Below w.heap.size w w'))
        case atStart => exact ⟨(y332), (0), sr, H', ⟨Nat.le_refl _⟩, ⟨R_later (Kd.R_mono HO334.out (fun _ hk => trivial))⟩, ⟨R_later HO337.out⟩, ⟨below_later HB.out⟩⟩
        case round =>
          clear H'
          try clear c2
          try clear c2b0
          try clear c2b1
          try clear c10
          try clear c12
          try clear c14
          obtain ⟨x5_2, x7_2, rfl, HA, HK2, HO_5, HO_6, HB⟩ := hrel
          cases gk with
          | zero => exact absurd HA.out (by simp [spec_DeltaPack.l0])
          | succ k2 =>
            have H := HA.out
            clear HA
            simp only [spec_DeltaPack.l0] at H
            by_cases c27 : x7_2 < (t335.length : Int)
            · rw [if_pos c27] at H
              have c27b0 := decide_eq_true c27
              clear c27
              replace H := bnd H
              obtain ⟨t338, A28, H⟩ := H
              replace H := ifs H
              obtain ⟨c29, H⟩ := H
              have c29b0 := eq_true c29
              have c29b1 := decide_eq_true c29
              clear c29
              replace H := ifs H
              obtain ⟨c30, H⟩ := H
              have c30b0 := eq_true c30
              have c30b1 := decide_eq_true c30
              clear c30
              replace H := ifs H
              obtain ⟨c31, H⟩ := H
              have c31b0 := eq_true c31
              have c31b1 := decide_eq_true c31
              clear c31
              obtain ⟨y339, hy339⟩ : ∃ y_ : List Int, y_ = ((t335.take (t338 : Int).toNat).drop (x7_2 : Int).toNat) := ⟨_, rfl⟩
              replace H : ((spec_l9Block.f k2 y339).bind fun t343 => (if x5_2.length + t343.length < 140737488355328 then (spec_DeltaPack.l0 k2 (x5_2 ++ t343) t335 (wrap64 (x7_2 + 128))) else (none))) = some (r1, r2) := by first | (rw [hy339]; with_reducible exact H) | (rw [hy339]; exact H) | exact H
              have Ny339 := Aside0.mk hy339
              clear hy339
              replace H := bnd H
              obtain ⟨t343, A32, H⟩ := H
              replace H := ifs H
              obtain ⟨c33, H⟩ := H
              have LMc33 := Aside0.mk c33
              clear c33
              obtain ⟨y346, hy346⟩ : ∃ y_ : List Int, y_ = (x5_2 ++ t343) := ⟨_, rfl⟩
              replace H : (spec_DeltaPack.l0 k2 y346 t335 (wrap64 (x7_2 + 128))) = some (r1, r2) := by first | (rw [hy346]; with_reducible exact H) | (rw [hy346]; exact H) | exact H
              have Ny346 := Aside0.mk hy346
              clear hy346
              have H' := Aside0.mk H
              clear H
              obtain ⟨Ao34, co34, eo34⟩ := Kd.R_slice HO_6.out
              subst eo34
              go_wp2_with (first | ((with_reducible refine gate_callee (f := 52) rfl ?_); refine gl_ (some 45) Try.func52 #[.int .i64 (wrap64 (x7_2 + 128)), .int .i64 (t335.length : Int)] rfl ?_; (with_reducible refine (spec_l1Min.calls (wrap64 (x7_2 + 128)) (t335.length : Int) t338 _ A28.out).mono ?_); rintro e w' ⟨rfl, ⟨nd, rfl⟩⟩; refine ⟨_, rfl, ?_⟩; have q35 : (t338 : Int) ≤ ((t335.length : Int) : Int) := dcd; obtain ⟨i035, hi035, _, hsz35, _⟩ := info_parts info3; have hroom35 : t335.length ≤ co34 := (Kd.R_reads' HO_6.out).2.1; have hC35 : Kd.C (Kd.int .i64) _ Ao34 t335.length t335 := (Kd.R_reads' HO_6.out).2.2; have ql35 : (x7_2 : Int) ≤ (t338 : Int) := dcd; have q035 : (0 : Int) ≤ (x7_2 : Int) := dcd; have hcut35 := cut_mid (P := Try.prog) 41 3 .i64 .i64 Try.underlying41 hi035 1 hsz35 Ao34 t335.length co34 x7_2 t338 q035 ql35 q35 hroom35; have hr35 := Kd.C_mid (lo := (x7_2 : Int).toNat) (hi := (t338 : Int).toNat) (c := co34) hC35 (by omega) (by omega) hroom35; obtain ⟨A35, hA35⟩ : ∃ A1, A1 = (if co34 = (x7_2 : Int).toNat then Ao34 else (Ao34 : Option Addr).map (·.add ((x7_2 : Int).toNat * 1))) := ⟨_, rfl⟩; obtain ⟨c35, hc35⟩ : ∃ c1, c1 = co34 - (x7_2 : Int).toNat := ⟨_, rfl⟩; have hy35 : y339.length = (t338 : Int).toNat - (x7_2 : Int).toNat := (by rw [Ny339.out, List.length_drop, List.length_take] <;> omega); rw [show ((t335).take (t338 : Int).toNat).drop (x7_2 : Int).toNat = y339 from Ny339.out.symm] at hr35; replace hr35 : Kd.C (Kd.int .i64) _ A35 y339.length y339 := (by rw [hA35]; exact hr35); rw [← hy35, ← hA35, ← hc35] at hcut35; have HR342 := Aside0.mk hr35; have HC342 := Aside0.mk (show y339.length ≤ c35 from by rw [hy35, hc35]; exact Nat.sub_le_sub_right (Nat.le_trans (by omega) hroom35) _); clear hr35 hC35 hroom35 hi035 hsz35 hc35; have KY35 := Aside0.mk hy35; have KA35 := Aside0.mk hA35; clear hy35 hA35; have KL35 := Aside0.mk (show (t338 : Int).toNat ≤ t335.length from by omega); have KM35 := Aside0.mk (show (x7_2 : Int).toNat ≤ (t338 : Int).toNat from by omega); replace q35 := eq_true q35) | ((with_reducible refine gate_callee (f := 51) rfl ?_); refine gl_ (some 47) Try.func51 #[.slice A35 y339.length c35] rfl ?_; (with_reducible refine (spec_l9Block.calls k2 _ _ y339 t343 _ ?side1 ?side2 A32.out).mono ?_); (case side1 => repeat (first | exact (by repeat (first | (with_reducible exact HR342.out) | (with_reducible refine Kd.C_alloc ?_ _) | (with_reducible refine Kd.C_drewN ?_ _) | (with_reducible refine Kd.C_drew ?_) | exact HR342.out)) | (with_reducible refine Kd.C_alloc ?_ _) | (with_reducible refine Kd.C_drewN ?_ _) | (with_reducible refine Kd.C_drew ?_))); (case side2 => exact HC342.out); rintro e w36 ⟨v344, rfl, ho0, hb⟩; refine ⟨_, rfl, ?_⟩; have HO345 := Aside0.mk (Kd.R_lower (Kd.R_new' ho0 (Kd.R_lt (R_later HO_5.out))) (below_size (below_later HB.out))); replace HO_5 := Aside0.mk (Kd.R_elder' (R_later HO_5.out) (Kd.R_base ho0) hb); replace HO_6 := Aside0.mk (Kd.R_below (R_later HO_6.out) hb); replace HR342 := Aside0.mk (Kd.C_below (by repeat (first | (with_reducible exact HR342.out) | (with_reducible refine Kd.C_alloc ?_ _) | (with_reducible refine Kd.C_drewN ?_ _) | (with_reducible refine Kd.C_drew ?_) | exact HR342.out)) hb); replace HB := bst HB hb; (try clear hb); (try clear hk); (try clear hi); (try clear ho0); obtain ⟨Ao38, co38, eo38⟩ := Kd.R_slice HO345.out; subst eo38) | ((with_reducible refine gate_builtin (b := .append) (xs := #[.tmp 38, .tmp 47]) rfl ?_); at_builtin; refine Kd.R_append_rows (Kd.int .u8) (w0 := w) w.heap.size rfl (.tmp 38) (.tmp 47) 24 5 (.int .u8 0) 1 rfl Try.underlying24 info5 rfl (by decide) (by omega) u5 x5_2 t343 _ _ _ (fun k_ => some k_ ≠ (.slice Ao38 t343.length co38 : Value).ownBlock) (fun _ => False) rfl rfl ?aO ?aR (fun _ _ h => h) (fun _ h => h.elim) ?aF ?aB ?aS ?aL ?_; (case aR => repeat (first | exact (Kd.R_reads' HO345.out).2.2 | (with_reducible refine Kd.C_alloc ?_ _) | (with_reducible refine Kd.C_drewN ?_ _) | (with_reducible refine Kd.C_drew ?_))); (case aB => exact (below_later HB.out)); (case aF => exact (fun k_ hk => Kd.fresh' (Kd.R_lt (R_later HO345.out)) k_ hk)); (case aO => exact (by (with_reducible repeat (first | apply Kd.R_alloc | apply Kd.R_drewN | apply Kd.R_drew)); exact Kd.R_mono HO_5.out (fun _ hk => hk.2))); (case aS => exact (below_size (below_later HB.out))); (case aL => have := LMc33.out; omega); intro v347 w37 ho hb hg hat; rw [← Ny346.out] at ho; have n0_ := Aside0.mk (Kd.R_over' (R_later HO_6.out) (Kd.R_typed (R_later HO_5.out)) (by decide) hg); have n1_ := Aside0.mk (Kd.R_after (ok := (fun _ => True)) (R_later HO345.out) hg hat); have n2_ := Aside0.mk (hb); have n3_ := Aside0.mk ((show Kd.C (Kd.int .i64) w37 A35 y339.length y339 from by rw [Ny339.out, KA35.out]; exact Kd.C_mid (lo := (x7_2 : Int).toNat) (hi := (t338 : Int).toNat) (c := co34) ((Kd.R_reads' (Kd.R_over' (R_later HO_6.out) (Kd.R_typed (R_later HO_5.out)) (by decide) hg)).2.2) KM35.out KL35.out ((Kd.R_reads' (Kd.R_over' (R_later HO_6.out) (Kd.R_typed (R_later HO_5.out)) (by decide) hg)).2.1))); have n4_ := Aside0.mk (ho); clear HO_6; clear HO345; clear HB; clear HR342; clear HO_5; have HO_6 := n0_; have HO345 := n1_; have HB := n2_; have HR342 := n3_; have HO348 := n4_; clear n0_ n1_ n2_ n3_ n4_; clear ho hb hg hat))
              go_roundg k2
              case measure => have := HJ4.out; have := HK2.out; omega
              case rel => exact ⟨(y346), (wrap64 (x7_2 + 128)), sr, H', ⟨by have := HJ4.out; have := HK2.out; omega⟩, ⟨R_later (Kd.R_mono HO348.out (fun _ hk => trivial))⟩, ⟨R_later HO_6.out⟩, ⟨below_later HB.out⟩⟩
            · rw [if_neg c27] at H
              have c27b0 := decide_eq_false c27
              clear c27
              simp only [Option.some.injEq, Prod.mk.injEq] at H
              obtain ⟨rfl, rfl⟩ := H
              obtain ⟨Ao39, co39, eo39⟩ := Kd.R_slice HO_6.out
              subst eo39
              go_wp2
              go_ret2
              exact ⟨_, by first | rfl | (simp [errW_none, errW_some] <;> rfl) | (simp [*, errW_none, errW_some] <;> rfl), by (with_reducible repeat (first | apply Kd.R_alloc | apply Kd.R_drewN | apply Kd.R_drew)); exact HO_5.out, below_later HB.out⟩
/-! ### spec_l10Pack: function 53 -/
mutual
def spec_l10Pack.l0 : Nat → List ByteArray → List Int → Int → Option (List Int × Bool)
  | 0, _, _, _ => none
  | k + 1, x0, x4, x5 => if x5 < (x0.length : Int) then (if 0 ≤ x5 then (if x4.length < 17592186044416 then (spec_l10Pack.l0 k x0 (x4 ++ [((rdOf ByteArray.empty x0 x5).size : Int)]) (wrap64 (x5 + 1))) else (none)) else (none)) else ((spec_DeltaPack.f k x4).bind fun bt356 => (if bt356.2 = true then (spec_l10Pack.l1 k x0 bt356.1 0) else (some ((([] : List Int)), false))))
def spec_l10Pack.l1 : Nat → List ByteArray → List Int → Int → Option (List Int × Bool)
  | 0, _, _, _ => none
  | k + 1, x0, x6, x8 => if x8 < (x0.length : Int) then (if 0 ≤ x8 then (if x6.length + (rdOf ByteArray.empty x0 x8).size < 140737488355328 then (spec_l10Pack.l1 k x0 (x6 ++ bytesOf (rdOf ByteArray.empty x0 x8)) (wrap64 (x8 + 1))) else (none)) else (none)) else (some (x6, true))
end
def spec_l10Pack.f (k : Nat) (l0 : List ByteArray) : Option (List Int × Bool) := spec_l10Pack.l0 k l0 (([] : List Int)) 0
set_option maxHeartbeats 8000000 in
set_option maxRecDepth 100000 in
theorem spec_l10Pack.calls (k : Nat) (A0 : Option Addr) (c0 : Nat) (l0 : List ByteArray) (r1 : List Int) (r2 : Bool) (w : World) (hr0 : Kd.C Kd.string w A0 l0.length l0) (hc0 : l0.length ≤ c0) (h : spec_l10Pack.f k l0 = some (r1, r2)) :
    Calls Try.prog 53 #[.slice A0 l0.length c0] w fun e w' => ∃ v0_ : Value, e = .returned (.tuple #[v0_, .bool r2]) ∧ Kd.R (Kd.int .u8) 5 w' w.heap.size (fun _ => True) v0_ r1 ∧ Below w.heap.size w w' := by
  have HR0 := Aside0.mk hr0
  have HC0 := Aside0.mk hc0
  clear hr0 hc0
  have HB := Aside0.mk (Below.refl w.heap.size w)
  have H : (spec_l10Pack.l0 k l0 (([] : List Int)) 0) = some (r1, r2) := h
  clear h
  obtain ⟨y349, hy349⟩ : ∃ y_ : List Int, y_ = (([] : List Int)) := ⟨_, rfl⟩
  replace H : (spec_l10Pack.l0 k l0 y349 0) = some (r1, r2) := by first | (rw [hy349]; with_reducible exact H) | (rw [hy349]; exact H) | exact H
  have Ny349 := Aside0.mk hy349
  clear hy349
  have H' := Aside0.mk H
  clear H
  go_enter Try.func53, Try.ntmps53
  go_wp2_with (first | ((with_reducible refine gate_dst (N := 9) rfl ?_); refine Kd.R_lit (Kd.int .i64) _ 3 ?hg (N := 9) ?hd (xs := ([] : List Int)) (inner := []) (ok := fun _ => True) (okp := fun _ => True) ?hr ?hp (fun _ hk => hk) trivial (Below.refl _ _) (Nat.le_refl _) (by simp) ?_; (case hd => rfl); (case hg => rfl); (case hr => first | (go_simp; done) | (go_simp; rfl)); (case hp => exact (Reps.none _ _)); intro v350 w2 ho3 hb hg_ hnew_; clear hg_ hnew_; (first | rw [← Ny349.out] at ho3 | (simp only [Int.reduceToNat] at ho3; rw [← Ny349.out] at ho3)); have HO351 := Aside0.mk (Kd.R_lower ho3 (below_size (below_later HB.out))); replace HB := bst HB hb; clear hb ho3))
  go_loopg [4, 5] k (fun kq v4 v5 w' => ∃ (x4_1 : List Int) (x5_1 : Int), v5 = .int .i64 x5_1 ∧ Aside0 (spec_l10Pack.l0 kq l0 x4_1 x5_1 = some (r1, r2)) ∧ Aside0 (kq ≤ k) ∧ Aside0 (Kd.R (Kd.int .i64) 3 w' w.heap.size (fun _ => True) v4 x4_1) ∧ Aside0 (Below w.heap.size w w'))
  case atStart => exact ⟨(y349), (0), sr, H', ⟨Nat.le_refl _⟩, ⟨R_later HO351.out⟩, ⟨below_later HB.out⟩⟩
  case round =>
    clear H'
    obtain ⟨x4_1, x5_1, rfl, HA, HK1, HO_4, HB⟩ := hrel
    cases gk with
    | zero => exact absurd HA.out (by simp [spec_l10Pack.l0])
    | succ k1 =>
      have H := HA.out
      clear HA
      simp only [spec_l10Pack.l0] at H
      by_cases c4 : x5_1 < (l0.length : Int)
      · rw [if_pos c4] at H
        have c4b0 := decide_eq_true c4
        clear c4
        replace H := ifd H
        obtain ⟨c5b0, H⟩ := H
        replace H := ifs H
        obtain ⟨c6, H⟩ := H
        have LMc6 := Aside0.mk c6
        clear c6
        obtain ⟨y353, hy353⟩ : ∃ y_ : List Int, y_ = (x4_1 ++ [((rdOf ByteArray.empty l0 x5_1).size : Int)]) := ⟨_, rfl⟩
        replace H : (spec_l10Pack.l0 k1 l0 y353 (wrap64 (x5_1 + 1))) = some (r1, r2) := by first | (rw [hy353]; with_reducible exact H) | (rw [hy353]; exact H) | exact H
        have Ny353 := Aside0.mk hy353
        clear hy353
        have H' := Aside0.mk H
        clear H
        have p352 : 0 ≤ (x5_1 : Int) := dcd
        have q352 : x5_1 < (l0.length : Int) := dcd
        obtain ⟨ad352, e352, hx352_0⟩ := Kd.at_string HR0.out x5_1 p352 q352
        cases e352
        replace hx352_0 := crd HB hx352_0
        replace p352 := eq_true p352
        replace q352 := eq_true q352
        go_wp2_with (first | ((with_reducible refine gate_builtin (b := .append) (xs := #[.tmp 16, .tmp 22]) rfl ?_); at_builtin; refine Kd.R_append (Kd.int .i64) (w0 := w) w.heap.size rfl (.tmp 16) (.tmp 22) 41 3 (.int .i64 0) 8 rfl Try.underlying41 info3 rfl (by decide) (by omega) u4 x4_1 ((rdOf ByteArray.empty l0 x5_1).size : Int) [.int .i64 ((rdOf ByteArray.empty l0 x5_1).size : Int)] (fun _ => True) (fun _ => False) rfl rfl ?aP (fun _ hk => hk.elim) ?aF ?aO ?aB ?aS ?aL ?_; (case aP => exact rfl); (case aB => exact (below_later HB.out)); (case aF => exact (fun _ _ => trivial)); (case aO => exact (R_later HO_4.out)); (case aS => exact (below_size (below_later HB.out))); (case aL => have := LMc6.out; omega); intro v354 w7 ho hb hg hat; rw [← Ny353.out] at ho; have n0_ := Aside0.mk (hb); have n1_ := Aside0.mk (ho); clear HB; clear HO_4; have HB := n0_; have HO355 := n1_; clear n0_ n1_; clear ho hb hg hat))
        go_roundg k1
        case measure => have := HK1.out; omega
        case rel => exact ⟨(y353), (wrap64 (x5_1 + 1)), sr, H', ⟨by have := HK1.out; omega⟩, ⟨R_later HO355.out⟩, ⟨below_later HB.out⟩⟩
      · rw [if_neg c4] at H
        have c4b0 := decide_eq_false c4
        clear c4
        replace H := Option.bind_eq_some_iff.mp H
        obtain ⟨⟨t356, t357⟩, A80, H⟩ := H
        replace H : (if t357 = true then (spec_l10Pack.l1 k1 l0 t356 0) else (some ((([] : List Int)), false))) = some (r1, r2) := H
        have A8 := Aside0.mk A80
        clear A80
        by_cases c9 : t357 = true
        · subst c9
          replace H := ifp rfl H
          have H' := Aside0.mk H
          clear H
          obtain ⟨Ao10, co10, eo10⟩ := Kd.R_slice HO_4.out
          subst eo10
          go_wp2_with (first | ((with_reducible refine gate_callee (f := 20) rfl ?_); refine gl_ (some 26) Try.func20 #[.slice Ao10 x4_1.length co10] rfl ?_; (with_reducible refine (spec_DeltaPack.calls k1 _ _ x4_1 t356 true _ ?side1 ?side2 A8.out).mono ?_); (case side1 => repeat (first | exact (Kd.R_reads' HO_4.out).2.2 | (with_reducible refine Kd.C_alloc ?_ _) | (with_reducible refine Kd.C_drewN ?_ _) | (with_reducible refine Kd.C_drew ?_))); (case side2 => exact (Kd.R_reads' HO_4.out).2.1); rintro e w11 ⟨v358, rfl, ho0, hb⟩; refine ⟨_, rfl, ?_⟩; have HO359 := Aside0.mk (Kd.R_lower ho0 (below_size (below_later HB.out))); replace HO_4 := Aside0.mk (Kd.R_below (R_later HO_4.out) hb); replace HB := bst HB hb; (try clear hb); (try clear ho0)))
          go_loopg [6, 8] k1 (fun kq v6 v8 w' => ∃ (x6_2 : List Int) (x8_2 : Int), v8 = .int .i64 x8_2 ∧ Aside0 (spec_l10Pack.l1 kq l0 x6_2 x8_2 = some (r1, r2)) ∧ Aside0 (kq ≤ k1) ∧ Aside0 (Kd.R (Kd.int .u8) 5 w' w.heap.size (fun _ => True) v6 x6_2) ∧ Aside0 (Below w.heap.size w w'))
          case atStart => exact ⟨(t356), (0), sr, H', ⟨Nat.le_refl _⟩, ⟨R_later HO359.out⟩, ⟨below_later HB.out⟩⟩
          case round =>
            clear H'
            try clear c4
            try clear c4b0
            try clear c9
            obtain ⟨x6_2, x8_2, rfl, HA, HK2, HO_6, HB⟩ := hrel
            cases gk with
            | zero => exact absurd HA.out (by simp [spec_l10Pack.l1])
            | succ k2 =>
              have H := HA.out
              clear HA
              simp only [spec_l10Pack.l1] at H
              by_cases c12 : x8_2 < (l0.length : Int)
              · rw [if_pos c12] at H
                have c12b0 := decide_eq_true c12
                clear c12
                replace H := ifd H
                obtain ⟨c13b0, H⟩ := H
                replace H := ifs H
                obtain ⟨c14, H⟩ := H
                have LMc14 := Aside0.mk c14
                clear c14
                obtain ⟨y364, hy364⟩ : ∃ y_ : List Int, y_ = (x6_2 ++ bytesOf (rdOf ByteArray.empty l0 x8_2)) := ⟨_, rfl⟩
                replace H : (spec_l10Pack.l1 k2 l0 y364 (wrap64 (x8_2 + 1))) = some (r1, r2) := by first | (rw [hy364]; with_reducible exact H) | (rw [hy364]; exact H) | exact H
                have Ny364 := Aside0.mk hy364
                clear hy364
                have H' := Aside0.mk H
                clear H
                have p363 : 0 ≤ (x8_2 : Int) := dcd
                have q363 : x8_2 < (l0.length : Int) := dcd
                obtain ⟨ad363, e363, hx363_0⟩ := Kd.at_string HR0.out x8_2 p363 q363
                cases e363
                replace hx363_0 := crd HB hx363_0
                replace p363 := eq_true p363
                replace q363 := eq_true q363
                go_wp2_with (first | ((with_reducible refine gate_dst (N := 43) rfl ?_); refine Go.Proofs.YtkocikdceojnmaaW.PrintMore2.conv_event rfl (N := 43) rfl 9 24 5 _ rfl Try.underlying9 Try.underlying24 Try.underlying5 (rdOf ByteArray.empty l0 x8_2) rfl ?_) | ((with_reducible refine gate_builtin (b := .append) (xs := #[.tmp 38, .tmp 43]) rfl ?_); at_builtin; refine Go.Proofs.YtkocikdceojnmaaW.PrintMore2.R_append_conv (w0 := w) w.heap.size rfl (.tmp 38) (.tmp 43) 24 5 rfl Try.underlying24 info5 u6 x6_2 (rdOf ByteArray.empty l0 x8_2) _ (fun _ => True) rfl rfl ?aO ?aF ?aB ?aS ?aL ?_; (case aB => exact (below_later HB.out)); (case aF => exact (fun _ _ => trivial)); (case aO => exact (R_later HO_6.out)); (case aS => exact (below_size (below_later HB.out))); (case aL => have := LMc14.out; omega); intro v365 w15 ho hb hg hat; rw [← Ny364.out] at ho; have n0_ := Aside0.mk (hb); have n1_ := Aside0.mk (ho); clear HB; clear HO_6; have HB := n0_; have HO366 := n1_; clear n0_ n1_; clear ho hb hg hat))
                go_roundg k2
                case measure => have := HK1.out; have := HK2.out; omega
                case rel => exact ⟨(y364), (wrap64 (x8_2 + 1)), sr, H', ⟨by have := HK1.out; have := HK2.out; omega⟩, ⟨R_later HO366.out⟩, ⟨below_later HB.out⟩⟩
              · rw [if_neg c12] at H
                have c12b0 := decide_eq_false c12
                clear c12
                simp only [Option.some.injEq, Prod.mk.injEq] at H
                obtain ⟨rfl, rfl⟩ := H
                go_wp2
                go_ret2
                exact ⟨_, by first | rfl | (simp [errW_none, errW_some] <;> rfl) | (simp [*, errW_none, errW_some] <;> rfl), by (with_reducible repeat (first | apply Kd.R_alloc | apply Kd.R_drewN | apply Kd.R_drew)); exact HO_6.out, below_later HB.out⟩
        · replace c9 := Bool.eq_false_iff.mpr c9
          subst c9
          replace H := ifn Bool.false_ne_true H
          obtain ⟨y360, hy360⟩ : ∃ y_ : List Int, y_ = (([] : List Int)) := ⟨_, rfl⟩
          replace H : (some (y360, false)) = some (r1, r2) := by first | (rw [hy360]; with_reducible exact H) | (rw [hy360]; exact H) | exact H
          have Ny360 := Aside0.mk hy360
          clear hy360
          simp only [Option.some.injEq, Prod.mk.injEq] at H
          obtain ⟨rfl, rfl⟩ := H
          obtain ⟨Ao16, co16, eo16⟩ := Kd.R_slice HO_4.out
          subst eo16
          go_wp2_with (first | ((with_reducible refine gate_callee (f := 20) rfl ?_); refine gl_ (some 26) Try.func20 #[.slice Ao16 x4_1.length co16] rfl ?_; (with_reducible refine (spec_DeltaPack.calls k1 _ _ x4_1 t356 false _ ?side1 ?side2 A8.out).mono ?_); (case side1 => repeat (first | exact (Kd.R_reads' HO_4.out).2.2 | (with_reducible refine Kd.C_alloc ?_ _) | (with_reducible refine Kd.C_drewN ?_ _) | (with_reducible refine Kd.C_drew ?_))); (case side2 => exact (Kd.R_reads' HO_4.out).2.1); rintro e w17 ⟨v358, rfl, ho0, hb⟩; refine ⟨_, rfl, ?_⟩; have HO359 := Aside0.mk (Kd.R_lower ho0 (below_size (below_later HB.out))); replace HO_4 := Aside0.mk (Kd.R_below (R_later HO_4.out) hb); replace HB := bst HB hb; (try clear hb); (try clear hk); (try clear ho0)) | ((with_reducible refine gate_dst (N := 31) rfl ?_); refine Kd.R_lit (Kd.int .u8) _ 5 ?hg (N := 31) ?hd (xs := ([] : List Int)) (inner := []) (ok := fun _ => True) (okp := fun _ => True) ?hr ?hp (fun _ hk => hk) trivial (Below.refl _ _) (Nat.le_refl _) (by simp) ?_; (case hd => rfl); (case hg => rfl); (case hr => first | (go_simp; done) | (go_simp; rfl)); (case hp => exact (Reps.none _ _)); intro v361 w18 ho19 hb hg_ hnew_; clear hg_ hnew_; (first | rw [← Ny360.out] at ho19 | (simp only [Int.reduceToNat] at ho19; rw [← Ny360.out] at ho19)); have HO362 := Aside0.mk (Kd.R_lower (Kd.R_new' ho19 (Kd.R_lt (R_later HO359.out))) (below_size (below_later HB.out))); replace HO_4 := Aside0.mk (Kd.R_below (R_later HO_4.out) hb); replace HO359 := Aside0.mk (Kd.R_elder' (R_later HO359.out) (Kd.R_base ho19) hb); replace HB := bst HB hb; clear hb ho19))
          go_ret2
          exact ⟨_, by first | rfl | (simp [errW_none, errW_some] <;> rfl) | (simp [*, errW_none, errW_some] <;> rfl), by (with_reducible repeat (first | apply Kd.R_alloc | apply Kd.R_drewN | apply Kd.R_drew)); exact Kd.R_mono HO362.out (fun _ hk => trivial), below_later HB.out⟩

/-! ### spec_l10Texts: function 54 -/
def spec_l10Texts.l0 : Nat → List (S46) → List ByteArray → Int → Option (List ByteArray)
  | 0, _, _, _ => none
  | k + 1, x0, x3, x4 => if x4 < (x0.length : Int) then (if 0 ≤ x4 then (if x3.length < 8796093022208 then (spec_l10Texts.l0 k x0 (x3 ++ [(rd_T46 x0 x4).f1]) (wrap64 (x4 + 1))) else (none)) else (none)) else (some x3)
def spec_l10Texts.f (k : Nat) (l0 : List (S46)) : Option (List ByteArray) := spec_l10Texts.l0 k l0 (([] : List ByteArray)) 0
set_option maxHeartbeats 8000000 in
set_option maxRecDepth 100000 in
theorem spec_l10Texts.calls (k : Nat) (A0 : Option Addr) (c0 : Nat) (l0 : List (S46)) (r : List ByteArray) (w : World) (hr0 : Kd.C k46 w A0 l0.length l0) (hc0 : l0.length ≤ c0) (h : spec_l10Texts.f k l0 = some r) :
    Calls Try.prog 54 #[.slice A0 l0.length c0] w fun e w' => ∃ v0_ : Value, e = .returned (v0_) ∧ Kd.R Kd.string 9 w' w.heap.size (fun _ => True) v0_ r ∧ Below w.heap.size w w' := by
  have HR0 := Aside0.mk hr0
  have HC0 := Aside0.mk hc0
  clear hr0 hc0
  have HB := Aside0.mk (Below.refl w.heap.size w)
  have H : (spec_l10Texts.l0 k l0 (([] : List ByteArray)) 0) = some r := h
  clear h
  obtain ⟨y367, hy367⟩ : ∃ y_ : List ByteArray, y_ = (([] : List ByteArray)) := ⟨_, rfl⟩
  replace H : (spec_l10Texts.l0 k l0 y367 0) = some r := by first | (rw [hy367]; with_reducible exact H) | (rw [hy367]; exact H) | exact H
  have Ny367 := Aside0.mk hy367
  clear hy367
  have H' := Aside0.mk H
  clear H
  go_enter Try.func54, Try.ntmps54
  go_wp2_with (first | ((with_reducible refine gate_dst (N := 5) rfl ?_); refine Kd.R_lit Kd.string _ 9 ?hg (N := 5) ?hd (xs := ([] : List ByteArray)) (inner := []) (ok := fun _ => True) (okp := fun _ => True) ?hr ?hp (fun _ hk => hk) trivial (Below.refl _ _) (Nat.le_refl _) (by simp) ?_; (case hd => rfl); (case hg => rfl); (case hr => first | (go_simp; done) | (go_simp; rfl)); (case hp => exact (Reps.none _ _)); intro v368 w2 ho3 hb hg_ hnew_; clear hg_ hnew_; (first | rw [← Ny367.out] at ho3 | (simp only [Int.reduceToNat] at ho3; rw [← Ny367.out] at ho3)); have HO369 := Aside0.mk (Kd.R_lower ho3 (below_size (below_later HB.out))); replace HB := bst HB hb; clear hb ho3))
  go_loopg [3, 4] k (fun kq v3 v4 w' => ∃ (x3_1 : List ByteArray) (x4_1 : Int), v4 = .int .i64 x4_1 ∧ Aside0 (spec_l10Texts.l0 kq l0 x3_1 x4_1 = some r) ∧ Aside0 (kq ≤ k) ∧ Aside0 (Kd.R Kd.string 9 w' w.heap.size (fun _ => True) v3 x3_1) ∧ Aside0 (Below w.heap.size w w'))
  case atStart => exact ⟨(y367), (0), sr, H', ⟨Nat.le_refl _⟩, ⟨R_later HO369.out⟩, ⟨below_later HB.out⟩⟩
  case round =>
    clear H'
    obtain ⟨x3_1, x4_1, rfl, HA, HK1, HO_3, HB⟩ := hrel
    cases gk with
    | zero => exact absurd HA.out (by simp [spec_l10Texts.l0])
    | succ k1 =>
      have H := HA.out
      clear HA
      simp only [spec_l10Texts.l0] at H
      by_cases c4 : x4_1 < (l0.length : Int)
      · rw [if_pos c4] at H
        have c4b0 := decide_eq_true c4
        clear c4
        replace H := ifd H
        obtain ⟨c5b0, H⟩ := H
        replace H := ifs H
        obtain ⟨c6, H⟩ := H
        have LMc6 := Aside0.mk c6
        clear c6
        obtain ⟨y371, hy371⟩ : ∃ y_ : List ByteArray, y_ = (x3_1 ++ [(rd_T46 l0 x4_1).f1]) := ⟨_, rfl⟩
        replace H : (spec_l10Texts.l0 k1 l0 y371 (wrap64 (x4_1 + 1))) = some r := by first | (rw [hy371]; with_reducible exact H) | (rw [hy371]; exact H) | exact H
        have Ny371 := Aside0.mk hy371
        clear hy371
        have H' := Aside0.mk H
        clear H
        have p370 : 0 ≤ (x4_1 : Int) := dcd
        have q370 : x4_1 < (l0.length : Int) := dcd
        obtain ⟨ad370, e370, hx370_0, hx370_1⟩ := at_T46 HR0.out x4_1 p370 q370
        cases e370
        replace hx370_0 := crd HB hx370_0
        replace hx370_1 := crd HB hx370_1
        replace p370 := eq_true p370
        replace q370 := eq_true q370
        go_wp2_with (first | ((with_reducible refine gate_builtin (b := .append) (xs := #[.tmp 12, .tmp 18]) rfl ?_); at_builtin; refine Kd.R_append Kd.string (w0 := w) w.heap.size rfl (.tmp 12) (.tmp 18) 62 9 (.string ⟨#[]⟩) 16 rfl Try.underlying62 info9 rfl (by decide) (by omega) u3 x3_1 ((rd_T46 l0 x4_1).f1) [.string ((rd_T46 l0 x4_1).f1)] (fun _ => True) (fun _ => False) rfl rfl ?aP (fun _ hk => hk.elim) ?aF ?aO ?aB ?aS ?aL ?_; (case aP => exact rfl); (case aB => exact (below_later HB.out)); (case aF => exact (fun _ _ => trivial)); (case aO => exact (R_later HO_3.out)); (case aS => exact (below_size (below_later HB.out))); (case aL => have := LMc6.out; omega); intro v372 w7 ho hb hg hat; rw [← Ny371.out] at ho; have n0_ := Aside0.mk (hb); have n1_ := Aside0.mk (ho); clear HB; clear HO_3; have HB := n0_; have HO373 := n1_; clear n0_ n1_; clear ho hb hg hat))
        go_roundg k1
        case measure => have := HK1.out; omega
        case rel => exact ⟨(y371), (wrap64 (x4_1 + 1)), sr, H', ⟨by have := HK1.out; omega⟩, ⟨R_later HO373.out⟩, ⟨below_later HB.out⟩⟩
      · rw [if_neg c4] at H
        have c4b0 := decide_eq_false c4
        clear c4
        obtain rfl := Option.some.inj H
        go_wp2
        go_ret
        exact ⟨_, by first | rfl | (simp [errW_none, errW_some] <;> rfl) | (simp [*, errW_none, errW_some] <;> rfl), by (with_reducible repeat (first | apply Kd.R_alloc | apply Kd.R_drewN | apply Kd.R_drew)); exact HO_3.out, below_later HB.out⟩

/-! ### spec_LengthPack: function 21 -/
def spec_LengthPack.f (k : Nat) (l0 : List (S46)) : Option (List Int × Bool) := (spec_l6Vals.f k 6 l0).bind fun t374 => (if t374 = true then ((spec_l10Texts.f k l0).bind fun t375 => ((spec_l10Pack.f k t375).bind fun bt378 => (some (bt378.1, bt378.2)))) else (some ((([] : List Int)), false)))
set_option maxHeartbeats 8000000 in
set_option maxRecDepth 100000 in
theorem spec_LengthPack.calls (k : Nat) (A0 : Option Addr) (c0 : Nat) (l0 : List (S46)) (r1 : List Int) (r2 : Bool) (w : World) (hr0 : Kd.C k46 w A0 l0.length l0) (hc0 : l0.length ≤ c0) (h : spec_LengthPack.f k l0 = some (r1, r2)) :
    Calls Try.prog 21 #[.slice A0 l0.length c0] w fun e w' => ∃ v0_ : Value, e = .returned (.tuple #[v0_, .bool r2]) ∧ Kd.R (Kd.int .u8) 5 w' w.heap.size (fun _ => True) v0_ r1 ∧ Below w.heap.size w w' := by
  have HR0 := Aside0.mk hr0
  have HC0 := Aside0.mk hc0
  clear hr0 hc0
  have HB := Aside0.mk (Below.refl w.heap.size w)
  have H : ((spec_l6Vals.f k 6 l0).bind fun t374 => (if t374 = true then ((spec_l10Texts.f k l0).bind fun t375 => ((spec_l10Pack.f k t375).bind fun bt378 => (some (bt378.1, bt378.2)))) else (some ((([] : List Int)), false)))) = some (r1, r2) := h
  clear h
  replace H := bnd H
  obtain ⟨t374, A2, H⟩ := H
  by_cases c3 : t374 = true
  · subst c3
    replace H := ifp rfl H
    replace H := bnd H
    obtain ⟨t375, A4, H⟩ := H
    replace H := Option.bind_eq_some_iff.mp H
    obtain ⟨⟨t378, t379⟩, A50, H⟩ := H
    replace H : (some (t378, t379)) = some (r1, r2) := H
    have A5 := Aside0.mk A50
    clear A50
    simp only [Option.some.injEq, Prod.mk.injEq] at H
    obtain ⟨rfl, rfl⟩ := H
    go_enter Try.func21, Try.ntmps21
    go_wp2_with (first | ((with_reducible refine gate_callee (f := 15) rfl ?_); refine gl_ (some 5) Try.func15 #[.int .i64 6, .slice A0 l0.length c0] rfl ?_; (with_reducible refine (spec_l6Vals.calls k 6 _ _ l0 true _ ?side1 ?side2 A2.out).mono ?_); (case side1 => exact C_later HR0.out); (case side2 => exact HC0.out); rintro e w6 ⟨rfl, hb⟩; refine ⟨_, rfl, ?_⟩; replace HB := bst HB hb; (try clear hb)) | ((with_reducible refine gate_callee (f := 54) rfl ?_); refine gl_ (some 9) Try.func54 #[.slice A0 l0.length c0] rfl ?_; (with_reducible refine (spec_l10Texts.calls k _ _ l0 t375 _ ?side1 ?side2 A4.out).mono ?_); (case side1 => repeat (first | exact (Kd.C_below HR0.out HB.out) | (with_reducible refine Kd.C_alloc ?_ _) | (with_reducible refine Kd.C_drewN ?_ _) | (with_reducible refine Kd.C_drew ?_))); (case side2 => exact HC0.out); rintro e w7 ⟨v376, rfl, ho0, hb⟩; refine ⟨_, rfl, ?_⟩; have HO377 := Aside0.mk (Kd.R_lower ho0 (below_size (below_later HB.out))); replace HB := bst HB hb; (try clear hb); (try clear ho0); obtain ⟨Ao8, co8, eo8⟩ := Kd.R_slice HO377.out; subst eo8) | ((with_reducible refine gate_callee (f := 53) rfl ?_); refine gl_ (some 10) Try.func53 #[.slice Ao8 t375.length co8] rfl ?_; (with_reducible refine (spec_l10Pack.calls k _ _ t375 t378 t379 _ ?side1 ?side2 A5.out).mono ?_); (case side1 => repeat (first | exact (Kd.R_reads' HO377.out).2.2 | (with_reducible refine Kd.C_alloc ?_ _) | (with_reducible refine Kd.C_drewN ?_ _) | (with_reducible refine Kd.C_drew ?_))); (case side2 => exact (Kd.R_reads' HO377.out).2.1); rintro e w9 ⟨v380, rfl, ho0, hb⟩; refine ⟨_, rfl, ?_⟩; have HO381 := Aside0.mk (Kd.R_lower ho0 (below_size (below_later HB.out))); replace HO377 := Aside0.mk (Kd.R_below (R_later HO377.out) hb); replace HB := bst HB hb; (try clear hb); (try clear ho0)))
    go_ret2
    exact ⟨_, by first | rfl | (simp [errW_none, errW_some] <;> rfl) | (simp [*, errW_none, errW_some] <;> rfl), by (with_reducible repeat (first | apply Kd.R_alloc | apply Kd.R_drewN | apply Kd.R_drew)); exact HO381.out, below_later HB.out⟩
  · replace c3 := Bool.eq_false_iff.mpr c3
    subst c3
    replace H := ifn Bool.false_ne_true H
    obtain ⟨y382, hy382⟩ : ∃ y_ : List Int, y_ = (([] : List Int)) := ⟨_, rfl⟩
    replace H : (some (y382, false)) = some (r1, r2) := by first | (rw [hy382]; with_reducible exact H) | (rw [hy382]; exact H) | exact H
    have Ny382 := Aside0.mk hy382
    clear hy382
    simp only [Option.some.injEq, Prod.mk.injEq] at H
    obtain ⟨rfl, rfl⟩ := H
    go_enter Try.func21, Try.ntmps21
    go_wp2_with (first | ((with_reducible refine gate_callee (f := 15) rfl ?_); refine gl_ (some 5) Try.func15 #[.int .i64 6, .slice A0 l0.length c0] rfl ?_; (with_reducible refine (spec_l6Vals.calls k 6 _ _ l0 false _ ?side1 ?side2 A2.out).mono ?_); (case side1 => exact C_later HR0.out); (case side2 => exact HC0.out); rintro e w10 ⟨rfl, hb⟩; refine ⟨_, rfl, ?_⟩; replace HB := bst HB hb; (try clear hb); (try clear hk)) | ((with_reducible refine gate_dst (N := 7) rfl ?_); refine Kd.R_lit (Kd.int .u8) _ 5 ?hg (N := 7) ?hd (xs := ([] : List Int)) (inner := []) (ok := fun _ => True) (okp := fun _ => True) ?hr ?hp (fun _ hk => hk) trivial (Below.refl _ _) (Nat.le_refl _) (by simp) ?_; (case hd => rfl); (case hg => rfl); (case hr => first | (go_simp; done) | (go_simp; rfl)); (case hp => exact (Reps.none _ _)); intro v383 w11 ho12 hb hg_ hnew_; clear hg_ hnew_; (first | rw [← Ny382.out] at ho12 | (simp only [Int.reduceToNat] at ho12; rw [← Ny382.out] at ho12)); have HO384 := Aside0.mk (Kd.R_lower ho12 (below_size (below_later HB.out))); replace HB := bst HB hb; clear hb ho12))
    go_ret2
    exact ⟨_, by first | rfl | (simp [errW_none, errW_some] <;> rfl) | (simp [*, errW_none, errW_some] <;> rfl), by (with_reducible repeat (first | apply Kd.R_alloc | apply Kd.R_drewN | apply Kd.R_drew)); exact HO384.out, below_later HB.out⟩

/-! ### spec_Common: function 55 -/
def spec_Common.l0 : Nat → ByteArray → ByteArray → Int → Option (Int)
  | 0, _, _, _ => none
  | k + 1, x0, x1, x5 => if x5 < (x0.size : Int) then (if x5 < (x1.size : Int) then (if 0 ≤ x5 then (if (bt x0 x5) = (bt x1 x5) then (spec_Common.l0 k x0 x1 (wrap64 (x5 + 1))) else (some x5)) else (none)) else (some x5)) else (some x5)
def spec_Common.f (k : Nat) (a0 : ByteArray) (a1 : ByteArray) : Option (Int) := spec_Common.l0 k a0 a1 0
set_option maxHeartbeats 8000000 in
set_option maxRecDepth 100000 in
theorem spec_Common.calls (k : Nat) (a0 : ByteArray) (a1 : ByteArray) (r : Int) (w : World) (h : spec_Common.f k a0 a1 = some r) :
    Calls Try.prog 55 #[.string a0, .string a1] w fun e w' => e = .returned (.int .i64 r) ∧ Drawn0 w w' := by
  have H : (spec_Common.l0 k a0 a1 0) = some r := h
  clear h
  have H' := Aside0.mk H
  clear H
  go_enter Try.func55, Try.ntmps55
  go_wp2
  repeat (go_quiet (fail); try go_wp2)
  go_loopg [5] k (fun kq v5 w' => ∃ (x5_1 : Int), v5 = .int .i64 x5_1 ∧ Aside0 (spec_Common.l0 kq a0 a1 x5_1 = some r) ∧ Aside0 (kq ≤ k) ∧ Drawn0 w w')
  case atStart => exact ⟨(0), sr, H', ⟨Nat.le_refl _⟩, by repeat (first | exact Drawn0.refl _ | apply Drawn0.step)⟩
  case round =>
    clear H'
    obtain ⟨x5_1, rfl, HA, HK1, ⟨m1, rfl⟩⟩ := hrel
    cases gk with
    | zero => exact absurd HA.out (by simp [spec_Common.l0])
    | succ k1 =>
      have H := HA.out
      clear HA
      simp only [spec_Common.l0] at H
      by_cases c3 : x5_1 < (a0.size : Int)
      · rw [if_pos c3] at H
        have c3b0 := decide_eq_true c3
        clear c3
        by_cases c4 : x5_1 < (a1.size : Int)
        · rw [if_pos c4] at H
          have c4b0 := decide_eq_true c4
          clear c4
          replace H := ifd H
          obtain ⟨c5b0, H⟩ := H
          by_cases c8 : (bt a0 x5_1) = (bt a1 x5_1)
          · rw [if_pos c8] at H
            have c8b0 : ((bt a0 x5_1) == (bt a1 x5_1)) = true := beq_iff_eq.mpr c8
            have c8b1 : ((bt a0 x5_1) != (bt a1 x5_1)) = false := bne_eq_false_iff_eq.mpr c8
            clear c8
            have H' := Aside0.mk H
            clear H
            have p6 : 0 ≤ (x5_1 : Int) := dcd
            have q6 : x5_1 < (a0.size : Int) := dcd
            have hx6 := bt_at a0 x5_1
            replace p6 := eq_true p6
            replace q6 := eq_true q6
            have p7 : 0 ≤ (x5_1 : Int) := dcd
            have q7 : x5_1 < (a1.size : Int) := dcd
            have hx7 := bt_at a1 x5_1
            replace p7 := eq_true p7
            replace q7 := eq_true q7
            go_wp2
            repeat (go_quiet (fail); try go_wp2)
            go_roundg k1
            case measure => have := HK1.out; omega
            case rel => exact ⟨(wrap64 (x5_1 + 1)), sr, H', ⟨by have := HK1.out; omega⟩, by repeat (first | exact Drawn0.refl _ | apply Drawn0.step)⟩
          · rw [if_neg c8] at H
            have c8b0 : ((bt a0 x5_1) == (bt a1 x5_1)) = false := beq_eq_false_iff_ne.mpr c8
            have c8b1 : ((bt a0 x5_1) != (bt a1 x5_1)) = true := bne_iff_ne.mpr c8
            obtain rfl := Option.some.inj H
            have p6 : 0 ≤ (x5_1 : Int) := dcd
            have q6 : x5_1 < (a0.size : Int) := dcd
            have hx6 := bt_at a0 x5_1
            replace p6 := eq_true p6
            replace q6 := eq_true q6
            have p7 : 0 ≤ (x5_1 : Int) := dcd
            have q7 : x5_1 < (a1.size : Int) := dcd
            have hx7 := bt_at a1 x5_1
            replace p7 := eq_true p7
            replace q7 := eq_true q7
            go_wp2
            repeat (go_quiet (fail); try go_wp2)
            go_ret
            exact ⟨by first | rfl | (simp; done) | (simp [*]; done), by repeat (first | exact Drawn0.refl _ | apply Drawn0.step)⟩
        · rw [if_neg c4] at H
          have c4b0 := decide_eq_false c4
          clear c4
          obtain rfl := Option.some.inj H
          go_wp2
          repeat (go_quiet (fail); try go_wp2)
          go_ret
          exact ⟨by first | rfl | (simp; done) | (simp [*]; done), by repeat (first | exact Drawn0.refl _ | apply Drawn0.step)⟩
      · rw [if_neg c3] at H
        have c3b0 := decide_eq_false c3
        clear c3
        obtain rfl := Option.some.inj H
        go_wp2
        repeat (go_quiet (fail); try go_wp2)
        go_ret
        exact ⟨by first | rfl | (simp; done) | (simp [*]; done), by repeat (first | exact Drawn0.refl _ | apply Drawn0.step)⟩

end Go.Proofs.Ytkocikdceojnmaa.PFnExactEncPack
