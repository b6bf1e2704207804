/- The machine's side of FnExactEncPack, written by wip/tools/hyb.py of this repo: each Go function as a plain Lean function, and the proof that the call comes to just its answer. No condition. -/
import Derived.Test.YtkocikdceojnmaaPFnExactEncPackx0
import Derived.Test.YtkocikdceojnmaaPFnExactEncPackx2
namespace Go.Proofs.Ytkocikdceojnmaa.PFnExactEncPack
open Go.RowKit Go.Proofs.YtkocikdceojnmaaW.PrintWords Go.Proofs.YtkocikdceojnmaaW.PrintLast Go.Proofs.YtkocikdceojnmaaW.PrintMore Go.Proofs.YtkocikdceojnmaaW.PrintMore2
attribute [local go_sem] max2_int min2_int max_two min_two max_three min_three max_four min_four   -- for this text's walks alone
set_option linter.unusedVariables false
set_option linter.unusedSimpArgs false

/-! ### spec_BitsPack: function 42 -/
mutual
def spec_BitsPack.l0 : Nat → List Int → Int → List Int → Int → Option (List Int × Bool)
  | 0, _, _, _, _ => none
  | k + 1, x0, x1, x7, x8 => if x8 < (x0.length : Int) then (if 0 ≤ x8 then (if (rd x0 x8) < 0 then (spec_BitsPack.j1 k x0 x1 x7 x8 true) else (if 0 ≤ x1 then (spec_BitsPack.j1 k x0 x1 x7 x8 ((shr .i64 (rd x0 x8) x1) != 0)) else (none))) else (none)) else (some (x7, true))
def spec_BitsPack.j1 : Nat → List Int → Int → List Int → Int → Bool → Option (List Int × Bool)
  | 0, _, _, _, _, _ => none
  | k + 1, x0, x1, x7, x8, x39 => if x39 = true then (some ((([] : List Int)), false)) else (spec_BitsPack.l1 k x0 x1 x7 x8 0)
def spec_BitsPack.l1 : Nat → List Int → Int → List Int → Int → Int → Option (List Int × Bool)
  | 0, _, _, _, _, _ => none
  | k + 1, x0, x1, x7, x8, x9 => if x9 < x1 then (if 0 ≤ x8 then (if x8 < (x0.length : Int) then (if 0 ≤ x9 then (if (Go.bits .and .i64 (shr .i64 (rd x0 x8) x9) 1) = 1 then (if 0 ≤ (wrap64 (Int.tdiv (wrap64 ((wrap64 (x8 * x1)) + x9)) 8)) then (if (wrap64 (Int.tdiv (wrap64 ((wrap64 (x8 * x1)) + x9)) 8)) < (x7.length : Int) then (if 0 ≤ (Int.tmod (wrap64 ((wrap64 (x8 * x1)) + x9)) 8) then (spec_BitsPack.l1 k x0 x1 (x7.set ((wrap64 (Int.tdiv (wrap64 ((wrap64 (x8 * x1)) + x9)) 8)) : Int).toNat (Go.bits .or .u8 (rd x7 (wrap64 (Int.tdiv (wrap64 ((wrap64 (x8 * x1)) + x9)) 8))) (shl .u8 1 (Int.tmod (wrap64 ((wrap64 (x8 * x1)) + x9)) 8)))) x8 (wrap64 (x9 + 1))) else (none)) else (none)) else (none)) else (spec_BitsPack.l1 k x0 x1 x7 x8 (wrap64 (x9 + 1)))) else (none)) else (none)) else (none)) else (spec_BitsPack.l0 k x0 x1 x7 (wrap64 (x8 + 1)))
end
def spec_BitsPack.f (k : Nat) (l0 : List Int) (a1 : Int) : Option (List Int × Bool) := (spec_BitsSize.f (l0.length : Int) a1).bind fun t122 => (if t122 < 0 then (some ((([] : List Int)), false)) else (if 0 ≤ t122 then (if (t122 : Int).toNat ≤ 281474976710656 then (spec_BitsPack.l0 k l0 a1 (List.replicate (t122 : Int).toNat 0) 0) else (none)) else (none)))
def spec_BitsPack.T15 : Bool × List (List Nat × List Nat) := (true, [([], []), ([], []), ([1], [1]), ([], []), ([], []), ([4], [4]), ([3, 5], [3, 5]), ([6], [6]), ([], []), ([8], [8]), ([9], [9]), ([7, 10], [7, 10]), ([0, 2, 0, 1, 2, 3, 4, 5, 6, 7, 8, 9, 10, 11], [0, 2]), ([12, 11, 0, 1, 2, 3, 4, 5, 6, 7, 8, 9, 10, 11], [11, 12])])
def spec_BitsPack.B15 : List Nat := [0, 0, 2, 0, 0, 16, 56, 120, 0, 256, 768, 2040, 4095, 8191]
theorem spec_BitsPack.tab15 : rtab .any (opsOf Try.f42 15) = spec_BitsPack.T15 := by kernel_rfl
theorem spec_BitsPack.bits15 : waitsOk spec_BitsPack.T15.2 spec_BitsPack.B15 = true := by kernel_rfl
set_option maxHeartbeats 8000000 in
set_option maxRecDepth 100000 in
theorem spec_BitsPack.calls (k : Nat) (A0 : Option Addr) (c0 : Nat) (l0 : List Int) (a1 : Int) (r1 : List Int) (r2 : Bool) (w : World) (hr0 : Kd.C (Kd.int .i64) w A0 l0.length l0) (hc0 : l0.length ≤ c0) (h : spec_BitsPack.f k l0 a1 = some (r1, r2)) :
    Calls Try.prog 42 #[.slice A0 l0.length c0, .int .i64 a1] w fun e w' => ∃ v0_ : Value, e = .returned (.tuple #[v0_, .bool r2]) ∧ Kd.R (Kd.int .u8) 5 w' w.heap.size (fun _ => True) v0_ r1 ∧ Below w.heap.size w w' := by
  have HR0 := Aside0.mk hr0
  have HC0 := Aside0.mk hc0
  clear hr0 hc0
  have HB := Aside0.mk (Below.refl w.heap.size w)
  have H : ((spec_BitsSize.f (l0.length : Int) a1).bind fun t122 => (if t122 < 0 then (some ((([] : List Int)), false)) else (if 0 ≤ t122 then (if (t122 : Int).toNat ≤ 281474976710656 then (spec_BitsPack.l0 k l0 a1 (List.replicate (t122 : Int).toNat 0) 0) else (none)) else (none)))) = some (r1, r2) := h
  clear h
  replace H := bnd H
  obtain ⟨t122, A3, H⟩ := H
  by_cases c4 : t122 < 0
  · rw [if_pos c4] at H
    have c4b0 := decide_eq_true c4
    clear c4
    obtain ⟨y123, hy123⟩ : ∃ y_ : List Int, y_ = (([] : List Int)) := ⟨_, rfl⟩
    replace H : (some (y123, false)) = some (r1, r2) := by first | (rw [hy123]; with_reducible exact H) | (rw [hy123]; exact H) | exact H
    have Ny123 := Aside0.mk hy123
    clear hy123
    simp only [Option.some.injEq, Prod.mk.injEq] at H
    obtain ⟨rfl, rfl⟩ := H
    go_enter Try.func42, Try.ntmps42
    go_wp2_with (first | ((with_reducible refine gate_callee (f := 46) rfl ?_); refine gl_ (some 14) Try.func46 #[.int .i64 (l0.length : Int), .int .i64 a1] rfl ?_; (with_reducible refine (spec_BitsSize.calls (l0.length : Int) a1 t122 _ A3.out).mono ?_); rintro e w' ⟨rfl, ⟨nd, rfl⟩⟩; refine ⟨_, rfl, ?_⟩) | ((with_reducible refine gate_dst (N := 17) rfl ?_); refine Kd.R_lit (Kd.int .u8) _ 5 ?hg (N := 17) ?hd (xs := ([] : List Int)) (inner := []) (ok := fun _ => True) (okp := fun _ => True) ?hr ?hp (fun _ hk => hk) trivial (Below.refl _ _) (Nat.le_refl _) (by simp) ?_; (case hd => rfl); (case hg => rfl); (case hr => first | (go_simp; done) | (go_simp; rfl)); (case hp => exact (Reps.none _ _)); intro v124 w5 ho6 hb hg_ hnew_; clear hg_ hnew_; (first | rw [← Ny123.out] at ho6 | (simp only [Int.reduceToNat] at ho6; rw [← Ny123.out] at ho6)); have HO125 := Aside0.mk (Kd.R_lower ho6 (below_size (below_later HB.out))); replace HB := bst HB hb; clear hb ho6))
    go_ret2
    exact ⟨_, by first | rfl | (simp [errW_none, errW_some] <;> rfl) | (simp [*, errW_none, errW_some] <;> rfl), by (with_reducible repeat (first | apply Kd.R_alloc | apply Kd.R_drewN | apply Kd.R_drew)); exact HO125.out, below_later HB.out⟩
  · rw [if_neg c4] at H
    have c4b0 := decide_eq_false c4
    clear c4
    replace H := ifs H
    obtain ⟨c7, H⟩ := H
    have c7b0 := eq_true c7
    have c7b1 := decide_eq_true c7
    clear c7
    replace H := ifs H
    obtain ⟨c8, H⟩ := H
    have c8b0 := eq_true c8
    have c8b1 := decide_eq_true c8
    clear c8
    obtain ⟨y126, hy126⟩ : ∃ y_ : List Int, y_ = (List.replicate (t122 : Int).toNat 0) := ⟨_, rfl⟩
    replace H : (spec_BitsPack.l0 k l0 a1 y126 0) = some (r1, r2) := by first | (rw [hy126]; with_reducible exact H) | (rw [hy126]; exact H) | exact H
    have Ny126 := Aside0.mk hy126
    clear hy126
    have H' := Aside0.mk H
    clear H
    go_enter Try.func42, Try.ntmps42
    go_wp2_with (first | ((with_reducible refine gate_callee (f := 46) rfl ?_); refine gl_ (some 14) Try.func46 #[.int .i64 (l0.length : Int), .int .i64 a1] rfl ?_; (with_reducible refine (spec_BitsSize.calls (l0.length : Int) a1 t122 _ A3.out).mono ?_); rintro e w' ⟨rfl, ⟨nd, rfl⟩⟩; refine ⟨_, rfl, ?_⟩) | ((with_reducible refine gate_dst (N := 19) rfl ?_); refine Kd.R_make (Kd.int .u8) _ 5 rfl (N := 19) rfl 24 _ _ rfl t122 rfl rfl Try.underlying24 (.int .u8 0) 1 info5 rfl (by decide) (by omega) 0 (ok := fun _ => True) (okp := fun _ => True) rfl (fun _ hk => hk) trivial (dcd) (Nat.le_trans (Nat.mul_le_mul_right _ (dcd : t122.toNat ≤ 281474976710656)) (by omega)) (Below.refl _ _) (Nat.le_refl _) ?_; intro v127 w9 ho10 hb hg_ hnew_; clear hg_ hnew_; (first | rw [← Ny126.out] at ho10 | (simp only [Int.reduceToNat] at ho10; rw [← Ny126.out] at ho10)); have HO128 := Aside0.mk (Kd.R_lower ho10 (below_size (below_later HB.out))); replace HB := bst HB hb; clear hb ho10))
    go_loopg [8] k (fun kq v8 w' => ∃ (x7_1 : List Int) (x8_1 : Int), v8 = .int .i64 x8_1 ∧ Aside0 (spec_BitsPack.l0 kq l0 a1 x7_1 x8_1 = some (r1, r2)) ∧ Aside0 (kq ≤ k) ∧ Aside0 (Kd.R (Kd.int .u8) 5 w' w.heap.size (fun _ => True) v127 x7_1) ∧ Aside0 (Below w.heap.size w w'))
    case atStart => exact ⟨(y126), (0), sr, H', ⟨Nat.le_refl _⟩, ⟨R_later HO128.out⟩, ⟨below_later HB.out⟩⟩
    case round =>
      clear H'
      try clear c4
      try clear c4b0
      try clear c7
      try clear c7b0
      try clear c7b1
      try clear c8
      try clear c8b0
      try clear c8b1
      obtain ⟨x7_1, x8_1, rfl, HA, HK1, HO_7, HB⟩ := hrel
      cases gk with
      | zero => exact absurd HA.out (by simp [spec_BitsPack.l0])
      | succ k1 =>
        have H := HA.out
        clear HA
        simp only [spec_BitsPack.l0] at H
        by_cases c11 : x8_1 < (l0.length : Int)
        · rw [if_pos c11] at H
          have c11b0 := decide_eq_true c11
          clear c11
          have HC12 := Aside0.mk H
          clear H
          go_upto_region 8 with (fail)
          go_cut [39] (fun v39 wc => ∃ (kq : Nat) (x39_11 : Bool), v39 = .bool x39_11 ∧ Aside0 (spec_BitsPack.j1 kq l0 a1 x7_1 x8_1 x39_11 = some (r1, r2)) ∧ Aside0 (kq ≤ k1) ∧ Aside0 (Kd.R (Kd.int .u8) 5 wc w.heap.size (fun _ => True) v127 x7_1) ∧ Aside0 (Below w.heap.size w wc))
          case first =>
            have H := HC12.out
            clear HC12
            replace H := ifd H
            obtain ⟨c13b0, H⟩ := H
            (first | rw [c13b0] | (simp only [i64_w, i32_w]; rw [c13b0]) | skip)
            by_cases c14 : (rd l0 x8_1) < 0
            · rw [if_pos c14] at H
              have c14b0 := decide_eq_true c14
              clear c14
              have H' := Aside0.mk H
              clear H
              have p129 : 0 ≤ (x8_1 : Int) := dcd
              have q129 : x8_1 < (l0.length : Int) := dcd
              obtain ⟨ad129, e129, hx129_0⟩ := Kd.at_int HR0.out x8_1 p129 q129
              cases e129
              replace hx129_0 := crd HB hx129_0
              replace p129 := eq_true p129
              replace q129 := eq_true q129
              go_wp2
              go_meet
              case rel => exact ⟨_, (true), sr, H', ⟨by have := HK1.out; first | omega | exact Nat.le_refl _⟩, ⟨R_later HO_7.out⟩, ⟨below_later HB.out⟩⟩
            · rw [if_neg c14] at H
              have c14b0 := decide_eq_false c14
              clear c14
              replace H := ifs H
              obtain ⟨c15, H⟩ := H
              have c15b0 := eq_true c15
              have c15b1 := decide_eq_true c15
              clear c15
              obtain ⟨ji16, hji16⟩ : ∃ j_ : Int, (shr .i64 (rd l0 x8_1) a1) = j_ := ⟨_, rfl⟩
              replace H : (spec_BitsPack.j1 k1 l0 a1 x7_1 x8_1 ((ji16) != 0)) = some (r1, r2) := by first | (rw [hji16] at H; exact H) | (simp only [hji16] at H ⊢; exact H)
              have hji16_ : ((rd l0 x8_1) / 2 ^ min a1.toNat 64) = ji16 := hji16
              have hji16z : a1 ≤ 64 → ((rd l0 x8_1) / 2 ^ a1.toNat) = ji16 := shr_small hji16
              have H' := Aside0.mk H
              clear H
              have p129 : 0 ≤ (x8_1 : Int) := dcd
              have q129 : x8_1 < (l0.length : Int) := dcd
              obtain ⟨ad129, e129, hx129_0⟩ := Kd.at_int HR0.out x8_1 p129 q129
              cases e129
              replace hx129_0 := crd HB hx129_0
              replace p129 := eq_true p129
              replace q129 := eq_true q129
              have p130 : 0 ≤ (x8_1 : Int) := dcd
              have q130 : x8_1 < (l0.length : Int) := dcd
              obtain ⟨ad130, e130, hx130_0⟩ := Kd.at_int HR0.out x8_1 p130 q130
              obtain rfl : ad129 = ad130 := (by injection e130)
              replace hx130_0 := crd HB hx130_0
              replace p130 := eq_true p130
              replace q130 := eq_true q130
              go_wp2
              go_meet
              case rel => exact ⟨_, (((ji16) != 0)), (by first | rfl | (simp; done) | (simp only [← hji16] <;> (first | rfl | simp)) | (simp [*]; done)), H', ⟨by have := HK1.out; first | omega | exact Nat.le_refl _⟩, ⟨R_later HO_7.out⟩, ⟨below_later HB.out⟩⟩
          case rest =>
            clear HC12
            try clear c4
            try clear c4b0
            try clear c7
            try clear c7b0
            try clear c7b1
            try clear c8
            try clear c8b0
            try clear c8b1
            try clear c11
            try clear c11b0
            obtain ⟨kq, x39_11, rfl, HA, HJ11, HO_7, HB⟩ := hcut
            cases kq with
            | zero => exact absurd HA.out (by simp [spec_BitsPack.j1])
            | succ kj11 =>
              have H := HA.out
              clear HA
              simp only [spec_BitsPack.j1] at H
              by_cases c17 : x39_11 = true
              · subst c17
                replace H := ifp rfl H
                obtain ⟨y131, hy131⟩ : ∃ y_ : List Int, y_ = (([] : List Int)) := ⟨_, rfl⟩
                replace H : (some (y131, false)) = some (r1, r2) := by first | (rw [hy131]; with_reducible exact H) | (rw [hy131]; exact H) | exact H
                have Ny131 := Aside0.mk hy131
                clear hy131
                simp only [Option.some.injEq, Prod.mk.injEq] at H
                obtain ⟨rfl, rfl⟩ := H
                go_wp2_with (first | ((with_reducible refine gate_dst (N := 40) rfl ?_); refine Kd.R_lit (Kd.int .u8) _ 5 ?hg (N := 40) ?hd (xs := ([] : List Int)) (inner := []) (ok := fun _ => True) (okp := fun _ => True) ?hr ?hp (fun _ hk => hk) trivial (Below.refl _ _) (Nat.le_refl _) (by simp) ?_; (case hd => rfl); (case hg => rfl); (case hr => first | (go_simp; done) | (go_simp; rfl)); (case hp => exact (Reps.none _ _)); intro v132 w18 ho19 hb hg_ hnew_; clear hg_ hnew_; (first | rw [← Ny131.out] at ho19 | (simp only [Int.reduceToNat] at ho19; rw [← Ny131.out] at ho19)); have HO133 := Aside0.mk (Kd.R_lower (Kd.R_new' ho19 (Kd.R_lt (R_later HO_7.out))) (below_size (below_later HB.out))); replace HO_7 := Aside0.mk (Kd.R_elder' (R_later HO_7.out) (Kd.R_base ho19) hb); replace HB := bst HB hb; clear hb ho19))
                go_ret2
                exact ⟨_, by first | rfl | (simp [errW_none, errW_some] <;> rfl) | (simp [*, errW_none, errW_some] <;> rfl), by (with_reducible repeat (first | apply Kd.R_alloc | apply Kd.R_drewN | apply Kd.R_drew)); exact Kd.R_mono HO133.out (fun _ hk => trivial), below_later HB.out⟩
              · replace c17 := Bool.eq_false_iff.mpr c17
                subst c17
                replace H := ifn Bool.false_ne_true H
                have H' := Aside0.mk H
                clear H
                go_wp2
                go_loopg [9] kj11 (fun kq v9 w' => ∃ (x7_3 : List Int) (x9_3 : Int), v9 = .int .i64 x9_3 ∧ Aside0 (spec_BitsPack.l1 kq l0 a1 x7_3 x8_1 x9_3 = some (r1, r2)) ∧ Aside0 (kq ≤ kj11) ∧ Aside0 (Kd.R (Kd.int .u8) 5 w' w.heap.size (fun _ => True) v127 x7_3) ∧ Aside0 (Below w.heap.size w w'))
                case atStart => exact ⟨(x7_1), (0), sr, H', ⟨Nat.le_refl _⟩, ⟨R_later HO_7.out⟩, ⟨below_later HB.out⟩⟩
                case round =>
                  clear H'
                  try clear c4
                  try clear c4b0
                  try clear c7
                  try clear c7b0
                  try clear c7b1
                  try clear c8
                  try clear c8b0
                  try clear c8b1
                  try clear c11
                  try clear c11b0
                  try clear c17
                  obtain ⟨x7_3, x9_3, rfl, HA, HK3, HO_7, HB⟩ := hrel
                  cases gk with
                  | zero => exact absurd HA.out (by simp [spec_BitsPack.l1])
                  | succ k3 =>
                    have H := HA.out
                    clear HA
                    simp only [spec_BitsPack.l1] at H
                    by_cases c20 : x9_3 < a1
                    · rw [if_pos c20] at H
                      have c20b0 := decide_eq_true c20
                      clear c20
                      replace H := ifd H
                      obtain ⟨c21b0, H⟩ := H
                      replace H := ifd H
                      obtain ⟨c22b0, H⟩ := H
                      replace H := ifs H
                      obtain ⟨c23, H⟩ := H
                      have c23b0 := eq_true c23
                      have c23b1 := decide_eq_true c23
                      clear c23
                      obtain ⟨ji24, hji24⟩ : ∃ j_ : Int, (shr .i64 (rd l0 x8_1) x9_3) = j_ := ⟨_, rfl⟩
                      replace H : (if (Go.bits .and .i64 (ji24) 1) = 1 then (if 0 ≤ (wrap64 (Int.tdiv (wrap64 ((wrap64 (x8_1 * a1)) + x9_3)) 8)) then (if (wrap64 (Int.tdiv (wrap64 ((wrap64 (x8_1 * a1)) + x9_3)) 8)) < (x7_3.length : Int) then (if 0 ≤ (Int.tmod (wrap64 ((wrap64 (x8_1 * a1)) + x9_3)) 8) then (spec_BitsPack.l1 k3 l0 a1 (x7_3.set ((wrap64 (Int.tdiv (wrap64 ((wrap64 (x8_1 * a1)) + x9_3)) 8)) : Int).toNat (Go.bits .or .u8 (rd x7_3 (wrap64 (Int.tdiv (wrap64 ((wrap64 (x8_1 * a1)) + x9_3)) 8))) (shl .u8 1 (Int.tmod (wrap64 ((wrap64 (x8_1 * a1)) + x9_3)) 8)))) x8_1 (wrap64 (x9_3 + 1))) else (none)) else (none)) else (none)) else (spec_BitsPack.l1 k3 l0 a1 x7_3 x8_1 (wrap64 (x9_3 + 1)))) = some (r1, r2) := by first | (rw [hji24] at H; exact H) | (simp only [hji24] at H ⊢; exact H)
                      have hji24_ : ((rd l0 x8_1) / 2 ^ min x9_3.toNat 64) = ji24 := hji24
                      have hji24z : x9_3 ≤ 64 → ((rd l0 x8_1) / 2 ^ x9_3.toNat) = ji24 := shr_small hji24
                      by_cases c25 : (Go.bits .and .i64 (ji24) 1) = 1
                      · rw [if_pos c25] at H
                        have c25b0 : ((Go.bits .and .i64 (ji24) 1) == 1) = true := beq_iff_eq.mpr c25
                        have c25b1 : ((Go.bits .and .i64 (ji24) 1) != 1) = false := bne_eq_false_iff_eq.mpr c25
                        clear c25
                        obtain ⟨ji26, hji26⟩ : ∃ j_ : Int, (wrap64 (Int.tdiv (wrap64 ((wrap64 (x8_1 * a1)) + x9_3)) 8)) = j_ := ⟨_, rfl⟩
                        replace H : (if 0 ≤ (ji26) then (if (ji26) < (x7_3.length : Int) then (if 0 ≤ (Int.tmod (wrap64 ((wrap64 (x8_1 * a1)) + x9_3)) 8) then (spec_BitsPack.l1 k3 l0 a1 (x7_3.set ((ji26) : Int).toNat (Go.bits .or .u8 (rd x7_3 (ji26)) (shl .u8 1 (Int.tmod (wrap64 ((wrap64 (x8_1 * a1)) + x9_3)) 8)))) x8_1 (wrap64 (x9_3 + 1))) else (none)) else (none)) else (none)) = some (r1, r2) := by first | (rw [hji26] at H; exact H) | (simp only [hji26] at H ⊢; exact H)
                        have hji26w : (IntKind.i64.wrap (Int.tdiv (wrap64 ((wrap64 (x8_1 * a1)) + x9_3)) 8)) = ji26 := (i64_w _).trans hji26
                        replace H := ifd H
                        obtain ⟨c27b0, H⟩ := H
                        replace H := ifd H
                        obtain ⟨c28b0, H⟩ := H
                        obtain ⟨ji29, hji29⟩ : ∃ j_ : Int, (Int.tmod (wrap64 ((wrap64 (x8_1 * a1)) + x9_3)) 8) = j_ := ⟨_, rfl⟩
                        replace H : (if 0 ≤ (ji29) then (spec_BitsPack.l1 k3 l0 a1 (x7_3.set ((ji26) : Int).toNat (Go.bits .or .u8 (rd x7_3 (ji26)) (shl .u8 1 (ji29)))) x8_1 (wrap64 (x9_3 + 1))) else (none)) = some (r1, r2) := by first | (rw [hji29] at H; exact H) | (simp only [hji29] at H ⊢; exact H)
                        replace H := ifs H
                        obtain ⟨c30, H⟩ := H
                        have c30b0 := eq_true c30
                        have c30b1 := decide_eq_true c30
                        clear c30
                        obtain ⟨ji31, hji31⟩ : ∃ j_ : Int, (shl .u8 1 (ji29)) = j_ := ⟨_, rfl⟩
                        replace H : (spec_BitsPack.l1 k3 l0 a1 (x7_3.set ((ji26) : Int).toNat (Go.bits .or .u8 (rd x7_3 (ji26)) (ji31))) x8_1 (wrap64 (x9_3 + 1))) = some (r1, r2) := by first | (rw [hji31] at H; exact H) | (simp only [hji31] at H ⊢; exact H)
                        have hji31_ : (IntKind.u8.wrap (1 * 2 ^ min (ji29).toNat 8)) = ji31 := hji31
                        have hji31w : ((1 * 2 ^ min (ji29).toNat 8) % 256) = ji31 := hji31
                        have hji31z : (ji29) ≤ 8 → (IntKind.u8.wrap (1 * 2 ^ (ji29).toNat)) = ji31 := shl_small hji31
                        have hji31u : (IntKind.u8.wrap (2 ^ min (ji29).toNat 8)) = ji31 := by have h_ := hji31_; rw [Int.one_mul] at h_; exact h_
                        have hji31v : (ji29) ≤ 8 → (IntKind.u8.wrap (2 ^ (ji29).toNat)) = ji31 := fun hle_ => by have h_ := hji31z hle_; rw [Int.one_mul] at h_; exact h_
                        obtain ⟨y136, hy136⟩ : ∃ y_ : List Int, y_ = (x7_3.set ((ji26) : Int).toNat (Go.bits .or .u8 (rd x7_3 (ji26)) (ji31))) := ⟨_, rfl⟩
                        replace H : (spec_BitsPack.l1 k3 l0 a1 y136 x8_1 (wrap64 (x9_3 + 1))) = some (r1, r2) := by first | (rw [hy136]; with_reducible exact H) | (rw [hy136]; exact H) | exact H
                        have Ny136 := Aside0.mk hy136
                        clear hy136
                        have H' := Aside0.mk H
                        clear H
                        have p134 : 0 ≤ (x8_1 : Int) := dcd
                        have q134 : x8_1 < (l0.length : Int) := dcd
                        obtain ⟨ad134, e134, hx134_0⟩ := Kd.at_int HR0.out x8_1 p134 q134
                        cases e134
                        replace hx134_0 := crd HB hx134_0
                        replace p134 := eq_true p134
                        replace q134 := eq_true q134
                        try go_wp2
                        have n0_ := Aside0.mk (Kd.R_drew HO_7.out)
                        have n1_ := Aside0.mk (below_drew1 HB.out)
                        clear HO_7
                        clear HB
                        have HO_7 := n0_
                        have HB := n1_
                        clear n0_ n1_
                        obtain ⟨Ao34, co34, eo34⟩ := Kd.R_slice HO_7.out
                        (first | subst eo34 | (injection eo34 with f1_ f2_ f3_; have f4_ := f1_.symm; have f5_ := f3_.symm; clear f1_ f2_ f3_; subst f4_; subst f5_))
                        have p135 : 0 ≤ ((ji26) : Int) := dcd
                        have q135 : (ji26) < (x7_3.length : Int) := dcd
                        obtain ⟨ad135, e135, hx135_0⟩ := Kd.at_int (Kd.R_reads' HO_7.out).2.2 (ji26) p135 q135
                        cases e135
                        replace p135 := eq_true p135
                        replace q135 := eq_true q135
                        have p32 : 0 ≤ ((ji26) : Int) := dcd
                        have q32 : ((ji26) : Int) < ((x7_3.length : Int) : Int) := dcd
                        obtain ⟨go32, co32, eo32, gb32, gl32, cl32, HG32⟩ := Kd.R_form HO_7.out (by omega)
                        (first | cases eo32 | (injection eo32 with ea_ en_ ec_; (first | subst ea_ | (injection ea_ with ea_; subst ea_)); subst ec_; clear en_))
                        have GB32 := Aside0.mk gb32
                        have GG32 := Aside0.mk HG32
                        clear gb32 gl32 HG32
                        (first | simp only [add_plain] at hx135_0 | skip)
                        obtain ⟨hx32_0, hf32_0⟩ := Kd.R_celln 0 HO_7.out ((ji26) : Int) p32 q32
                        replace p32 := eq_true p32
                        replace q32 := eq_true q32
                        have HP35 := Kd.R_putn HO_7.out ((ji26) : Int) (Go.bits .or .u8 (rd x7_3 (ji26)) (ji31))
                        rw [← Ny136.out] at HP35
                        have HQ35 := Aside0.mk HP35
                        clear HP35
                        refine start_ (n := 14) (S := fun w' => w'.cell? ⟨go32, ((ji26)).toNat, none⟩ = some (.int .u8 (rd x7_3 (ji26)))) (ds := [13]) #[false, false, false, false, false, false, false, false, false, false, false, false, false, false] (by kernel_rfl) rfl rfl (hx135_0) (fun hHeld => ?_); refine with_tabW spec_BitsPack.tab15 spec_BitsPack.bits15 (fun HT_ HW_ => ?_)
                        generalize wr.drew = w33 at HO_7 HB GG32 HQ35 hf32_0 hx135_0 hx32_0 hHeld ⊢
                        refine pure_ (i := 0) (N := some 59) (v := ?_) (a' := ?_) #[true, false, false, false, false, false, false, false, false, false, false, false, false, false] rfl rfl (any_of HT_.out (by kernel_rfl)) (fun _ _ _ h => h) (Or.inl ⟨by rfl, ?_⟩) ?_ ?_
                        rotate_left
                        · intro w'
                          go_simp
                          with_reducible rfl
                        rotate_left
                        · simp only [Act.put, List.setIfInBounds_toArray, List.set_cons_zero, List.set_cons_succ, i64_w, i32_w]
                          rfl
                        refine pure_ (i := 1) (N := some 60) (v := ?_) (a' := ?_) #[true, true, false, false, false, false, false, false, false, false, false, false, false, false] rfl rfl (any_of HT_.out (by kernel_rfl)) (fun _ _ _ h => h) (Or.inl ⟨by rfl, ?_⟩) ?_ ?_
                        rotate_left
                        · intro w'
                          go_simp
                          with_reducible rfl
                        rotate_left
                        · simp only [Act.put, List.setIfInBounds_toArray, List.set_cons_zero, List.set_cons_succ, i64_w, i32_w]
                          rfl
                        refine pure_ (i := 2) (N := some 61) (v := ?_) (a' := ?_) #[true, true, true, false, false, false, false, false, false, false, false, false, false, false] rfl rfl (any_of HT_.out (by kernel_rfl)) (fun _ _ _ h => h) (Or.inl ⟨by rfl, ?_⟩) ?_ ?_
                        rotate_left
                        · intro w'
                          go_simp
                          with_reducible rfl
                        rotate_left
                        · simp only [Act.put, List.setIfInBounds_toArray, List.set_cons_zero, List.set_cons_succ, i64_w, i32_w]
                          rfl
                        refine pure_ (i := 3) (N := some 62) (v := ?_) (a' := ?_) #[true, true, true, true, false, false, false, false, false, false, false, false, false, false] rfl rfl (any_of HT_.out (by kernel_rfl)) (fun _ _ _ h => h) (Or.inl ⟨by rfl, ?_⟩) ?_ ?_
                        rotate_left
                        · intro w'
                          go_simp
                          with_reducible rfl
                        rotate_left
                        · simp only [Act.put, List.setIfInBounds_toArray, List.set_cons_zero, List.set_cons_succ, i64_w, i32_w]
                          rfl
                        refine pure_ (i := 4) (N := some 63) (v := ?_) (a' := ?_) #[true, true, true, true, true, false, false, false, false, false, false, false, false, false] rfl rfl (any_of HT_.out (by kernel_rfl)) (fun _ _ _ h => h) (Or.inl ⟨by rfl, ?_⟩) ?_ ?_
                        rotate_left
                        · intro w'
                          go_simp
                          with_reducible rfl
                        rotate_left
                        · simp only [Act.put, List.setIfInBounds_toArray, List.set_cons_zero, List.set_cons_succ, i64_w, i32_w]
                          rfl
                        refine pure_ (i := 5) (N := some 64) (v := ?_) (a' := ?_) #[true, true, true, true, true, true, false, false, false, false, false, false, false, false] rfl rfl (any_of HT_.out (by kernel_rfl)) (fun _ _ _ h => h) (Or.inl ⟨by rfl, ?_⟩) ?_ ?_
                        rotate_left
                        · intro w'
                          go_simp
                          with_reducible rfl
                        rotate_left
                        · simp only [Act.put, List.setIfInBounds_toArray, List.set_cons_zero, List.set_cons_succ, i64_w, i32_w]
                          rfl
                        refine pure_ (i := 6) (N := some 65) (v := ?_) (a' := ?_) #[true, true, true, true, true, true, true, false, false, false, false, false, false, false] rfl rfl (any_of HT_.out (by kernel_rfl)) (fun _ _ _ h => h) (Or.inl ⟨by rfl, ?_⟩) ?_ ?_
                        rotate_left
                        · intro w'
                          go_simp
                          with_reducible rfl
                        rotate_left
                        · simp only [Act.put, List.setIfInBounds_toArray, List.set_cons_zero, List.set_cons_succ, i64_w, i32_w]
                          rfl
                        refine pure_ (i := 8) (N := some 67) (v := ?_) (a' := ?_) #[true, true, true, true, true, true, true, false, true, false, false, false, false, false] rfl rfl (any_of HT_.out (by kernel_rfl)) (fun _ _ _ h => h) (Or.inl ⟨by rfl, ?_⟩) ?_ ?_
                        rotate_left
                        · intro w'
                          go_simp
                          with_reducible rfl
                        rotate_left
                        · simp only [Act.put, List.setIfInBounds_toArray, List.set_cons_zero, List.set_cons_succ, i64_w, i32_w]
                          rfl
                        refine pure_ (i := 9) (N := some 68) (v := ?_) (a' := ?_) #[true, true, true, true, true, true, true, false, true, true, false, false, false, false] rfl rfl (any_of HT_.out (by kernel_rfl)) (fun _ _ _ h => h) (Or.inl ⟨by rfl, ?_⟩) ?_ ?_
                        rotate_left
                        · intro w'
                          go_simp
                          with_reducible rfl
                        rotate_left
                        · simp only [Act.put, List.setIfInBounds_toArray, List.set_cons_zero, List.set_cons_succ, i64_w, i32_w]
                          rfl
                        refine pure_ (i := 10) (N := some 69) (v := ?_) (a' := ?_) #[true, true, true, true, true, true, true, false, true, true, true, false, false, false] rfl rfl (any_of HT_.out (by kernel_rfl)) (fun _ _ _ h => h) (Or.inl ⟨by rfl, ?_⟩) ?_ ?_
                        rotate_left
                        · intro w'
                          go_simp
                          with_reducible rfl
                        rotate_left
                        · simp only [Act.put, List.setIfInBounds_toArray, List.set_cons_zero, List.set_cons_succ, i64_w, i32_w]
                          rfl
                        refine take_ (i := 7) (N := some 66) (v := ?_) (a' := ?_) #[true, true, true, true, true, true, true, true, true, true, true, false, false, false] rfl rfl (take_ofW HT_.out HW_.out (by kernel_rfl)) (fun _ _ _ h => h) (Or.inl ⟨by rfl, ?_⟩) hHeld ?_ ?_
                        rotate_left
                        · intro w' s0
                          go_simp
                          with_reducible rfl
                        rotate_left
                        · simp only [Act.put, List.setIfInBounds_toArray, List.set_cons_zero, List.set_cons_succ, i64_w, i32_w]
                          rfl
                        refine pure_ (i := 11) (N := some 70) (v := ?_) (a' := ?_) #[true, true, true, true, true, true, true, true, true, true, true, true, false, false] rfl rfl (any_of HT_.out (by kernel_rfl)) (fun _ _ _ h => h) (Or.inl ⟨by rfl, ?_⟩) ?_ ?_
                        rotate_left
                        · intro w'
                          go_simp
                          with_reducible rfl
                        rotate_left
                        · simp only [Act.put, List.setIfInBounds_toArray, List.set_cons_zero, List.set_cons_succ, i64_w, i32_w]
                          rfl
                        refine pure_ (i := 12) (N := some 71) (v := ?_) (a' := ?_) #[true, true, true, true, true, true, true, true, true, true, true, true, true, false] rfl rfl (any_of HT_.out (by kernel_rfl)) (fun _ _ _ h => h) (Or.inl ⟨by rfl, ?_⟩) ?_ ?_
                        rotate_left
                        · intro w'
                          go_simp
                          with_reducible rfl
                        rotate_left
                        · simp only [Act.put, List.setIfInBounds_toArray, List.set_cons_zero, List.set_cons_succ, i64_w, i32_w]
                          rfl
                        refine last_ (i := 13) (N := none) #[true, true, true, true, true, true, true, true, true, true, true, true, true, true] rfl rfl (one_of HT_.out (by kernel_rfl)) (by decide) (fun K hK => ?_)
                        refine skip_ (w1 := ?_) (by rfl) rfl ?_ ?_
                        rotate_left
                        · go_simp
                          rfl
                        refine hK.out _ _ ?_
                        clear hK K
                        refine done_ (done_of HT_.out (by kernel_rfl)) ?_
                        try go_wp2
                        go_roundg k3
                        case measure => have := HK1.out; have := HJ11.out; have := HK3.out; omega
                        case rel => (try rw [hji31w]); exact ⟨(y136), (wrap64 (x9_3 + 1)), sr, H', ⟨by have := HK1.out; have := HJ11.out; have := HK3.out; omega⟩, ⟨R_later (HQ35.out)⟩, ⟨by repeat (first | (with_reducible first | exact HB.out | apply below_alloc | apply pw_below_drewN | apply below_drew1 | refine below_set ?_ GB32.out) | exact HB.out)⟩⟩
                      · rw [if_neg c25] at H
                        have c25b0 : ((Go.bits .and .i64 (ji24) 1) == 1) = false := beq_eq_false_iff_ne.mpr c25
                        have c25b1 : ((Go.bits .and .i64 (ji24) 1) != 1) = true := bne_iff_ne.mpr c25
                        have H' := Aside0.mk H
                        clear H
                        have p134 : 0 ≤ (x8_1 : Int) := dcd
                        have q134 : x8_1 < (l0.length : Int) := dcd
                        obtain ⟨ad134, e134, hx134_0⟩ := Kd.at_int HR0.out x8_1 p134 q134
                        cases e134
                        replace hx134_0 := crd HB hx134_0
                        replace p134 := eq_true p134
                        replace q134 := eq_true q134
                        go_wp2
                        go_roundg k3
                        case measure => have := HK1.out; have := HJ11.out; have := HK3.out; omega
                        case rel => (try rw [hji31w]); exact ⟨(x7_3), (wrap64 (x9_3 + 1)), sr, H', ⟨by have := HK1.out; have := HJ11.out; have := HK3.out; omega⟩, ⟨R_later HO_7.out⟩, ⟨below_later HB.out⟩⟩
                    · rw [if_neg c20] at H
                      have c20b0 := decide_eq_false c20
                      clear c20
                      have H' := Aside0.mk H
                      clear H
                      go_wp2
                      go_roundg k3
                      case measure => have := HK1.out; have := HJ11.out; have := HK3.out; omega
                      case rel => (try rw [hji31w]); exact ⟨(x7_3), (wrap64 (x8_1 + 1)), sr, H', ⟨by have := HK1.out; have := HJ11.out; have := HK3.out; omega⟩, ⟨R_later HO_7.out⟩, ⟨below_later HB.out⟩⟩
        · rw [if_neg c11] at H
          have c11b0 := decide_eq_false c11
          clear c11
          simp only [Option.some.injEq, Prod.mk.injEq] at H
          obtain ⟨rfl, rfl⟩ := H
          go_wp2
          go_ret2
          exact ⟨_, by first | rfl | (simp [errW_none, errW_some] <;> rfl) | (simp [*, errW_none, errW_some] <;> rfl), by (with_reducible repeat (first | apply Kd.R_alloc | apply Kd.R_drewN | apply Kd.R_drew)); exact HO_7.out, below_later HB.out⟩
/-! ### spec_PlainPack: function 16 -/
def spec_PlainPack.l0 : Nat → Int → List (S46) → List Int → List Int → Int → Option (List Int × Bool)
  | 0, _, _, _, _, _ => none
  | k + 1, x0, x1, x6, x7, x8 => if x8 < (x1.length : Int) then (if 0 ≤ x8 then (if x0 = 0 then (if x7.length < 17592186044416 then (spec_PlainPack.l0 k x0 x1 x6 (x7 ++ [(rd_T46 x1 x8).f0]) (wrap64 (x8 + 1))) else (none)) else (if x0 = 1 then ((spec_WordPut.f k ((rd_T46 x1 x8).f0) 4).bind fun t153 => (if x6.length + t153.length < 140737488355328 then (spec_PlainPack.l0 k x0 x1 (x6 ++ t153) x7 (wrap64 (x8 + 1))) else (none))) else (if x0 = 6 then ((spec_WordPut.f k (((rd_T46 x1 x8).f1).size : Int) 4).bind fun t159 => (if x6.length + t159.length < 140737488355328 then ((some (x6 ++ t159 : List Int)).bind fun y162 => (if y162.length + ((rd_T46 x1 x8).f1).size < 140737488355328 then (spec_PlainPack.l0 k x0 x1 (y162 ++ bytesOf ((rd_T46 x1 x8).f1)) x7 (wrap64 (x8 + 1))) else (none))) else (none))) else ((spec_WordPut.f k ((rd_T46 x1 x8).f0) 8).bind fun t168 => (if x6.length + t168.length < 140737488355328 then (spec_PlainPack.l0 k x0 x1 (x6 ++ t168) x7 (wrap64 (x8 + 1))) else (none)))))) else (none)) else (if x0 = 0 then ((spec_BitsPack.f k x7 1).bind fun bt144 => (some (bt144.1, bt144.2))) else (some (x6, true)))
def spec_PlainPack.f (k : Nat) (a0 : Int) (l1 : List (S46)) : Option (List Int × Bool) := (some (([] : List Int) : List Int)).bind fun y137 => ((spec_l6Vals.f k a0 l1).bind fun t140 => (if t140 = true then (spec_PlainPack.l0 k a0 l1 y137 (([] : List Int)) 0) else (some (y137, false))))
set_option maxHeartbeats 8000000 in
set_option maxRecDepth 100000 in
theorem spec_PlainPack.calls (k : Nat) (a0 : Int) (A1 : Option Addr) (c1 : Nat) (l1 : List (S46)) (r1 : List Int) (r2 : Bool) (w : World) (hr1 : Kd.C k46 w A1 l1.length l1) (hc1 : l1.length ≤ c1) (h : spec_PlainPack.f k a0 l1 = some (r1, r2)) :
    Calls Try.prog 16 #[.int .i64 a0, .slice A1 l1.length c1] w fun e w' => ∃ v0_ : Value, e = .returned (.tuple #[v0_, .bool r2]) ∧ Kd.R (Kd.int .u8) 5 w' w.heap.size (fun _ => True) v0_ r1 ∧ Below w.heap.size w w' := by
  have hu46 := Try.underlying46
  have HR1 := Aside0.mk hr1
  have HC1 := Aside0.mk hc1
  clear hr1 hc1
  have HB := Aside0.mk (Below.refl w.heap.size w)
  have H : ((some (([] : List Int) : List Int)).bind fun y137 => ((spec_l6Vals.f k a0 l1).bind fun t140 => (if t140 = true then (spec_PlainPack.l0 k a0 l1 y137 (([] : List Int)) 0) else (some (y137, false))))) = some (r1, r2) := h
  clear h
  replace H := bsm H
  obtain ⟨y137, Ny137, H⟩ := H
  replace H := bnd H
  obtain ⟨t140, A3, H⟩ := H
  by_cases c4 : t140 = true
  · subst c4
    replace H := ifp rfl H
    obtain ⟨y141, hy141⟩ : ∃ y_ : List Int, y_ = (([] : List Int)) := ⟨_, rfl⟩
    replace H : (spec_PlainPack.l0 k a0 l1 y137 y141 0) = some (r1, r2) := by first | (rw [hy141]; with_reducible exact H) | (rw [hy141]; exact H) | exact H
    have Ny141 := Aside0.mk hy141
    clear hy141
    have H' := Aside0.mk H
    clear H
    go_enter Try.func16, Try.ntmps16
    go_wp2_with (first | ((with_reducible refine gate_dst (N := 10) rfl ?_); refine Kd.R_lit (Kd.int .u8) _ 5 ?hg (N := 10) ?hd (xs := ([] : List Int)) (inner := []) (ok := fun _ => True) (okp := fun _ => True) ?hr ?hp (fun _ hk => hk) trivial (Below.refl _ _) (Nat.le_refl _) (by simp) ?_; (case hd => rfl); (case hg => rfl); (case hr => first | (go_simp; done) | (go_simp; rfl)); (case hp => exact (Reps.none _ _)); intro v138 w5 ho6 hb hg_ hnew_; clear hg_ hnew_; (first | rw [← Ny137.out] at ho6 | (simp only [Int.reduceToNat] at ho6; rw [← Ny137.out] at ho6)); have HO139 := Aside0.mk (Kd.R_lower ho6 (below_size (below_later HB.out))); replace HB := bst HB hb; clear hb ho6) | ((with_reducible refine gate_callee (f := 15) rfl ?_); refine gl_ (some 13) Try.func15 #[.int .i64 a0, .slice A1 l1.length c1] rfl ?_; (with_reducible refine (spec_l6Vals.calls k a0 _ _ l1 true _ ?side1 ?side2 A3.out).mono ?_); (case side1 => repeat (first | exact (Kd.C_below HR1.out HB.out) | (with_reducible refine Kd.C_alloc ?_ _) | (with_reducible refine Kd.C_drewN ?_ _) | (with_reducible refine Kd.C_drew ?_))); (case side2 => exact HC1.out); rintro e w7 ⟨rfl, hb⟩; refine ⟨_, rfl, ?_⟩; replace HO139 := Aside0.mk (Kd.R_below (R_later HO139.out) hb); replace HB := bst HB hb; (try clear hb); (try clear hk)) | ((with_reducible refine gate_dst (N := 16) rfl ?_); refine Kd.R_lit (Kd.int .i64) _ 3 ?hg (N := 16) ?hd (xs := ([] : List Int)) (inner := []) (ok := fun _ => True) (okp := fun _ => True) ?hr ?hp (fun _ hk => hk) trivial (Below.refl _ _) (Nat.le_refl _) (by simp) ?_; (case hd => rfl); (case hg => rfl); (case hr => first | (go_simp; done) | (go_simp; rfl)); (case hp => exact (Reps.none _ _)); intro v142 w8 ho9 hb hg_ hnew_; clear hg_ hnew_; (first | rw [← Ny141.out] at ho9 | (simp only [Int.reduceToNat] at ho9; rw [← Ny141.out] at ho9)); have HO143 := Aside0.mk (Kd.R_lower ho9 (below_size (below_later HB.out))); replace HO139 := Aside0.mk (Kd.R_below (R_later HO139.out) hb); replace HB := bst HB hb; clear hb ho9))
    go_loopg [6, 7, 8] k (fun kq v6 v7 v8 w' => ∃ (x6_1 : List Int) (x7_1 : List Int) (x8_1 : Int), v8 = .int .i64 x8_1 ∧ Aside0 (spec_PlainPack.l0 kq a0 l1 x6_1 x7_1 x8_1 = some (r1, r2)) ∧ Aside0 (kq ≤ k) ∧ Aside0 (Kd.R (Kd.int .u8) 5 w' w.heap.size (fun _ => True) v6 x6_1) ∧ Aside0 (Kd.R (Kd.int .i64) 3 w' w.heap.size (fun _ => True) v7 x7_1) ∧ Aside0 (Below w.heap.size w w'))
    case atStart => exact ⟨(y137), (y141), (0), sr, H', ⟨Nat.le_refl _⟩, ⟨R_later HO139.out⟩, ⟨R_later HO143.out⟩, ⟨below_later HB.out⟩⟩
    case round =>
      clear H'
      try clear c1
      try clear c4
      obtain ⟨x6_1, x7_1, x8_1, rfl, HA, HK1, HO_6, HO_7, HB⟩ := hrel
      cases gk with
      | zero => exact absurd HA.out (by simp [spec_PlainPack.l0])
      | succ k1 =>
        have H := HA.out
        clear HA
        simp only [spec_PlainPack.l0] at H
        by_cases c10 : x8_1 < (l1.length : Int)
        · rw [if_pos c10] at H
          have c10b0 := decide_eq_true c10
          clear c10
          replace H := ifd H
          obtain ⟨c11b0, H⟩ := H
          by_cases c12 : a0 = 0
          · rw [if_pos c12] at H
            have c12b0 : (a0 == 0) = true := beq_iff_eq.mpr c12
            have c12b1 : (a0 != 0) = false := bne_eq_false_iff_eq.mpr c12
            clear c12
            replace H := ifs H
            obtain ⟨c13, H⟩ := H
            have LMc13 := Aside0.mk c13
            clear c13
            obtain ⟨y150, hy150⟩ : ∃ y_ : List Int, y_ = (x7_1 ++ [(rd_T46 l1 x8_1).f0]) := ⟨_, rfl⟩
            replace H : (spec_PlainPack.l0 k1 a0 l1 x6_1 y150 (wrap64 (x8_1 + 1))) = some (r1, r2) := by first | (rw [hy150]; with_reducible exact H) | (rw [hy150]; exact H) | exact H
            have Ny150 := Aside0.mk hy150
            clear hy150
            have H' := Aside0.mk H
            clear H
            have p148 : 0 ≤ (x8_1 : Int) := dcd
            have q148 : x8_1 < (l1.length : Int) := dcd
            obtain ⟨ad148, e148, hx148_0, hx148_1⟩ := at_T46 HR1.out x8_1 p148 q148
            cases e148
            replace hx148_0 := crd HB hx148_0
            replace hx148_1 := crd HB hx148_1
            replace p148 := eq_true p148
            replace q148 := eq_true q148
            go_wp2_with (first | ((with_reducible refine gate_dst (N := 9) rfl ?_); refine bx_ 9 #[.int .i64 0, .string (⟨#[]⟩ : ByteArray)] 46 ?_; intro gb149 hg w14 hbox hb; have BK149 := Aside0.mk (hbox); have GW149 := gwe HB hg; have GE149 := GW149; replace HO_6 := Aside0.mk (Kd.R_below (R_later HO_6.out) hb); replace HO_7 := Aside0.mk (Kd.R_below (R_later HO_7.out) hb); replace HB := bst HB hb; clear hb hbox hg; obtain ⟨hcz15_0, hcz15_1, hfz15_0, hfz15_1⟩ := cl2 BK149) | ((with_reducible refine gate_builtin (b := .append) (xs := #[.tmp 35, .tmp 38]) rfl ?_); at_builtin; refine Kd.R_append (Kd.int .i64) (w0 := w) w.heap.size rfl (.tmp 35) (.tmp 38) 41 3 (.int .i64 0) 8 rfl Try.underlying41 info3 rfl (by decide) (by omega) u7 x7_1 ((rd_T46 l1 x8_1).f0) [.int .i64 ((rd_T46 l1 x8_1).f0)] (fun _ => True) (fun _ => False) rfl (by first | (go_simp; done) | (go_simp; rfl)) ?aP (fun _ hk => hk.elim) ?aF ?aO ?aB ?aS ?aL ?_; (case aP => exact rfl); (case aB => exact (below_later HB.out)); (case aF => exact (fun _ _ => trivial)); (case aO => exact (by (with_reducible repeat (first | apply Kd.R_alloc | apply Kd.R_drewN | apply Kd.R_drew)); exact Kd.R_mono (Kd.R_far (p := ⟨gb149, 1, none⟩) (Kd.R_far (p := ⟨gb149, 0, none⟩) (Kd.R_types HO_7.out BK149.out (by decide)) (fun _ hk => hk.2) (.int .i64 ((rd_T46 l1 x8_1).f0))) (fun _ hk => hk.2) (.string ((rd_T46 l1 x8_1).f1))) (fun _ hk => trivial))); (case aS => exact (below_size (below_later HB.out))); (case aL => have := LMc13.out; omega); intro v151 w16 ho hb hg hat; rw [← Ny150.out] at ho; have n0_ := Aside0.mk (Kd.R_over' (by (with_reducible repeat (first | apply Kd.R_alloc | apply Kd.R_drewN | apply Kd.R_drew)); exact (Kd.R_mono (Kd.R_far (p := ⟨gb149, 1, none⟩) (Kd.R_far (p := ⟨gb149, 0, none⟩) (Kd.R_types HO_6.out BK149.out (by decide)) (fun _ hk => hk.2) (.int .i64 ((rd_T46 l1 x8_1).f0))) (fun _ hk => hk.2) (.string ((rd_T46 l1 x8_1).f1))) (fun _ h_ => h_.1))) (Kd.R_typed (by (with_reducible repeat (first | apply Kd.R_alloc | apply Kd.R_drewN | apply Kd.R_drew)); exact (Kd.R_mono (Kd.R_far (p := ⟨gb149, 1, none⟩) (Kd.R_far (p := ⟨gb149, 0, none⟩) (Kd.R_types HO_7.out BK149.out (by decide)) (fun _ hk => hk.2) (.int .i64 ((rd_T46 l1 x8_1).f0))) (fun _ hk => hk.2) (.string ((rd_T46 l1 x8_1).f1))) (fun _ h_ => h_.1)))) (by decide) hg); have n1_ := Aside0.mk (blk_grown (g := gb149) (o := .cells #[.int .i64 ((rd_T46 l1 x8_1).f0), .string ((rd_T46 l1 x8_1).f1)] 46 (0, 0)) (blk_later BK149.out) hg (Kd.R_ne HO_7.out BK149.out (by decide))); have n2_ := Aside0.mk (hb); have n3_ := Aside0.mk (ho); clear HO_6; clear BK149; clear HB; clear HO_7; have HO_6 := n0_; have BK149 := n1_; have HB := n2_; have HO152 := n3_; clear n0_ n1_ n2_ n3_; clear ho hb hg hat))
            go_roundg k1
            case measure => have := HK1.out; omega
            case rel => exact ⟨(x6_1), (y150), (wrap64 (x8_1 + 1)), sr, H', ⟨by have := HK1.out; omega⟩, ⟨R_later HO_6.out⟩, ⟨R_later HO152.out⟩, ⟨below_later HB.out⟩⟩
          · rw [if_neg c12] at H
            have c12b0 : (a0 == 0) = false := beq_eq_false_iff_ne.mpr c12
            have c12b1 : (a0 != 0) = true := bne_iff_ne.mpr c12
            by_cases c17 : a0 = 1
            · rw [if_pos c17] at H
              have c17b0 : (a0 == 1) = true := beq_iff_eq.mpr c17
              have c17b1 : (a0 != 1) = false := bne_eq_false_iff_eq.mpr c17
              clear c17
              replace H := bnd H
              obtain ⟨t153, A18, H⟩ := H
              replace H := ifs H
              obtain ⟨c19, H⟩ := H
              have LMc19 := Aside0.mk c19
              clear c19
              obtain ⟨y156, hy156⟩ : ∃ y_ : List Int, y_ = (x6_1 ++ t153) := ⟨_, rfl⟩
              replace H : (spec_PlainPack.l0 k1 a0 l1 y156 x7_1 (wrap64 (x8_1 + 1))) = some (r1, r2) := by first | (rw [hy156]; with_reducible exact H) | (rw [hy156]; exact H) | exact H
              have Ny156 := Aside0.mk hy156
              clear hy156
              have H' := Aside0.mk H
              clear H
              have p148 : 0 ≤ (x8_1 : Int) := dcd
              have q148 : x8_1 < (l1.length : Int) := dcd
              obtain ⟨ad148, e148, hx148_0, hx148_1⟩ := at_T46 HR1.out x8_1 p148 q148
              cases e148
              replace hx148_0 := crd HB hx148_0
              replace hx148_1 := crd HB hx148_1
              replace p148 := eq_true p148
              replace q148 := eq_true q148
              go_wp2_with (first | ((with_reducible refine gate_dst (N := 9) rfl ?_); refine bx_ 9 #[.int .i64 0, .string (⟨#[]⟩ : ByteArray)] 46 ?_; intro gb149 hg w20 hbox hb; have BK149 := Aside0.mk (hbox); have GW149 := gwe HB hg; have GE149 := GW149; replace HO_6 := Aside0.mk (Kd.R_below (R_later HO_6.out) hb); replace HO_7 := Aside0.mk (Kd.R_below (R_later HO_7.out) hb); replace HB := bst HB hb; clear hb hbox hg; obtain ⟨hcz21_0, hcz21_1, hfz21_0, hfz21_1⟩ := cl2 BK149) | ((with_reducible refine gate_callee (f := 19) rfl ?_); refine gl_ (some 45) Try.func19 #[.int .i64 ((rd_T46 l1 x8_1).f0), .int .i64 4] rfl ?_; (with_reducible refine (spec_WordPut.calls k1 ((rd_T46 l1 x8_1).f0) 4 t153 _ A18.out).mono ?_); rintro e w22 ⟨v154, rfl, ho0, hb⟩; refine ⟨_, rfl, ?_⟩; have HO155 := Aside0.mk (Kd.R_lower (Kd.R_new' ho0 (Kd.R_lt (by (with_reducible repeat (first | apply Kd.R_alloc | apply Kd.R_drewN | apply Kd.R_drew)); exact (Kd.R_mono (Kd.R_far (p := ⟨gb149, 1, none⟩) (Kd.R_far (p := ⟨gb149, 0, none⟩) (Kd.R_types HO_6.out BK149.out (by decide)) (fun _ hk => hk.2) (.int .i64 ((rd_T46 l1 x8_1).f0))) (fun _ hk => hk.2) (.string ((rd_T46 l1 x8_1).f1))) (fun _ h_ => h_.1))))) (below_size (below_later HB.out))); replace HO_6 := Aside0.mk (Kd.R_elder' (by (with_reducible repeat (first | apply Kd.R_alloc | apply Kd.R_drewN | apply Kd.R_drew)); exact (Kd.R_mono (Kd.R_far (p := ⟨gb149, 1, none⟩) (Kd.R_far (p := ⟨gb149, 0, none⟩) (Kd.R_types HO_6.out BK149.out (by decide)) (fun _ hk => hk.2) (.int .i64 ((rd_T46 l1 x8_1).f0))) (fun _ hk => hk.2) (.string ((rd_T46 l1 x8_1).f1))) (fun _ h_ => h_.1))) (Kd.R_base ho0) hb); replace HO_7 := Aside0.mk (Kd.R_below (by (with_reducible repeat (first | apply Kd.R_alloc | apply Kd.R_drewN | apply Kd.R_drew)); exact (Kd.R_mono (Kd.R_far (p := ⟨gb149, 1, none⟩) (Kd.R_far (p := ⟨gb149, 0, none⟩) (Kd.R_types HO_7.out BK149.out (by decide)) (fun _ hk => hk.2) (.int .i64 ((rd_T46 l1 x8_1).f0))) (fun _ hk => hk.2) (.string ((rd_T46 l1 x8_1).f1))) (fun _ h_ => h_.1))) hb); replace BK149 := Aside0.mk (blk_below (g := gb149) (o := .cells #[.int .i64 ((rd_T46 l1 x8_1).f0), .string ((rd_T46 l1 x8_1).f1)] 46 (0, 0)) (blk_later BK149.out) hb); replace HB := bst HB hb; (try clear hb); (try clear hk); (try clear ho0); obtain ⟨Ao24, co24, eo24⟩ := Kd.R_slice HO155.out; subst eo24) | ((with_reducible refine gate_builtin (b := .append) (xs := #[.tmp 42, .tmp 45]) rfl ?_); at_builtin; refine Kd.R_append_rows (Kd.int .u8) (w0 := w) w.heap.size rfl (.tmp 42) (.tmp 45) 24 5 (.int .u8 0) 1 rfl Try.underlying24 info5 rfl (by decide) (by omega) u6 x6_1 t153 _ _ _ (fun k_ => some k_ ≠ (.slice Ao24 t153.length co24 : Value).ownBlock) (fun _ => False) rfl rfl ?aO ?aR (fun _ _ h => h) (fun _ h => h.elim) ?aF ?aB ?aS ?aL ?_; (case aR => repeat (first | exact (Kd.R_reads' HO155.out).2.2 | (with_reducible refine Kd.C_alloc ?_ _) | (with_reducible refine Kd.C_drewN ?_ _) | (with_reducible refine Kd.C_drew ?_))); (case aB => exact (below_later HB.out)); (case aF => exact (fun k_ hk => Kd.fresh' (Kd.R_lt (R_later HO155.out)) k_ hk)); (case aO => exact (by (with_reducible repeat (first | apply Kd.R_alloc | apply Kd.R_drewN | apply Kd.R_drew)); exact Kd.R_mono HO_6.out (fun _ hk => hk.2))); (case aS => exact (below_size (below_later HB.out))); (case aL => have := LMc19.out; omega); intro v157 w23 ho hb hg hat; rw [← Ny156.out] at ho; have n0_ := Aside0.mk (Kd.R_over' (R_later HO_7.out) (Kd.R_typed (R_later HO_6.out)) (by decide) hg); have n1_ := Aside0.mk (blk_grown (blk_later BK149.out) hg (Kd.R_ne HO_6.out BK149.out (by decide))); have n2_ := Aside0.mk (Kd.R_after (ok := (fun _ => True)) (R_later HO155.out) hg hat); have n3_ := Aside0.mk (hb); have n4_ := Aside0.mk (ho); clear HO_7; clear BK149; clear HO155; clear HB; clear HO_6; have HO_7 := n0_; have BK149 := n1_; have HO155 := n2_; have HB := n3_; have HO158 := n4_; clear n0_ n1_ n2_ n3_ n4_; clear ho hb hg hat))
              go_roundg k1
              case measure => have := HK1.out; omega
              case rel => exact ⟨(y156), (x7_1), (wrap64 (x8_1 + 1)), sr, H', ⟨by have := HK1.out; omega⟩, ⟨R_later (Kd.R_mono HO158.out (fun _ hk => trivial))⟩, ⟨R_later HO_7.out⟩, ⟨below_later HB.out⟩⟩
            · rw [if_neg c17] at H
              have c17b0 : (a0 == 1) = false := beq_eq_false_iff_ne.mpr c17
              have c17b1 : (a0 != 1) = true := bne_iff_ne.mpr c17
              by_cases c25 : a0 = 6
              · rw [if_pos c25] at H
                have c25b0 : (a0 == 6) = true := beq_iff_eq.mpr c25
                have c25b1 : (a0 != 6) = false := bne_eq_false_iff_eq.mpr c25
                clear c25
                replace H := bnd H
                obtain ⟨t159, A26, H⟩ := H
                replace H := ifs H
                obtain ⟨c27, H⟩ := H
                have LMc27 := Aside0.mk c27
                clear c27
                replace H := bsm H
                obtain ⟨y162, Ny162, H⟩ := H
                replace H := ifs H
                obtain ⟨c28, H⟩ := H
                have LMc28 := Aside0.mk c28
                clear c28
                obtain ⟨y165, hy165⟩ : ∃ y_ : List Int, y_ = (y162 ++ bytesOf ((rd_T46 l1 x8_1).f1)) := ⟨_, rfl⟩
                replace H : (spec_PlainPack.l0 k1 a0 l1 y165 x7_1 (wrap64 (x8_1 + 1))) = some (r1, r2) := by first | (rw [hy165]; with_reducible exact H) | (rw [hy165]; exact H) | exact H
                have Ny165 := Aside0.mk hy165
                clear hy165
                have H' := Aside0.mk H
                clear H
                have p148 : 0 ≤ (x8_1 : Int) := dcd
                have q148 : x8_1 < (l1.length : Int) := dcd
                obtain ⟨ad148, e148, hx148_0, hx148_1⟩ := at_T46 HR1.out x8_1 p148 q148
                cases e148
                replace hx148_0 := crd HB hx148_0
                replace hx148_1 := crd HB hx148_1
                replace p148 := eq_true p148
                replace q148 := eq_true q148
                go_wp2_with (first | ((with_reducible refine gate_dst (N := 9) rfl ?_); refine bx_ 9 #[.int .i64 0, .string (⟨#[]⟩ : ByteArray)] 46 ?_; intro gb149 hg w29 hbox hb; have BK149 := Aside0.mk (hbox); have GW149 := gwe HB hg; have GE149 := GW149; replace HO_6 := Aside0.mk (Kd.R_below (R_later HO_6.out) hb); replace HO_7 := Aside0.mk (Kd.R_below (R_later HO_7.out) hb); replace HB := bst HB hb; clear hb hbox hg; obtain ⟨hcz30_0, hcz30_1, hfz30_0, hfz30_1⟩ := cl2 BK149) | ((with_reducible refine gate_callee (f := 19) rfl ?_); refine gl_ (some 53) Try.func19 #[.int .i64 (((rd_T46 l1 x8_1).f1).size : Int), .int .i64 4] rfl ?_; (with_reducible refine (spec_WordPut.calls k1 (((rd_T46 l1 x8_1).f1).size : Int) 4 t159 _ A26.out).mono ?_); rintro e w31 ⟨v160, rfl, ho0, hb⟩; refine ⟨_, rfl, ?_⟩; have HO161 := Aside0.mk (Kd.R_lower (Kd.R_new' ho0 (Kd.R_lt (by (with_reducible repeat (first | apply Kd.R_alloc | apply Kd.R_drewN | apply Kd.R_drew)); exact (Kd.R_mono (Kd.R_far (p := ⟨gb149, 1, none⟩) (Kd.R_far (p := ⟨gb149, 0, none⟩) (Kd.R_types HO_6.out BK149.out (by decide)) (fun _ hk => hk.2) (.int .i64 ((rd_T46 l1 x8_1).f0))) (fun _ hk => hk.2) (.string ((rd_T46 l1 x8_1).f1))) (fun _ h_ => h_.1))))) (below_size (below_later HB.out))); replace HO_6 := Aside0.mk (Kd.R_elder' (by (with_reducible repeat (first | apply Kd.R_alloc | apply Kd.R_drewN | apply Kd.R_drew)); exact (Kd.R_mono (Kd.R_far (p := ⟨gb149, 1, none⟩) (Kd.R_far (p := ⟨gb149, 0, none⟩) (Kd.R_types HO_6.out BK149.out (by decide)) (fun _ hk => hk.2) (.int .i64 ((rd_T46 l1 x8_1).f0))) (fun _ hk => hk.2) (.string ((rd_T46 l1 x8_1).f1))) (fun _ h_ => h_.1))) (Kd.R_base ho0) hb); replace HO_7 := Aside0.mk (Kd.R_below (by (with_reducible repeat (first | apply Kd.R_alloc | apply Kd.R_drewN | apply Kd.R_drew)); exact (Kd.R_mono (Kd.R_far (p := ⟨gb149, 1, none⟩) (Kd.R_far (p := ⟨gb149, 0, none⟩) (Kd.R_types HO_7.out BK149.out (by decide)) (fun _ hk => hk.2) (.int .i64 ((rd_T46 l1 x8_1).f0))) (fun _ hk => hk.2) (.string ((rd_T46 l1 x8_1).f1))) (fun _ h_ => h_.1))) hb); replace BK149 := Aside0.mk (blk_below (g := gb149) (o := .cells #[.int .i64 ((rd_T46 l1 x8_1).f0), .string ((rd_T46 l1 x8_1).f1)] 46 (0, 0)) (blk_later BK149.out) hb); replace HB := bst HB hb; (try clear hb); (try clear hk); (try clear ho0); obtain ⟨Ao33, co33, eo33⟩ := Kd.R_slice HO161.out; subst eo33) | ((with_reducible refine gate_builtin (b := .append) (xs := #[.tmp 49, .tmp 53]) rfl ?_); at_builtin; refine Kd.R_append_rows (Kd.int .u8) (w0 := w) w.heap.size rfl (.tmp 49) (.tmp 53) 24 5 (.int .u8 0) 1 rfl Try.underlying24 info5 rfl (by decide) (by omega) u6 x6_1 t159 _ _ _ (fun k_ => some k_ ≠ (.slice Ao33 t159.length co33 : Value).ownBlock) (fun _ => False) rfl rfl ?aO ?aR (fun _ _ h => h) (fun _ h => h.elim) ?aF ?aB ?aS ?aL ?_; (case aR => repeat (first | exact (Kd.R_reads' HO161.out).2.2 | (with_reducible refine Kd.C_alloc ?_ _) | (with_reducible refine Kd.C_drewN ?_ _) | (with_reducible refine Kd.C_drew ?_))); (case aB => exact (below_later HB.out)); (case aF => exact (fun k_ hk => Kd.fresh' (Kd.R_lt (R_later HO161.out)) k_ hk)); (case aO => exact (by (with_reducible repeat (first | apply Kd.R_alloc | apply Kd.R_drewN | apply Kd.R_drew)); exact Kd.R_mono HO_6.out (fun _ hk => hk.2))); (case aS => exact (below_size (below_later HB.out))); (case aL => have := LMc27.out; omega); intro v163 w32 ho hb hg hat; rw [← Ny162.out] at ho; have n0_ := Aside0.mk (Kd.R_over' (R_later HO_7.out) (Kd.R_typed (R_later HO_6.out)) (by decide) hg); have n1_ := Aside0.mk (blk_grown (blk_later BK149.out) hg (Kd.R_ne HO_6.out BK149.out (by decide))); have n2_ := Aside0.mk (Kd.R_after (ok := (fun _ => True)) (R_later HO161.out) hg hat); have n3_ := Aside0.mk (hb); have n4_ := Aside0.mk (ho); clear HO_7; clear BK149; clear HO161; clear HB; clear HO_6; have HO_7 := n0_; have BK149 := n1_; have HO161 := n2_; have HB := n3_; have HO164 := n4_; clear n0_ n1_ n2_ n3_ n4_; clear ho hb hg hat; obtain ⟨hcz34_0, hcz34_1, hfz34_0, hfz34_1⟩ := cl2 BK149) | ((with_reducible refine gate_dst (N := 58) rfl ?_); refine Go.Proofs.YtkocikdceojnmaaW.PrintMore2.conv_event rfl (N := 58) rfl 9 24 5 _ rfl Try.underlying9 Try.underlying24 Try.underlying5 ((rd_T46 l1 x8_1).f1) rfl ?_) | ((with_reducible refine gate_builtin (b := .append) (xs := #[.tmp 55, .tmp 58]) rfl ?_); at_builtin; refine Go.Proofs.YtkocikdceojnmaaW.PrintMore2.R_append_conv (w0 := w) w.heap.size rfl (.tmp 55) (.tmp 58) 24 5 rfl Try.underlying24 info5 v163 y162 ((rd_T46 l1 x8_1).f1) _ (fun k_ => some k_ ≠ (.slice Ao33 t159.length co33 : Value).ownBlock) rfl rfl ?aO ?aF ?aB ?aS ?aL ?_; (case aB => exact (below_later HB.out)); (case aF => exact (fun k_ hk => Kd.fresh' (Kd.R_lt (R_later HO161.out)) k_ hk)); (case aO => exact (R_later HO164.out)); (case aS => exact (below_size (below_later HB.out))); (case aL => have := LMc28.out; omega); intro v166 w35 ho hb hg hat; rw [← Ny165.out] at ho; have n0_ := Aside0.mk (Kd.R_over' (R_later HO_7.out) (Kd.R_typed (R_later HO164.out)) (by decide) hg); have n1_ := Aside0.mk (blk_grown (blk_later BK149.out) hg (Kd.R_ne HO164.out BK149.out (by decide))); have n2_ := Aside0.mk (Kd.R_after (ok := (fun _ => True)) (R_later HO161.out) hg hat); have n3_ := Aside0.mk (hb); have n4_ := Aside0.mk (ho); clear HO_7; clear BK149; clear HO161; clear HB; clear HO164; have HO_7 := n0_; have BK149 := n1_; have HO161 := n2_; have HB := n3_; have HO167 := n4_; clear n0_ n1_ n2_ n3_ n4_; clear ho hb hg hat))
                go_roundg k1
                case measure => have := HK1.out; omega
                case rel => exact ⟨(y165), (x7_1), (wrap64 (x8_1 + 1)), sr, H', ⟨by have := HK1.out; omega⟩, ⟨R_later (Kd.R_mono HO167.out (fun _ hk => trivial))⟩, ⟨R_later HO_7.out⟩, ⟨below_later HB.out⟩⟩
              · rw [if_neg c25] at H
                have c25b0 : (a0 == 6) = false := beq_eq_false_iff_ne.mpr c25
                have c25b1 : (a0 != 6) = true := bne_iff_ne.mpr c25
                replace H := bnd H
                obtain ⟨t168, A36, H⟩ := H
                replace H := ifs H
                obtain ⟨c37, H⟩ := H
                have LMc37 := Aside0.mk c37
                clear c37
                obtain ⟨y171, hy171⟩ : ∃ y_ : List Int, y_ = (x6_1 ++ t168) := ⟨_, rfl⟩
                replace H : (spec_PlainPack.l0 k1 a0 l1 y171 x7_1 (wrap64 (x8_1 + 1))) = some (r1, r2) := by first | (rw [hy171]; with_reducible exact H) | (rw [hy171]; exact H) | exact H
                have Ny171 := Aside0.mk hy171
                clear hy171
                have H' := Aside0.mk H
                clear H
                have p148 : 0 ≤ (x8_1 : Int) := dcd
                have q148 : x8_1 < (l1.length : Int) := dcd
                obtain ⟨ad148, e148, hx148_0, hx148_1⟩ := at_T46 HR1.out x8_1 p148 q148
                cases e148
                replace hx148_0 := crd HB hx148_0
                replace hx148_1 := crd HB hx148_1
                replace p148 := eq_true p148
                replace q148 := eq_true q148
                go_wp2_with (first | ((with_reducible refine gate_dst (N := 9) rfl ?_); refine bx_ 9 #[.int .i64 0, .string (⟨#[]⟩ : ByteArray)] 46 ?_; intro gb149 hg w38 hbox hb; have BK149 := Aside0.mk (hbox); have GW149 := gwe HB hg; have GE149 := GW149; replace HO_6 := Aside0.mk (Kd.R_below (R_later HO_6.out) hb); replace HO_7 := Aside0.mk (Kd.R_below (R_later HO_7.out) hb); replace HB := bst HB hb; clear hb hbox hg; obtain ⟨hcz39_0, hcz39_1, hfz39_0, hfz39_1⟩ := cl2 BK149) | ((with_reducible refine gate_callee (f := 19) rfl ?_); refine gl_ (some 31) Try.func19 #[.int .i64 ((rd_T46 l1 x8_1).f0), .int .i64 8] rfl ?_; (with_reducible refine (spec_WordPut.calls k1 ((rd_T46 l1 x8_1).f0) 8 t168 _ A36.out).mono ?_); rintro e w40 ⟨v169, rfl, ho0, hb⟩; refine ⟨_, rfl, ?_⟩; have HO170 := Aside0.mk (Kd.R_lower (Kd.R_new' ho0 (Kd.R_lt (by (with_reducible repeat (first | apply Kd.R_alloc | apply Kd.R_drewN | apply Kd.R_drew)); exact (Kd.R_mono (Kd.R_far (p := ⟨gb149, 1, none⟩) (Kd.R_far (p := ⟨gb149, 0, none⟩) (Kd.R_types HO_6.out BK149.out (by decide)) (fun _ hk => hk.2) (.int .i64 ((rd_T46 l1 x8_1).f0))) (fun _ hk => hk.2) (.string ((rd_T46 l1 x8_1).f1))) (fun _ h_ => h_.1))))) (below_size (below_later HB.out))); replace HO_6 := Aside0.mk (Kd.R_elder' (by (with_reducible repeat (first | apply Kd.R_alloc | apply Kd.R_drewN | apply Kd.R_drew)); exact (Kd.R_mono (Kd.R_far (p := ⟨gb149, 1, none⟩) (Kd.R_far (p := ⟨gb149, 0, none⟩) (Kd.R_types HO_6.out BK149.out (by decide)) (fun _ hk => hk.2) (.int .i64 ((rd_T46 l1 x8_1).f0))) (fun _ hk => hk.2) (.string ((rd_T46 l1 x8_1).f1))) (fun _ h_ => h_.1))) (Kd.R_base ho0) hb); replace HO_7 := Aside0.mk (Kd.R_below (by (with_reducible repeat (first | apply Kd.R_alloc | apply Kd.R_drewN | apply Kd.R_drew)); exact (Kd.R_mono (Kd.R_far (p := ⟨gb149, 1, none⟩) (Kd.R_far (p := ⟨gb149, 0, none⟩) (Kd.R_types HO_7.out BK149.out (by decide)) (fun _ hk => hk.2) (.int .i64 ((rd_T46 l1 x8_1).f0))) (fun _ hk => hk.2) (.string ((rd_T46 l1 x8_1).f1))) (fun _ h_ => h_.1))) hb); replace BK149 := Aside0.mk (blk_below (g := gb149) (o := .cells #[.int .i64 ((rd_T46 l1 x8_1).f0), .string ((rd_T46 l1 x8_1).f1)] 46 (0, 0)) (blk_later BK149.out) hb); replace HB := bst HB hb; (try clear hb); (try clear hk); (try clear ho0); obtain ⟨Ao42, co42, eo42⟩ := Kd.R_slice HO170.out; subst eo42) | ((with_reducible refine gate_builtin (b := .append) (xs := #[.tmp 28, .tmp 31]) rfl ?_); at_builtin; refine Kd.R_append_rows (Kd.int .u8) (w0 := w) w.heap.size rfl (.tmp 28) (.tmp 31) 24 5 (.int .u8 0) 1 rfl Try.underlying24 info5 rfl (by decide) (by omega) u6 x6_1 t168 _ _ _ (fun k_ => some k_ ≠ (.slice Ao42 t168.length co42 : Value).ownBlock) (fun _ => False) rfl rfl ?aO ?aR (fun _ _ h => h) (fun _ h => h.elim) ?aF ?aB ?aS ?aL ?_; (case aR => repeat (first | exact (Kd.R_reads' HO170.out).2.2 | (with_reducible refine Kd.C_alloc ?_ _) | (with_reducible refine Kd.C_drewN ?_ _) | (with_reducible refine Kd.C_drew ?_))); (case aB => exact (below_later HB.out)); (case aF => exact (fun k_ hk => Kd.fresh' (Kd.R_lt (R_later HO170.out)) k_ hk)); (case aO => exact (by (with_reducible repeat (first | apply Kd.R_alloc | apply Kd.R_drewN | apply Kd.R_drew)); exact Kd.R_mono HO_6.out (fun _ hk => hk.2))); (case aS => exact (below_size (below_later HB.out))); (case aL => have := LMc37.out; omega); intro v172 w41 ho hb hg hat; rw [← Ny171.out] at ho; have n0_ := Aside0.mk (Kd.R_over' (R_later HO_7.out) (Kd.R_typed (R_later HO_6.out)) (by decide) hg); have n1_ := Aside0.mk (blk_grown (blk_later BK149.out) hg (Kd.R_ne HO_6.out BK149.out (by decide))); have n2_ := Aside0.mk (Kd.R_after (ok := (fun _ => True)) (R_later HO170.out) hg hat); have n3_ := Aside0.mk (hb); have n4_ := Aside0.mk (ho); clear HO_7; clear BK149; clear HO170; clear HB; clear HO_6; have HO_7 := n0_; have BK149 := n1_; have HO170 := n2_; have HB := n3_; have HO173 := n4_; clear n0_ n1_ n2_ n3_ n4_; clear ho hb hg hat))
                go_roundg k1
                case measure => have := HK1.out; omega
                case rel => exact ⟨(y171), (x7_1), (wrap64 (x8_1 + 1)), sr, H', ⟨by have := HK1.out; omega⟩, ⟨R_later (Kd.R_mono HO173.out (fun _ hk => trivial))⟩, ⟨R_later HO_7.out⟩, ⟨below_later HB.out⟩⟩
        · rw [if_neg c10] at H
          have c10b0 := decide_eq_false c10
          clear c10
          by_cases c43 : a0 = 0
          · rw [if_pos c43] at H
            have c43b0 : (a0 == 0) = true := beq_iff_eq.mpr c43
            have c43b1 : (a0 != 0) = false := bne_eq_false_iff_eq.mpr c43
            clear c43
            replace H := Option.bind_eq_some_iff.mp H
            obtain ⟨⟨t144, t145⟩, A440, H⟩ := H
            replace H : (some (t144, t145)) = some (r1, r2) := H
            have A44 := Aside0.mk A440
            clear A440
            simp only [Option.some.injEq, Prod.mk.injEq] at H
            obtain ⟨rfl, rfl⟩ := H
            obtain ⟨Ao45, co45, eo45⟩ := Kd.R_slice HO_7.out
            subst eo45
            go_wp2_with (first | ((with_reducible refine gate_callee (f := 42) rfl ?_); refine gl_ (some 63) Try.func42 #[.slice Ao45 x7_1.length co45, .int .i64 1] rfl ?_; (with_reducible refine (spec_BitsPack.calls k1 _ _ x7_1 1 t144 t145 _ ?side1 ?side2 A44.out).mono ?_); (case side1 => repeat (first | exact (Kd.R_reads' HO_7.out).2.2 | (with_reducible refine Kd.C_alloc ?_ _) | (with_reducible refine Kd.C_drewN ?_ _) | (with_reducible refine Kd.C_drew ?_))); (case side2 => exact (Kd.R_reads' HO_7.out).2.1); rintro e w46 ⟨v146, rfl, ho0, hb⟩; refine ⟨_, rfl, ?_⟩; have HO147 := Aside0.mk (Kd.R_lower (Kd.R_new' ho0 (Kd.R_lt (R_later HO_6.out))) (below_size (below_later HB.out))); replace HO_6 := Aside0.mk (Kd.R_elder' (R_later HO_6.out) (Kd.R_base ho0) hb); replace HO_7 := Aside0.mk (Kd.R_below (R_later HO_7.out) hb); replace HB := bst HB hb; (try clear hb); (try clear ho0)))
            go_ret2
            exact ⟨_, by first | rfl | (simp [errW_none, errW_some] <;> rfl) | (simp [*, errW_none, errW_some] <;> rfl), by (with_reducible repeat (first | apply Kd.R_alloc | apply Kd.R_drewN | apply Kd.R_drew)); exact Kd.R_mono HO147.out (fun _ hk => trivial), below_later HB.out⟩
          · rw [if_neg c43] at H
            have c43b0 : (a0 == 0) = false := beq_eq_false_iff_ne.mpr c43
            have c43b1 : (a0 != 0) = true := bne_iff_ne.mpr c43
            simp only [Option.some.injEq, Prod.mk.injEq] at H
            obtain ⟨rfl, rfl⟩ := H
            go_wp2
            go_ret2
            exact ⟨_, by first | rfl | (simp [errW_none, errW_some] <;> rfl) | (simp [*, errW_none, errW_some] <;> rfl), by (with_reducible repeat (first | apply Kd.R_alloc | apply Kd.R_drewN | apply Kd.R_drew)); exact HO_6.out, below_later HB.out⟩
  · replace c4 := Bool.eq_false_iff.mpr c4
    subst c4
    replace H := ifn Bool.false_ne_true H
    simp only [Option.some.injEq, Prod.mk.injEq] at H
    obtain ⟨rfl, rfl⟩ := H
    go_enter Try.func16, Try.ntmps16
    go_wp2_with (first | ((with_reducible refine gate_dst (N := 10) rfl ?_); refine Kd.R_lit (Kd.int .u8) _ 5 ?hg (N := 10) ?hd (xs := ([] : List Int)) (inner := []) (ok := fun _ => True) (okp := fun _ => True) ?hr ?hp (fun _ hk => hk) trivial (Below.refl _ _) (Nat.le_refl _) (by simp) ?_; (case hd => rfl); (case hg => rfl); (case hr => first | (go_simp; done) | (go_simp; rfl)); (case hp => exact (Reps.none _ _)); intro v138 w47 ho48 hb hg_ hnew_; clear hg_ hnew_; (first | rw [← Ny137.out] at ho48 | (simp only [Int.reduceToNat] at ho48; rw [← Ny137.out] at ho48)); have HO139 := Aside0.mk (Kd.R_lower ho48 (below_size (below_later HB.out))); replace HB := bst HB hb; clear hb ho48) | ((with_reducible refine gate_callee (f := 15) rfl ?_); refine gl_ (some 13) Try.func15 #[.int .i64 a0, .slice A1 l1.length c1] rfl ?_; (with_reducible refine (spec_l6Vals.calls k a0 _ _ l1 false _ ?side1 ?side2 A3.out).mono ?_); (case side1 => repeat (first | exact (Kd.C_below HR1.out HB.out) | (with_reducible refine Kd.C_alloc ?_ _) | (with_reducible refine Kd.C_drewN ?_ _) | (with_reducible refine Kd.C_drew ?_))); (case side2 => exact HC1.out); rintro e w49 ⟨rfl, hb⟩; refine ⟨_, rfl, ?_⟩; replace HO139 := Aside0.mk (Kd.R_below (R_later HO139.out) hb); replace HB := bst HB hb; (try clear hb); (try clear hk)))
    go_ret2
    exact ⟨_, by first | rfl | (simp [errW_none, errW_some] <;> rfl) | (simp [*, errW_none, errW_some] <;> rfl), by (with_reducible repeat (first | apply Kd.R_alloc | apply Kd.R_drewN | apply Kd.R_drew)); exact HO139.out, below_later HB.out⟩

/-! ### spec_l8Width: function 43 -/
def spec_l8Width.f (a0 : Int) : Option (Bool) := (spec_l1In.f a0 0 24).bind fun t174 => (some t174)
set_option maxHeartbeats 8000000 in
set_option maxRecDepth 100000 in
theorem spec_l8Width.calls (a0 : Int) (r : Bool) (w : World) (h : spec_l8Width.f a0 = some r) :
    Calls Try.prog 43 #[.int .i64 a0] w fun e w' => e = .returned (.bool r) ∧ Drawn0 w w' := by
  have H : ((spec_l1In.f a0 0 24).bind fun t174 => (some t174)) = some r := h
  clear h
  replace H := bnd H
  obtain ⟨t174, A2, H⟩ := H
  obtain rfl := Option.some.inj H
  go_enter Try.func43, Try.ntmps43
  go_wp2_with (first | ((with_reducible refine gate_callee (f := 48) rfl ?_); refine gl_ (some 4) Try.func48 #[.int .i64 a0, .int .i64 0, .int .i64 24] rfl ?_; (with_reducible refine (spec_l1In.calls a0 0 24 t174 _ A2.out).mono ?_); rintro e w' ⟨rfl, ⟨nd, rfl⟩⟩; refine ⟨_, rfl, ?_⟩))
  go_ret
  exact ⟨by first | rfl | (simp; done) | (simp [*]; done), by repeat (first | exact Drawn0.refl _ | apply Drawn0.step)⟩

/-! ### spec_l8Alike: function 44 -/
def spec_l8Alike.l0 : Nat → List Int → Int → Int → Option (Int)
  | 0, _, _, _ => none
  | k + 1, x0, x1, x5 => if (wrap64 (x1 + x5)) < (x0.length : Int) then (if 0 ≤ (wrap64 (x1 + x5)) then (if 0 ≤ x1 then (if x1 < (x0.length : Int) then (if (rd x0 (wrap64 (x1 + x5))) = (rd x0 x1) then (spec_l8Alike.l0 k x0 x1 (wrap64 (x5 + 1))) else (some x5)) else (none)) else (none)) else (none)) else (some x5)
def spec_l8Alike.f (k : Nat) (l0 : List Int) (a1 : Int) : Option (Int) := spec_l8Alike.l0 k l0 a1 0
set_option maxHeartbeats 8000000 in
set_option maxRecDepth 100000 in
theorem spec_l8Alike.calls (k : Nat) (A0 : Option Addr) (c0 : Nat) (l0 : List Int) (a1 : Int) (r : Int) (w : World) (hr0 : Kd.C (Kd.int .i64) w A0 l0.length l0) (hc0 : l0.length ≤ c0) (h : spec_l8Alike.f k l0 a1 = some r) :
    Calls Try.prog 44 #[.slice A0 l0.length c0, .int .i64 a1] w fun e w' => e = .returned (.int .i64 r) ∧ Drawn0 w w' := by
  have HR0 := Aside0.mk hr0
  have HC0 := Aside0.mk hc0
  clear hr0 hc0
  have H : (spec_l8Alike.l0 k l0 a1 0) = some r := h
  clear h
  have H' := Aside0.mk H
  clear H
  go_enter Try.func44, Try.ntmps44
  go_wp2
  repeat (go_quiet (fail); try go_wp2)
  go_loopg [5] k (fun kq v5 w' => ∃ (x5_1 : Int), v5 = .int .i64 x5_1 ∧ Aside0 (spec_l8Alike.l0 kq l0 a1 x5_1 = some r) ∧ Aside0 (kq ≤ k) ∧ Drawn0 w w')
  case atStart => exact ⟨(0), sr, H', ⟨Nat.le_refl _⟩, by repeat (first | exact Drawn0.refl _ | apply Drawn0.step)⟩
  case round =>
    clear H'
    obtain ⟨x5_1, rfl, HA, HK1, ⟨m1, rfl⟩⟩ := hrel
    cases gk with
    | zero => exact absurd HA.out (by simp [spec_l8Alike.l0])
    | succ k1 =>
      have H := HA.out
      clear HA
      simp only [spec_l8Alike.l0] at H
      by_cases c3 : (wrap64 (a1 + x5_1)) < (l0.length : Int)
      · rw [if_pos c3] at H
        have c3b0 := decide_eq_true c3
        clear c3
        obtain ⟨ji4, hji4⟩ : ∃ j_ : Int, (wrap64 (a1 + x5_1)) = j_ := ⟨_, rfl⟩
        replace H : (if 0 ≤ (ji4) then (if 0 ≤ a1 then (if a1 < (l0.length : Int) then (if (rd l0 (ji4)) = (rd l0 a1) then (spec_l8Alike.l0 k1 l0 a1 (wrap64 (x5_1 + 1))) else (some x5_1)) else (none)) else (none)) else (none)) = some r := by first | (rw [hji4] at H; exact H) | (simp only [hji4] at H ⊢; exact H)
        (try rw [hji4] at c3b0)
        have hji4w : (IntKind.i64.wrap (a1 + x5_1)) = ji4 := (i64_w _).trans hji4
        replace H := ifd H
        obtain ⟨c5b0, H⟩ := H
        replace H := ifd H
        obtain ⟨c6b0, H⟩ := H
        replace H := ifd H
        obtain ⟨c7b0, H⟩ := H
        by_cases c8 : (rd l0 (ji4)) = (rd l0 a1)
        · rw [if_pos c8] at H
          have c8b0 : ((rd l0 (ji4)) == (rd l0 a1)) = true := beq_iff_eq.mpr c8
          have c8b1 : ((rd l0 (ji4)) != (rd l0 a1)) = false := bne_eq_false_iff_eq.mpr c8
          clear c8
          have H' := Aside0.mk H
          clear H
          have p175 : 0 ≤ ((ji4) : Int) := dcd
          have q175 : (ji4) < (l0.length : Int) := dcd
          obtain ⟨ad175, e175, hx175_0⟩ := Kd.at_int HR0.out (ji4) p175 q175
          cases e175
          replace p175 := eq_true p175
          replace q175 := eq_true q175
          have p176 : 0 ≤ (a1 : Int) := dcd
          have q176 : a1 < (l0.length : Int) := dcd
          obtain ⟨ad176, e176, hx176_0⟩ := Kd.at_int HR0.out a1 p176 q176
          obtain rfl : ad175 = ad176 := (by injection e176)
          replace p176 := eq_true p176
          replace q176 := eq_true q176
          go_wp2
          repeat (go_quiet (fail); try go_wp2)
          go_roundg k1
          case measure => have := HK1.out; omega
          case rel => exact ⟨(wrap64 (x5_1 + 1)), sr, H', ⟨by have := HK1.out; omega⟩, by repeat (first | exact Drawn0.refl _ | apply Drawn0.step)⟩
        · rw [if_neg c8] at H
          have c8b0 : ((rd l0 (ji4)) == (rd l0 a1)) = false := beq_eq_false_iff_ne.mpr c8
          have c8b1 : ((rd l0 (ji4)) != (rd l0 a1)) = true := bne_iff_ne.mpr c8
          obtain rfl := Option.some.inj H
          have p175 : 0 ≤ ((ji4) : Int) := dcd
          have q175 : (ji4) < (l0.length : Int) := dcd
          obtain ⟨ad175, e175, hx175_0⟩ := Kd.at_int HR0.out (ji4) p175 q175
          cases e175
          replace p175 := eq_true p175
          replace q175 := eq_true q175
          have p176 : 0 ≤ (a1 : Int) := dcd
          have q176 : a1 < (l0.length : Int) := dcd
          obtain ⟨ad176, e176, hx176_0⟩ := Kd.at_int HR0.out a1 p176 q176
          obtain rfl : ad175 = ad176 := (by injection e176)
          replace p176 := eq_true p176
          replace q176 := eq_true q176
          go_wp2
          repeat (go_quiet (fail); try go_wp2)
          go_ret
          exact ⟨by first | rfl | (simp; done) | (simp only [← hji4] <;> (first | rfl | simp)) | (simp [*]; done), by repeat (first | exact Drawn0.refl _ | apply Drawn0.step)⟩
      · rw [if_neg c3] at H
        have c3b0 := decide_eq_false c3
        clear c3
        obtain rfl := Option.some.inj H
        go_wp2
        repeat (go_quiet (fail); try go_wp2)
        go_ret
        exact ⟨by first | rfl | (simp; done) | (simp [*]; done), by repeat (first | exact Drawn0.refl _ | apply Drawn0.step)⟩

/-! ### spec_l2Down: function 75 -/
def spec_l2Down.f (a0 : Int) (a1 : Int) : Option (Int) := if a1 = 0 then (some a0) else (if 0 ≤ a1 then (if 0 ≤ (wrap64 (64 - a1)) then (some (Go.bits .and .i64 (shr .i64 a0 a1) (wrap64 ((shl .i64 1 (wrap64 (64 - a1))) - 1)))) else (none)) else (none))
set_option maxHeartbeats 8000000 in
set_option maxRecDepth 100000 in
theorem spec_l2Down.calls (a0 : Int) (a1 : Int) (r : Int) (w : World) (h : spec_l2Down.f a0 a1 = some r) :
    Calls Try.prog 75 #[.int .i64 a0, .int .i64 a1] w fun e w' => e = .returned (.int .i64 r) ∧ Drawn0 w w' := by
  have H : (if a1 = 0 then (some a0) else (if 0 ≤ a1 then (if 0 ≤ (wrap64 (64 - a1)) then (some (Go.bits .and .i64 (shr .i64 a0 a1) (wrap64 ((shl .i64 1 (wrap64 (64 - a1))) - 1)))) else (none)) else (none))) = some r := h
  clear h
  by_cases c3 : a1 = 0
  · rw [if_pos c3] at H
    have c3b0 : (a1 == 0) = true := beq_iff_eq.mpr c3
    have c3b1 : (a1 != 0) = false := bne_eq_false_iff_eq.mpr c3
    clear c3
    obtain rfl := Option.some.inj H
    go_enter Try.func75, Try.ntmps75
    go_wp2
    repeat (go_quiet (fail); try go_wp2)
    go_ret
    exact ⟨by first | rfl | (simp; done) | (simp [*]; done), by repeat (first | exact Drawn0.refl _ | apply Drawn0.step)⟩
  · rw [if_neg c3] at H
    have c3b0 : (a1 == 0) = false := beq_eq_false_iff_ne.mpr c3
    have c3b1 : (a1 != 0) = true := bne_iff_ne.mpr c3
    replace H := ifs H
    obtain ⟨c4, H⟩ := H
    have c4b0 := eq_true c4
    have c4b1 := decide_eq_true c4
    clear c4
    obtain ⟨ji5, hji5⟩ : ∃ j_ : Int, (shr .i64 a0 a1) = j_ := ⟨_, rfl⟩
    replace H : (if 0 ≤ (wrap64 (64 - a1)) then (some (Go.bits .and .i64 (ji5) (wrap64 ((shl .i64 1 (wrap64 (64 - a1))) - 1)))) else (none)) = some r := by first | (rw [hji5] at H; exact H) | (simp only [hji5] at H ⊢; exact H)
    have hji5_ : (a0 / 2 ^ min a1.toNat 64) = ji5 := hji5
    have hji5z : a1 ≤ 64 → (a0 / 2 ^ a1.toNat) = ji5 := shr_small hji5
    obtain ⟨ji6, hji6⟩ : ∃ j_ : Int, (wrap64 (64 - a1)) = j_ := ⟨_, rfl⟩
    replace H : (if 0 ≤ (ji6) then (some (Go.bits .and .i64 (ji5) (wrap64 ((shl .i64 1 (ji6)) - 1)))) else (none)) = some r := by first | (rw [hji6] at H; exact H) | (simp only [hji6] at H ⊢; exact H)
    have hji6w : (IntKind.i64.wrap (64 - a1)) = ji6 := (i64_w _).trans hji6
    replace H := ifs H
    obtain ⟨c7, H⟩ := H
    have c7b0 := eq_true c7
    have c7b1 := decide_eq_true c7
    clear c7
    obtain ⟨ji8, hji8⟩ : ∃ j_ : Int, (shl .i64 1 (ji6)) = j_ := ⟨_, rfl⟩
    replace H : (some (Go.bits .and .i64 (ji5) (wrap64 ((ji8) - 1)))) = some r := by first | (rw [hji8] at H; exact H) | (simp only [hji8] at H ⊢; exact H)
    have hji8_ : (IntKind.i64.wrap (1 * 2 ^ min (ji6).toNat 64)) = ji8 := hji8
    have hji8z : (ji6) ≤ 64 → (IntKind.i64.wrap (1 * 2 ^ (ji6).toNat)) = ji8 := shl_small hji8
    have hji8u : (IntKind.i64.wrap (2 ^ min (ji6).toNat 64)) = ji8 := by have h_ := hji8_; rw [Int.one_mul] at h_; exact h_
    have hji8v : (ji6) ≤ 64 → (IntKind.i64.wrap (2 ^ (ji6).toNat)) = ji8 := fun hle_ => by have h_ := hji8z hle_; rw [Int.one_mul] at h_; exact h_
    have hji8y : (wrap64 (1 * 2 ^ min (ji6).toNat 64)) = ji8 := (i64_w _).symm.trans hji8_
    have hji8x : (ji6) ≤ 64 → (wrap64 (1 * 2 ^ (ji6).toNat)) = ji8 := fun h_ => (i64_w _).symm.trans (hji8z h_)
    obtain rfl := Option.some.inj H
    go_enter Try.func75, Try.ntmps75
    go_wp2
    repeat (go_quiet (fail); try go_wp2)
    go_ret
    exact ⟨by first | rfl | (simp; done) | (simp only [← hji5, ← hji6, ← hji8] <;> (first | rfl | simp)) | (simp [*]; done), by repeat (first | exact Drawn0.refl _ | apply Drawn0.step)⟩
/-! ### spec_UvarPut: function 45 -/
def spec_UvarPut.l0 : Nat → Int → List Int → Option (List Int)
  | 0, _, _ => none
  | k + 1, x0, x3 => (spec_l2Down.f x0 7).bind fun t180 => (if t180 = 0 then (if x3.length < 140737488355328 then (some (x3 ++ [(x0) % 256])) else (none)) else (if x3.length < 140737488355328 then ((spec_l2Down.f x0 7).bind fun t187 => (spec_UvarPut.l0 k t187 (x3 ++ [(wrap64 ((Go.bits .and .i64 x0 127) + 128)) % 256]))) else (none)))
def spec_UvarPut.f (k : Nat) (a0 : Int) : Option (List Int) := spec_UvarPut.l0 k a0 (([] : List Int))
set_option maxHeartbeats 8000000 in
set_option maxRecDepth 100000 in
theorem spec_UvarPut.calls (k : Nat) (a0 : Int) (r : List Int) (w : World) (h : spec_UvarPut.f k a0 = some r) :
    Calls Try.prog 45 #[.int .i64 a0] w fun e w' => ∃ v0_ : Value, e = .returned (v0_) ∧ Kd.R (Kd.int .u8) 5 w' w.heap.size (fun _ => True) v0_ r ∧ Below w.heap.size w w' := by
  have HB := Aside0.mk (Below.refl w.heap.size w)
  have H : (spec_UvarPut.l0 k a0 (([] : List Int))) = some r := h
  clear h
  obtain ⟨y177, hy177⟩ : ∃ y_ : List Int, y_ = (([] : List Int)) := ⟨_, rfl⟩
  replace H : (spec_UvarPut.l0 k a0 y177) = some r := by first | (rw [hy177]; with_reducible exact H) | (rw [hy177]; exact H) | exact H
  have Ny177 := Aside0.mk hy177
  clear hy177
  have H' := Aside0.mk H
  clear H
  go_enter Try.func45, Try.ntmps45
  go_wp2_with (first | ((with_reducible refine gate_dst (N := 4) rfl ?_); refine Kd.R_lit (Kd.int .u8) _ 5 ?hg (N := 4) ?hd (xs := ([] : List Int)) (inner := []) (ok := fun _ => True) (okp := fun _ => True) ?hr ?hp (fun _ hk => hk) trivial (Below.refl _ _) (Nat.le_refl _) (by simp) ?_; (case hd => rfl); (case hg => rfl); (case hr => first | (go_simp; done) | (go_simp; rfl)); (case hp => exact (Reps.none _ _)); intro v178 w2 ho3 hb hg_ hnew_; clear hg_ hnew_; (first | rw [← Ny177.out] at ho3 | (simp only [Int.reduceToNat] at ho3; rw [← Ny177.out] at ho3)); have HO179 := Aside0.mk (Kd.R_lower ho3 (below_size (below_later HB.out))); replace HB := bst HB hb; clear hb ho3))
  go_loopg [0, 3] k (fun kq v0 v3 w' => ∃ (x0_1 : Int) (x3_1 : List Int), v0 = .int .i64 x0_1 ∧ Aside0 (spec_UvarPut.l0 kq x0_1 x3_1 = some r) ∧ Aside0 (kq ≤ k) ∧ Aside0 (Kd.R (Kd.int .u8) 5 w' w.heap.size (fun _ => True) v3 x3_1) ∧ Aside0 (Below w.heap.size w w'))
  case atStart => exact ⟨(a0), (y177), sr, H', ⟨Nat.le_refl _⟩, ⟨R_later HO179.out⟩, ⟨below_later HB.out⟩⟩
  case round =>
    clear H'
    obtain ⟨x0_1, x3_1, rfl, HA, HK1, HO_3, HB⟩ := hrel
    cases gk with
    | zero => exact absurd HA.out (by simp [spec_UvarPut.l0])
    | succ k1 =>
      have H := HA.out
      clear HA
      simp only [spec_UvarPut.l0] at H
      replace H := bnd H
      obtain ⟨t180, A4, H⟩ := H
      by_cases c5 : t180 = 0
      · rw [if_pos c5] at H
        have c5b0 : (t180 == 0) = true := beq_iff_eq.mpr c5
        have c5b1 : (t180 != 0) = false := bne_eq_false_iff_eq.mpr c5
        clear c5
        replace H := ifs H
        obtain ⟨c6, H⟩ := H
        have LMc6 := Aside0.mk c6
        clear c6
        obtain ⟨y181, hy181⟩ : ∃ y_ : List Int, y_ = (x3_1 ++ [(x0_1) % 256]) := ⟨_, rfl⟩
        replace H : (some y181) = some r := by first | (rw [hy181]; with_reducible exact H) | (rw [hy181]; exact H) | exact H
        have Ny181 := Aside0.mk hy181
        clear hy181
        obtain rfl := Option.some.inj H
        go_wp2_with (first | ((with_reducible refine gate_callee (f := 75) rfl ?_); refine gl_ (some 6) Try.func75 #[.int .i64 x0_1, .int .i64 7] rfl ?_; (with_reducible refine (spec_l2Down.calls x0_1 7 t180 _ A4.out).mono ?_); rintro e w' ⟨rfl, ⟨nd, rfl⟩⟩; refine ⟨_, rfl, ?_⟩) | ((with_reducible refine gate_builtin (b := .append) (xs := #[.tmp 17, .tmp 20]) rfl ?_); at_builtin; refine Kd.R_append (Kd.int .u8) (w0 := w) w.heap.size rfl (.tmp 17) (.tmp 20) 24 5 (.int .u8 0) 1 rfl Try.underlying24 info5 rfl (by decide) (by omega) u3 x3_1 ((x0_1) % 256) [.int .u8 ((x0_1) % 256)] (fun _ => True) (fun _ => False) rfl rfl ?aP (fun _ hk => hk.elim) ?aF ?aO ?aB ?aS ?aL ?_; (case aP => exact rfl); (case aB => exact (below_later HB.out)); (case aF => exact (fun _ _ => trivial)); (case aO => exact (R_later HO_3.out)); (case aS => exact (below_size (below_later HB.out))); (case aL => have := LMc6.out; omega); intro v182 w7 ho hb hg hat; rw [← Ny181.out] at ho; have n0_ := Aside0.mk (hb); have n1_ := Aside0.mk (ho); clear HB; clear HO_3; have HB := n0_; have HO183 := n1_; clear n0_ n1_; clear ho hb hg hat))
        go_ret
        exact ⟨_, by first | rfl | (simp [errW_none, errW_some] <;> rfl) | (simp [*, errW_none, errW_some] <;> rfl), by (with_reducible repeat (first | apply Kd.R_alloc | apply Kd.R_drewN | apply Kd.R_drew)); exact HO183.out, below_later HB.out⟩
      · rw [if_neg c5] at H
        have c5b0 : (t180 == 0) = false := beq_eq_false_iff_ne.mpr c5
        have c5b1 : (t180 != 0) = true := bne_iff_ne.mpr c5
        replace H := ifs H
        obtain ⟨c8, H⟩ := H
        have LMc8 := Aside0.mk c8
        clear c8
        obtain ⟨y184, hy184⟩ : ∃ y_ : List Int, y_ = (x3_1 ++ [(wrap64 ((Go.bits .and .i64 x0_1 127) + 128)) % 256]) := ⟨_, rfl⟩
        replace H : ((spec_l2Down.f x0_1 7).bind fun t187 => (spec_UvarPut.l0 k1 t187 y184)) = some r := by first | (rw [hy184]; with_reducible exact H) | (rw [hy184]; exact H) | exact H
        have Ny184 := Aside0.mk hy184
        clear hy184
        replace H := bnd H
        obtain ⟨t187, A9, H⟩ := H
        have H' := Aside0.mk H
        clear H
        go_wp2_with (first | ((with_reducible refine gate_callee (f := 75) rfl ?_); refine gl_ (some 6) Try.func75 #[.int .i64 x0_1, .int .i64 7] rfl ?_; (with_reducible refine (spec_l2Down.calls x0_1 7 t180 _ A4.out).mono ?_); rintro e w' ⟨rfl, ⟨nd, rfl⟩⟩; refine ⟨_, rfl, ?_⟩) | ((with_reducible refine gate_builtin (b := .append) (xs := #[.tmp 8, .tmp 13]) rfl ?_); at_builtin; refine Kd.R_append (Kd.int .u8) (w0 := w) w.heap.size rfl (.tmp 8) (.tmp 13) 24 5 (.int .u8 0) 1 rfl Try.underlying24 info5 rfl (by decide) (by omega) u3 x3_1 ((wrap64 ((Go.bits .and .i64 x0_1 127) + 128)) % 256) [.int .u8 ((wrap64 ((Go.bits .and .i64 x0_1 127) + 128)) % 256)] (fun _ => True) (fun _ => False) rfl rfl ?aP (fun _ hk => hk.elim) ?aF ?aO ?aB ?aS ?aL ?_; (case aP => exact rfl); (case aB => exact (below_later HB.out)); (case aF => exact (fun _ _ => trivial)); (case aO => exact (R_later HO_3.out)); (case aS => exact (below_size (below_later HB.out))); (case aL => have := LMc8.out; omega); intro v185 w10 ho hb hg hat; rw [← Ny184.out] at ho; have n0_ := Aside0.mk (hb); have n1_ := Aside0.mk (ho); clear HB; clear HO_3; have HB := n0_; have HO186 := n1_; clear n0_ n1_; clear ho hb hg hat) | ((with_reducible refine gate_callee (f := 75) rfl ?_); refine gl_ (some 16) Try.func75 #[.int .i64 x0_1, .int .i64 7] rfl ?_; (with_reducible refine (spec_l2Down.calls x0_1 7 t187 _ A9.out).mono ?_); rintro e w' ⟨rfl, ⟨nd, rfl⟩⟩; refine ⟨_, rfl, ?_⟩))
        go_roundg k1
        case measure => have := HK1.out; omega
        case rel => exact ⟨(t187), (y184), sr, H', ⟨by have := HK1.out; omega⟩, ⟨R_later HO186.out⟩, ⟨below_later HB.out⟩⟩
end Go.Proofs.Ytkocikdceojnmaa.PFnExactEncPack
