/- The machine's side of FnExactDictPack, written by wip/tools/hyb.py of this repo: each Go function as a plain Lean function, and the proof that the call comes to just its answer. No condition. -/
import Derived.Test.YtgiljoeekpfpmaaPFnExactDictPackx0
import Derived.Test.YtgiljoeekpfpmaaPFnExactDictPackx1
namespace Go.Proofs.Ytgiljoeekpfpmaa.PFnExactDictPack
open Go.RowKit Go.Proofs.YtgiljoeekpfpmaaW.PrintWords Go.Proofs.YtgiljoeekpfpmaaW.PrintLast Go.Proofs.YtgiljoeekpfpmaaW.PrintMore Go.Proofs.YtgiljoeekpfpmaaW.PrintMore2
attribute [local go_sem] max2_int min2_int max_two min_two max_three min_three max_four min_four   -- for this text's walks alone
set_option linter.unusedVariables false
set_option linter.unusedSimpArgs false

/-! ### spec_BitsPack: function 58 -/
mutual
def spec_BitsPack.l0 : Nat → List Int → Int → List Int → Int → Option (List Int × Bool)
  | 0, _, _, _, _ => none
  | k + 1, x0, x1, x7, x8 => if x8 < (x0.length : Int) then (if 0 ≤ x8 then (if (rd x0 x8) < 0 then (spec_BitsPack.j1 k x0 x1 x7 x8 true) else (if 0 ≤ x1 then (spec_BitsPack.j1 k x0 x1 x7 x8 ((shr .i64 (rd x0 x8) x1) != 0)) else (none))) else (none)) else (some (x7, true))
def spec_BitsPack.j1 : Nat → List Int → Int → List Int → Int → Bool → Option (List Int × Bool)
  | 0, _, _, _, _, _ => none
  | k + 1, x0, x1, x7, x8, x39 => if x39 = true then (some ((([] : List Int)), false)) else (spec_BitsPack.l1 k x0 x1 x7 x8 0)
def spec_BitsPack.l1 : Nat → List Int → Int → List Int → Int → Int → Option (List Int × Bool)
  | 0, _, _, _, _, _ => none
  | k + 1, x0, x1, x7, x8, x9 => if x9 < x1 then (if 0 ≤ x8 then (if x8 < (x0.length : Int) then (if 0 ≤ x9 then (if (Go.bits .and .i64 (shr .i64 (rd x0 x8) x9) 1) = 1 then (if 0 ≤ (wrap64 (Int.tdiv (wrap64 ((wrap64 (x8 * x1)) + x9)) 8)) then (if (wrap64 (Int.tdiv (wrap64 ((wrap64 (x8 * x1)) + x9)) 8)) < (x7.length : Int) then (if 0 ≤ (Int.tmod (wrap64 ((wrap64 (x8 * x1)) + x9)) 8) then (spec_BitsPack.l1 k x0 x1 (x7.set ((wrap64 (Int.tdiv (wrap64 ((wrap64 (x8 * x1)) + x9)) 8)) : Int).toNat (Go.bits .or .u8 (rd x7 (wrap64 (Int.tdiv (wrap64 ((wrap64 (x8 * x1)) + x9)) 8))) (shl .u8 1 (Int.tmod (wrap64 ((wrap64 (x8 * x1)) + x9)) 8)))) x8 (wrap64 (x9 + 1))) else (none)) else (none)) else (none)) else (spec_BitsPack.l1 k x0 x1 x7 x8 (wrap64 (x9 + 1)))) else (none)) else (none)) else (none)) else (spec_BitsPack.l0 k x0 x1 x7 (wrap64 (x8 + 1)))
end
def spec_BitsPack.f (k : Nat) (l0 : List Int) (a1 : Int) : Option (List Int × Bool) := (spec_BitsSize.f (l0.length : Int) a1).bind fun t120 => (if t120 < 0 then (some ((([] : List Int)), false)) else (if 0 ≤ t120 then (if (t120 : Int).toNat ≤ 281474976710656 then (spec_BitsPack.l0 k l0 a1 (List.replicate (t120 : Int).toNat 0) 0) else (none)) else (none)))
def spec_BitsPack.T15 : Bool × List (List Nat × List Nat) := (true, [([], []), ([], []), ([1], [1]), ([], []), ([], []), ([4], [4]), ([3, 5], [3, 5]), ([6], [6]), ([], []), ([8], [8]), ([9], [9]), ([7, 10], [7, 10]), ([0, 2, 0, 1, 2, 3, 4, 5, 6, 7, 8, 9, 10, 11], [0, 2]), ([12, 11, 0, 1, 2, 3, 4, 5, 6, 7, 8, 9, 10, 11], [11, 12])])
def spec_BitsPack.B15 : List Nat := [0, 0, 2, 0, 0, 16, 56, 120, 0, 256, 768, 2040, 4095, 8191]
theorem spec_BitsPack.tab15 : rtab .any (opsOf Try.f58 15) = spec_BitsPack.T15 := by kernel_rfl
theorem spec_BitsPack.bits15 : waitsOk spec_BitsPack.T15.2 spec_BitsPack.B15 = true := by kernel_rfl
set_option maxHeartbeats 8000000 in
set_option maxRecDepth 100000 in
theorem spec_BitsPack.calls (k : Nat) (A0 : Option Addr) (c0 : Nat) (l0 : List Int) (a1 : Int) (r1 : List Int) (r2 : Bool) (w : World) (hr0 : Kd.C (Kd.int .i64) w A0 l0.length l0) (hc0 : l0.length ≤ c0) (h : spec_BitsPack.f k l0 a1 = some (r1, r2)) :
    Calls Try.prog 58 #[.slice A0 l0.length c0, .int .i64 a1] w fun e w' => ∃ v0_ : Value, e = .returned (.tuple #[v0_, .bool r2]) ∧ Kd.R (Kd.int .u8) 5 w' w.heap.size (fun _ => True) v0_ r1 ∧ Below w.heap.size w w' := by
  have HR0 := Aside0.mk hr0
  have HC0 := Aside0.mk hc0
  clear hr0 hc0
  have HB := Aside0.mk (Below.refl w.heap.size w)
  have H : ((spec_BitsSize.f (l0.length : Int) a1).bind fun t120 => (if t120 < 0 then (some ((([] : List Int)), false)) else (if 0 ≤ t120 then (if (t120 : Int).toNat ≤ 281474976710656 then (spec_BitsPack.l0 k l0 a1 (List.replicate (t120 : Int).toNat 0) 0) else (none)) else (none)))) = some (r1, r2) := h
  clear h
  replace H := bnd H
  obtain ⟨t120, A3, H⟩ := H
  by_cases c4 : t120 < 0
  · rw [if_pos c4] at H
    have c4b0 := decide_eq_true c4
    clear c4
    obtain ⟨y121, hy121⟩ : ∃ y_ : List Int, y_ = (([] : List Int)) := ⟨_, rfl⟩
    replace H : (some (y121, false)) = some (r1, r2) := by first | (rw [hy121]; with_reducible exact H) | (rw [hy121]; exact H) | exact H
    have Ny121 := Aside0.mk hy121
    clear hy121
    simp only [Option.some.injEq, Prod.mk.injEq] at H
    obtain ⟨rfl, rfl⟩ := H
    go_enter Try.func58, Try.ntmps58
    go_wp2_with (first | ((with_reducible refine gate_callee (f := 81) rfl ?_); refine gl_ (some 14) Try.func81 #[.int .i64 (l0.length : Int), .int .i64 a1] rfl ?_; (with_reducible refine (spec_BitsSize.calls (l0.length : Int) a1 t120 _ A3.out).mono ?_); rintro e w' ⟨rfl, ⟨nd, rfl⟩⟩; refine ⟨_, rfl, ?_⟩) | ((with_reducible refine gate_dst (N := 17) rfl ?_); refine Kd.R_lit (Kd.int .u8) _ 5 ?hg (N := 17) ?hd (xs := ([] : List Int)) (inner := []) (ok := fun _ => True) (okp := fun _ => True) ?hr ?hp (fun _ hk => hk) trivial (Below.refl _ _) (Nat.le_refl _) (by simp) ?_; (case hd => rfl); (case hg => rfl); (case hr => first | (go_simp; done) | (go_simp; rfl)); (case hp => exact (Reps.none _ _)); intro v122 w5 ho6 hb hg_ hnew_; clear hg_ hnew_; (first | rw [← Ny121.out] at ho6 | (simp only [Int.reduceToNat] at ho6; rw [← Ny121.out] at ho6)); have HO123 := Aside0.mk (Kd.R_lower ho6 (below_size (below_later HB.out))); replace HB := bst HB hb; clear hb ho6))
    go_ret2
    exact ⟨_, by first | rfl | (simp [errW_none, errW_some] <;> rfl) | (simp [*, errW_none, errW_some] <;> rfl), by (with_reducible repeat (first | apply Kd.R_alloc | apply Kd.R_drewN | apply Kd.R_drew)); exact HO123.out, below_later HB.out⟩
  · rw [if_neg c4] at H
    have c4b0 := decide_eq_false c4
    clear c4
    replace H := ifs H
    obtain ⟨c7, H⟩ := H
    have c7b0 := eq_true c7
    have c7b1 := decide_eq_true c7
    clear c7
    replace H := ifs H
    obtain ⟨c8, H⟩ := H
    have c8b0 := eq_true c8
    have c8b1 := decide_eq_true c8
    clear c8
    obtain ⟨y124, hy124⟩ : ∃ y_ : List Int, y_ = (List.replicate (t120 : Int).toNat 0) := ⟨_, rfl⟩
    replace H : (spec_BitsPack.l0 k l0 a1 y124 0) = some (r1, r2) := by first | (rw [hy124]; with_reducible exact H) | (rw [hy124]; exact H) | exact H
    have Ny124 := Aside0.mk hy124
    clear hy124
    have H' := Aside0.mk H
    clear H
    go_enter Try.func58, Try.ntmps58
    go_wp2_with (first | ((with_reducible refine gate_callee (f := 81) rfl ?_); refine gl_ (some 14) Try.func81 #[.int .i64 (l0.length : Int), .int .i64 a1] rfl ?_; (with_reducible refine (spec_BitsSize.calls (l0.length : Int) a1 t120 _ A3.out).mono ?_); rintro e w' ⟨rfl, ⟨nd, rfl⟩⟩; refine ⟨_, rfl, ?_⟩) | ((with_reducible refine gate_dst (N := 19) rfl ?_); refine Kd.R_make (Kd.int .u8) _ 5 rfl (N := 19) rfl 41 _ _ rfl t120 rfl rfl Try.underlying41 (.int .u8 0) 1 info5 rfl (by decide) (by omega) 0 (ok := fun _ => True) (okp := fun _ => True) rfl (fun _ hk => hk) trivial (dcd) (Nat.le_trans (Nat.mul_le_mul_right _ (dcd : t120.toNat ≤ 281474976710656)) (by omega)) (Below.refl _ _) (Nat.le_refl _) ?_; intro v125 w9 ho10 hb hg_ hnew_; clear hg_ hnew_; (first | rw [← Ny124.out] at ho10 | (simp only [Int.reduceToNat] at ho10; rw [← Ny124.out] at ho10)); have HO126 := Aside0.mk (Kd.R_lower ho10 (below_size (below_later HB.out))); replace HB := bst HB hb; clear hb ho10))
    go_loopg [8] k (fun kq v8 w' => ∃ (x7_1 : List Int) (x8_1 : Int), v8 = .int .i64 x8_1 ∧ Aside0 (spec_BitsPack.l0 kq l0 a1 x7_1 x8_1 = some (r1, r2)) ∧ Aside0 (kq ≤ k) ∧ Aside0 (Kd.R (Kd.int .u8) 5 w' w.heap.size (fun _ => True) v125 x7_1) ∧ Aside0 (Below w.heap.size w w'))
    case atStart => exact ⟨(y124), (0), sr, H', ⟨Nat.le_refl _⟩, ⟨R_later HO126.out⟩, ⟨below_later HB.out⟩⟩
    case round =>
      clear H'
      try clear c4
      try clear c4b0
      try clear c7
      try clear c7b0
      try clear c7b1
      try clear c8
      try clear c8b0
      try clear c8b1
      obtain ⟨x7_1, x8_1, rfl, HA, HK1, HO_7, HB⟩ := hrel
      cases gk with
      | zero => exact absurd HA.out (by simp [spec_BitsPack.l0])
      | succ k1 =>
        have H := HA.out
        clear HA
        simp only [spec_BitsPack.l0] at H
        by_cases c11 : x8_1 < (l0.length : Int)
        · rw [if_pos c11] at H
          have c11b0 := decide_eq_true c11
          clear c11
          have HC12 := Aside0.mk H
          clear H
          go_upto_region 8 with (fail)
          go_cut [39] (fun v39 wc => ∃ (kq : Nat) (x39_11 : Bool), v39 = .bool x39_11 ∧ Aside0 (spec_BitsPack.j1 kq l0 a1 x7_1 x8_1 x39_11 = some (r1, r2)) ∧ Aside0 (kq ≤ k1) ∧ Aside0 (Kd.R (Kd.int .u8) 5 wc w.heap.size (fun _ => True) v125 x7_1) ∧ Aside0 (Below w.heap.size w wc))
          case first =>
            have H := HC12.out
            clear HC12
            replace H := ifd H
            obtain ⟨c13b0, H⟩ := H
            (first | rw [c13b0] | (simp only [i64_w, i32_w]; rw [c13b0]) | skip)
            by_cases c14 : (rd l0 x8_1) < 0
            · rw [if_pos c14] at H
              have c14b0 := decide_eq_true c14
              clear c14
              have H' := Aside0.mk H
              clear H
              have p127 : 0 ≤ (x8_1 : Int) := dcd
              have q127 : x8_1 < (l0.length : Int) := dcd
              obtain ⟨ad127, e127, hx127_0⟩ := Kd.at_int HR0.out x8_1 p127 q127
              cases e127
              replace hx127_0 := crd HB hx127_0
              replace p127 := eq_true p127
              replace q127 := eq_true q127
              go_wp2
              go_meet
              case rel => exact ⟨_, (true), sr, H', ⟨by have := HK1.out; first | omega | exact Nat.le_refl _⟩, ⟨R_later HO_7.out⟩, ⟨below_later HB.out⟩⟩
            · rw [if_neg c14] at H
              have c14b0 := decide_eq_false c14
              clear c14
              replace H := ifs H
              obtain ⟨c15, H⟩ := H
              have c15b0 := eq_true c15
              have c15b1 := decide_eq_true c15
              clear c15
              obtain ⟨ji16, hji16⟩ : ∃ j_ : Int, (shr .i64 (rd l0 x8_1) a1) = j_ := ⟨_, rfl⟩
              replace H : (spec_BitsPack.j1 k1 l0 a1 x7_1 x8_1 ((ji16) != 0)) = some (r1, r2) := by first | (rw [hji16] at H; exact H) | (simp only [hji16] at H ⊢; exact H)
              have hji16_ : ((rd l0 x8_1) / 2 ^ min a1.toNat 64) = ji16 := hji16
              have hji16z : a1 ≤ 64 → ((rd l0 x8_1) / 2 ^ a1.toNat) = ji16 := shr_small hji16
              have H' := Aside0.mk H
              clear H
              have p127 : 0 ≤ (x8_1 : Int) := dcd
              have q127 : x8_1 < (l0.length : Int) := dcd
              obtain ⟨ad127, e127, hx127_0⟩ := Kd.at_int HR0.out x8_1 p127 q127
              cases e127
              replace hx127_0 := crd HB hx127_0
              replace p127 := eq_true p127
              replace q127 := eq_true q127
              have p128 : 0 ≤ (x8_1 : Int) := dcd
              have q128 : x8_1 < (l0.length : Int) := dcd
              obtain ⟨ad128, e128, hx128_0⟩ := Kd.at_int HR0.out x8_1 p128 q128
              obtain rfl : ad127 = ad128 := (by injection e128)
              replace hx128_0 := crd HB hx128_0
              replace p128 := eq_true p128
              replace q128 := eq_true q128
              go_wp2
              go_meet
              case rel => exact ⟨_, (((ji16) != 0)), (by first | rfl | (simp; done) | (simp only [← hji16] <;> (first | rfl | simp)) | (simp [*]; done)), H', ⟨by have := HK1.out; first | omega | exact Nat.le_refl _⟩, ⟨R_later HO_7.out⟩, ⟨below_later HB.out⟩⟩
          case rest =>
            clear HC12
            try clear c4
            try clear c4b0
            try clear c7
            try clear c7b0
            try clear c7b1
            try clear c8
            try clear c8b0
            try clear c8b1
            try clear c11
            try clear c11b0
            obtain ⟨kq, x39_11, rfl, HA, HJ11, HO_7, HB⟩ := hcut
            cases kq with
            | zero => exact absurd HA.out (by simp [spec_BitsPack.j1])
            | succ kj11 =>
              have H := HA.out
              clear HA
              simp only [spec_BitsPack.j1] at H
              by_cases c17 : x39_11 = true
              · subst c17
                replace H := ifp rfl H
                obtain ⟨y129, hy129⟩ : ∃ y_ : List Int, y_ = (([] : List Int)) := ⟨_, rfl⟩
                replace H : (some (y129, false)) = some (r1, r2) := by first | (rw [hy129]; with_reducible exact H) | (rw [hy129]; exact H) | exact H
                have Ny129 := Aside0.mk hy129
                clear hy129
                simp only [Option.some.injEq, Prod.mk.injEq] at H
                obtain ⟨rfl, rfl⟩ := H
                go_wp2_with (first | ((with_reducible refine gate_dst (N := 40) rfl ?_); refine Kd.R_lit (Kd.int .u8) _ 5 ?hg (N := 40) ?hd (xs := ([] : List Int)) (inner := []) (ok := fun _ => True) (okp := fun _ => True) ?hr ?hp (fun _ hk => hk) trivial (Below.refl _ _) (Nat.le_refl _) (by simp) ?_; (case hd => rfl); (case hg => rfl); (case hr => first | (go_simp; done) | (go_simp; rfl)); (case hp => exact (Reps.none _ _)); intro v130 w18 ho19 hb hg_ hnew_; clear hg_ hnew_; (first | rw [← Ny129.out] at ho19 | (simp only [Int.reduceToNat] at ho19; rw [← Ny129.out] at ho19)); have HO131 := Aside0.mk (Kd.R_lower (Kd.R_new' ho19 (Kd.R_lt (R_later HO_7.out))) (below_size (below_later HB.out))); replace HO_7 := Aside0.mk (Kd.R_elder' (R_later HO_7.out) (Kd.R_base ho19) hb); replace HB := bst HB hb; clear hb ho19))
                go_ret2
                exact ⟨_, by first | rfl | (simp [errW_none, errW_some] <;> rfl) | (simp [*, errW_none, errW_some] <;> rfl), by (with_reducible repeat (first | apply Kd.R_alloc | apply Kd.R_drewN | apply Kd.R_drew)); exact Kd.R_mono HO131.out (fun _ hk => trivial), below_later HB.out⟩
              · replace c17 := Bool.eq_false_iff.mpr c17
                subst c17
                replace H := ifn Bool.false_ne_true H
                have H' := Aside0.mk H
                clear H
                go_wp2
                go_loopg [9] kj11 (fun kq v9 w' => ∃ (x7_3 : List Int) (x9_3 : Int), v9 = .int .i64 x9_3 ∧ Aside0 (spec_BitsPack.l1 kq l0 a1 x7_3 x8_1 x9_3 = some (r1, r2)) ∧ Aside0 (kq ≤ kj11) ∧ Aside0 (Kd.R (Kd.int .u8) 5 w' w.heap.size (fun _ => True) v125 x7_3) ∧ Aside0 (Below w.heap.size w w'))
                case atStart => exact ⟨(x7_1), (0), sr, H', ⟨Nat.le_refl _⟩, ⟨R_later HO_7.out⟩, ⟨below_later HB.out⟩⟩
                case round =>
                  clear H'
                  try clear c4
                  try clear c4b0
                  try clear c7
                  try clear c7b0
                  try clear c7b1
                  try clear c8
                  try clear c8b0
                  try clear c8b1
                  try clear c11
                  try clear c11b0
                  try clear c17
                  obtain ⟨x7_3, x9_3, rfl, HA, HK3, HO_7, HB⟩ := hrel
                  cases gk with
                  | zero => exact absurd HA.out (by simp [spec_BitsPack.l1])
                  | succ k3 =>
                    have H := HA.out
                    clear HA
                    simp only [spec_BitsPack.l1] at H
                    by_cases c20 : x9_3 < a1
                    · rw [if_pos c20] at H
                      have c20b0 := decide_eq_true c20
                      clear c20
                      replace H := ifd H
                      obtain ⟨c21b0, H⟩ := H
                      replace H := ifd H
                      obtain ⟨c22b0, H⟩ := H
                      replace H := ifs H
                      obtain ⟨c23, H⟩ := H
                      have c23b0 := eq_true c23
                      have c23b1 := decide_eq_true c23
                      clear c23
                      obtain ⟨ji24, hji24⟩ : ∃ j_ : Int, (shr .i64 (rd l0 x8_1) x9_3) = j_ := ⟨_, rfl⟩
                      replace H : (if (Go.bits .and .i64 (ji24) 1) = 1 then (if 0 ≤ (wrap64 (Int.tdiv (wrap64 ((wrap64 (x8_1 * a1)) + x9_3)) 8)) then (if (wrap64 (Int.tdiv (wrap64 ((wrap64 (x8_1 * a1)) + x9_3)) 8)) < (x7_3.length : Int) then (if 0 ≤ (Int.tmod (wrap64 ((wrap64 (x8_1 * a1)) + x9_3)) 8) then (spec_BitsPack.l1 k3 l0 a1 (x7_3.set ((wrap64 (Int.tdiv (wrap64 ((wrap64 (x8_1 * a1)) + x9_3)) 8)) : Int).toNat (Go.bits .or .u8 (rd x7_3 (wrap64 (Int.tdiv (wrap64 ((wrap64 (x8_1 * a1)) + x9_3)) 8))) (shl .u8 1 (Int.tmod (wrap64 ((wrap64 (x8_1 * a1)) + x9_3)) 8)))) x8_1 (wrap64 (x9_3 + 1))) else (none)) else (none)) else (none)) else (spec_BitsPack.l1 k3 l0 a1 x7_3 x8_1 (wrap64 (x9_3 + 1)))) = some (r1, r2) := by first | (rw [hji24] at H; exact H) | (simp only [hji24] at H ⊢; exact H)
                      have hji24_ : ((rd l0 x8_1) / 2 ^ min x9_3.toNat 64) = ji24 := hji24
                      have hji24z : x9_3 ≤ 64 → ((rd l0 x8_1) / 2 ^ x9_3.toNat) = ji24 := shr_small hji24
                      by_cases c25 : (Go.bits .and .i64 (ji24) 1) = 1
                      · rw [if_pos c25] at H
                        have c25b0 : ((Go.bits .and .i64 (ji24) 1) == 1) = true := beq_iff_eq.mpr c25
                        have c25b1 : ((Go.bits .and .i64 (ji24) 1) != 1) = false := bne_eq_false_iff_eq.mpr c25
                        clear c25
                        obtain ⟨ji26, hji26⟩ : ∃ j_ : Int, (wrap64 (Int.tdiv (wrap64 ((wrap64 (x8_1 * a1)) + x9_3)) 8)) = j_ := ⟨_, rfl⟩
                        replace H : (if 0 ≤ (ji26) then (if (ji26) < (x7_3.length : Int) then (if 0 ≤ (Int.tmod (wrap64 ((wrap64 (x8_1 * a1)) + x9_3)) 8) then (spec_BitsPack.l1 k3 l0 a1 (x7_3.set ((ji26) : Int).toNat (Go.bits .or .u8 (rd x7_3 (ji26)) (shl .u8 1 (Int.tmod (wrap64 ((wrap64 (x8_1 * a1)) + x9_3)) 8)))) x8_1 (wrap64 (x9_3 + 1))) else (none)) else (none)) else (none)) = some (r1, r2) := by first | (rw [hji26] at H; exact H) | (simp only [hji26] at H ⊢; exact H)
                        have hji26w : (IntKind.i64.wrap (Int.tdiv (wrap64 ((wrap64 (x8_1 * a1)) + x9_3)) 8)) = ji26 := (i64_w _).trans hji26
                        replace H := ifd H
                        obtain ⟨c27b0, H⟩ := H
                        replace H := ifd H
                        obtain ⟨c28b0, H⟩ := H
                        obtain ⟨ji29, hji29⟩ : ∃ j_ : Int, (Int.tmod (wrap64 ((wrap64 (x8_1 * a1)) + x9_3)) 8) = j_ := ⟨_, rfl⟩
                        replace H : (if 0 ≤ (ji29) then (spec_BitsPack.l1 k3 l0 a1 (x7_3.set ((ji26) : Int).toNat (Go.bits .or .u8 (rd x7_3 (ji26)) (shl .u8 1 (ji29)))) x8_1 (wrap64 (x9_3 + 1))) else (none)) = some (r1, r2) := by first | (rw [hji29] at H; exact H) | (simp only [hji29] at H ⊢; exact H)
                        replace H := ifs H
                        obtain ⟨c30, H⟩ := H
                        have c30b0 := eq_true c30
                        have c30b1 := decide_eq_true c30
                        clear c30
                        obtain ⟨ji31, hji31⟩ : ∃ j_ : Int, (shl .u8 1 (ji29)) = j_ := ⟨_, rfl⟩
                        replace H : (spec_BitsPack.l1 k3 l0 a1 (x7_3.set ((ji26) : Int).toNat (Go.bits .or .u8 (rd x7_3 (ji26)) (ji31))) x8_1 (wrap64 (x9_3 + 1))) = some (r1, r2) := by first | (rw [hji31] at H; exact H) | (simp only [hji31] at H ⊢; exact H)
                        have hji31_ : (IntKind.u8.wrap (1 * 2 ^ min (ji29).toNat 8)) = ji31 := hji31
                        have hji31w : ((1 * 2 ^ min (ji29).toNat 8) % 256) = ji31 := hji31
                        have hji31z : (ji29) ≤ 8 → (IntKind.u8.wrap (1 * 2 ^ (ji29).toNat)) = ji31 := shl_small hji31
                        have hji31u : (IntKind.u8.wrap (2 ^ min (ji29).toNat 8)) = ji31 := by have h_ := hji31_; rw [Int.one_mul] at h_; exact h_
                        have hji31v : (ji29) ≤ 8 → (IntKind.u8.wrap (2 ^ (ji29).toNat)) = ji31 := fun hle_ => by have h_ := hji31z hle_; rw [Int.one_mul] at h_; exact h_
                        obtain ⟨y134, hy134⟩ : ∃ y_ : List Int, y_ = (x7_3.set ((ji26) : Int).toNat (Go.bits .or .u8 (rd x7_3 (ji26)) (ji31))) := ⟨_, rfl⟩
                        replace H : (spec_BitsPack.l1 k3 l0 a1 y134 x8_1 (wrap64 (x9_3 + 1))) = some (r1, r2) := by first | (rw [hy134]; with_reducible exact H) | (rw [hy134]; exact H) | exact H
                        have Ny134 := Aside0.mk hy134
                        clear hy134
                        have H' := Aside0.mk H
                        clear H
                        have p132 : 0 ≤ (x8_1 : Int) := dcd
                        have q132 : x8_1 < (l0.length : Int) := dcd
                        obtain ⟨ad132, e132, hx132_0⟩ := Kd.at_int HR0.out x8_1 p132 q132
                        cases e132
                        replace hx132_0 := crd HB hx132_0
                        replace p132 := eq_true p132
                        replace q132 := eq_true q132
                        try go_wp2
                        have n0_ := Aside0.mk (Kd.R_drew HO_7.out)
                        have n1_ := Aside0.mk (below_drew1 HB.out)
                        clear HO_7
                        clear HB
                        have HO_7 := n0_
                        have HB := n1_
                        clear n0_ n1_
                        obtain ⟨Ao34, co34, eo34⟩ := Kd.R_slice HO_7.out
                        (first | subst eo34 | (injection eo34 with f1_ f2_ f3_; have f4_ := f1_.symm; have f5_ := f3_.symm; clear f1_ f2_ f3_; subst f4_; subst f5_))
                        have p133 : 0 ≤ ((ji26) : Int) := dcd
                        have q133 : (ji26) < (x7_3.length : Int) := dcd
                        obtain ⟨ad133, e133, hx133_0⟩ := Kd.at_int (Kd.R_reads' HO_7.out).2.2 (ji26) p133 q133
                        cases e133
                        replace p133 := eq_true p133
                        replace q133 := eq_true q133
                        have p32 : 0 ≤ ((ji26) : Int) := dcd
                        have q32 : ((ji26) : Int) < ((x7_3.length : Int) : Int) := dcd
                        obtain ⟨go32, co32, eo32, gb32, gl32, cl32, HG32⟩ := Kd.R_form HO_7.out (by omega)
                        (first | cases eo32 | (injection eo32 with ea_ en_ ec_; (first | subst ea_ | (injection ea_ with ea_; subst ea_)); subst ec_; clear en_))
                        have GB32 := Aside0.mk gb32
                        have GG32 := Aside0.mk HG32
                        clear gb32 gl32 HG32
                        (first | simp only [add_plain] at hx133_0 | skip)
                        obtain ⟨hx32_0, hf32_0⟩ := Kd.R_celln 0 HO_7.out ((ji26) : Int) p32 q32
                        replace p32 := eq_true p32
                        replace q32 := eq_true q32
                        have HP35 := Kd.R_putn HO_7.out ((ji26) : Int) (Go.bits .or .u8 (rd x7_3 (ji26)) (ji31))
                        rw [← Ny134.out] at HP35
                        have HQ35 := Aside0.mk HP35
                        clear HP35
                        refine start_ (n := 14) (S := fun w' => w'.cell? ⟨go32, ((ji26)).toNat, none⟩ = some (.int .u8 (rd x7_3 (ji26)))) (ds := [13]) #[false, false, false, false, false, false, false, false, false, false, false, false, false, false] (by kernel_rfl) rfl rfl (hx133_0) (fun hHeld => ?_); refine with_tabW spec_BitsPack.tab15 spec_BitsPack.bits15 (fun HT_ HW_ => ?_)
                        generalize wr.drew = w33 at HO_7 HB GG32 HQ35 hf32_0 hx133_0 hx32_0 hHeld ⊢
                        refine pure_ (i := 0) (N := some 59) (v := ?_) (a' := ?_) #[true, false, false, false, false, false, false, false, false, false, false, false, false, false] rfl rfl (any_of HT_.out (by kernel_rfl)) (fun _ _ _ h => h) (Or.inl ⟨by rfl, ?_⟩) ?_ ?_
                        rotate_left
                        · intro w'
                          go_simp
                          with_reducible rfl
                        rotate_left
                        · simp only [Act.put, List.setIfInBounds_toArray, List.set_cons_zero, List.set_cons_succ, i64_w, i32_w]
                          rfl
                        refine pure_ (i := 1) (N := some 60) (v := ?_) (a' := ?_) #[true, true, false, false, false, false, false, false, false, false, false, false, false, false] rfl rfl (any_of HT_.out (by kernel_rfl)) (fun _ _ _ h => h) (Or.inl ⟨by rfl, ?_⟩) ?_ ?_
                        rotate_left
                        · intro w'
                          go_simp
                          with_reducible rfl
                        rotate_left
                        · simp only [Act.put, List.setIfInBounds_toArray, List.set_cons_zero, List.set_cons_succ, i64_w, i32_w]
                          rfl
                        refine pure_ (i := 2) (N := some 61) (v := ?_) (a' := ?_) #[true, true, true, false, false, false, false, false, false, false, false, false, false, false] rfl rfl (any_of HT_.out (by kernel_rfl)) (fun _ _ _ h => h) (Or.inl ⟨by rfl, ?_⟩) ?_ ?_
                        rotate_left
                        · intro w'
                          go_simp
                          with_reducible rfl
                        rotate_left
                        · simp only [Act.put, List.setIfInBounds_toArray, List.set_cons_zero, List.set_cons_succ, i64_w, i32_w]
                          rfl
                        refine pure_ (i := 3) (N := some 62) (v := ?_) (a' := ?_) #[true, true, true, true, false, false, false, false, false, false, false, false, false, false] rfl rfl (any_of HT_.out (by kernel_rfl)) (fun _ _ _ h => h) (Or.inl ⟨by rfl, ?_⟩) ?_ ?_
                        rotate_left
                        · intro w'
                          go_simp
                          with_reducible rfl
                        rotate_left
                        · simp only [Act.put, List.setIfInBounds_toArray, List.set_cons_zero, List.set_cons_succ, i64_w, i32_w]
                          rfl
                        refine pure_ (i := 4) (N := some 63) (v := ?_) (a' := ?_) #[true, true, true, true, true, false, false, false, false, false, false, false, false, false] rfl rfl (any_of HT_.out (by kernel_rfl)) (fun _ _ _ h => h) (Or.inl ⟨by rfl, ?_⟩) ?_ ?_
                        rotate_left
                        · intro w'
                          go_simp
                          with_reducible rfl
                        rotate_left
                        · simp only [Act.put, List.setIfInBounds_toArray, List.set_cons_zero, List.set_cons_succ, i64_w, i32_w]
                          rfl
                        refine pure_ (i := 5) (N := some 64) (v := ?_) (a' := ?_) #[true, true, true, true, true, true, false, false, false, false, false, false, false, false] rfl rfl (any_of HT_.out (by kernel_rfl)) (fun _ _ _ h => h) (Or.inl ⟨by rfl, ?_⟩) ?_ ?_
                        rotate_left
                        · intro w'
                          go_simp
                          with_reducible rfl
                        rotate_left
                        · simp only [Act.put, List.setIfInBounds_toArray, List.set_cons_zero, List.set_cons_succ, i64_w, i32_w]
                          rfl
                        refine pure_ (i := 6) (N := some 65) (v := ?_) (a' := ?_) #[true, true, true, true, true, true, true, false, false, false, false, false, false, false] rfl rfl (any_of HT_.out (by kernel_rfl)) (fun _ _ _ h => h) (Or.inl ⟨by rfl, ?_⟩) ?_ ?_
                        rotate_left
                        · intro w'
                          go_simp
                          with_reducible rfl
                        rotate_left
                        · simp only [Act.put, List.setIfInBounds_toArray, List.set_cons_zero, List.set_cons_succ, i64_w, i32_w]
                          rfl
                        refine pure_ (i := 8) (N := some 67) (v := ?_) (a' := ?_) #[true, true, true, true, true, true, true, false, true, false, false, false, false, false] rfl rfl (any_of HT_.out (by kernel_rfl)) (fun _ _ _ h => h) (Or.inl ⟨by rfl, ?_⟩) ?_ ?_
                        rotate_left
                        · intro w'
                          go_simp
                          with_reducible rfl
                        rotate_left
                        · simp only [Act.put, List.setIfInBounds_toArray, List.set_cons_zero, List.set_cons_succ, i64_w, i32_w]
                          rfl
                        refine pure_ (i := 9) (N := some 68) (v := ?_) (a' := ?_) #[true, true, true, true, true, true, true, false, true, true, false, false, false, false] rfl rfl (any_of HT_.out (by kernel_rfl)) (fun _ _ _ h => h) (Or.inl ⟨by rfl, ?_⟩) ?_ ?_
                        rotate_left
                        · intro w'
                          go_simp
                          with_reducible rfl
                        rotate_left
                        · simp only [Act.put, List.setIfInBounds_toArray, List.set_cons_zero, List.set_cons_succ, i64_w, i32_w]
                          rfl
                        refine pure_ (i := 10) (N := some 69) (v := ?_) (a' := ?_) #[true, true, true, true, true, true, true, false, true, true, true, false, false, false] rfl rfl (any_of HT_.out (by kernel_rfl)) (fun _ _ _ h => h) (Or.inl ⟨by rfl, ?_⟩) ?_ ?_
                        rotate_left
                        · intro w'
                          go_simp
                          with_reducible rfl
                        rotate_left
                        · simp only [Act.put, List.setIfInBounds_toArray, List.set_cons_zero, List.set_cons_succ, i64_w, i32_w]
                          rfl
                        refine take_ (i := 7) (N := some 66) (v := ?_) (a' := ?_) #[true, true, true, true, true, true, true, true, true, true, true, false, false, false] rfl rfl (take_ofW HT_.out HW_.out (by kernel_rfl)) (fun _ _ _ h => h) (Or.inl ⟨by rfl, ?_⟩) hHeld ?_ ?_
                        rotate_left
                        · intro w' s0
                          go_simp
                          with_reducible rfl
                        rotate_left
                        · simp only [Act.put, List.setIfInBounds_toArray, List.set_cons_zero, List.set_cons_succ, i64_w, i32_w]
                          rfl
                        refine pure_ (i := 11) (N := some 70) (v := ?_) (a' := ?_) #[true, true, true, true, true, true, true, true, true, true, true, true, false, false] rfl rfl (any_of HT_.out (by kernel_rfl)) (fun _ _ _ h => h) (Or.inl ⟨by rfl, ?_⟩) ?_ ?_
                        rotate_left
                        · intro w'
                          go_simp
                          with_reducible rfl
                        rotate_left
                        · simp only [Act.put, List.setIfInBounds_toArray, List.set_cons_zero, List.set_cons_succ, i64_w, i32_w]
                          rfl
                        refine pure_ (i := 12) (N := some 71) (v := ?_) (a' := ?_) #[true, true, true, true, true, true, true, true, true, true, true, true, true, false] rfl rfl (any_of HT_.out (by kernel_rfl)) (fun _ _ _ h => h) (Or.inl ⟨by rfl, ?_⟩) ?_ ?_
                        rotate_left
                        · intro w'
                          go_simp
                          with_reducible rfl
                        rotate_left
                        · simp only [Act.put, List.setIfInBounds_toArray, List.set_cons_zero, List.set_cons_succ, i64_w, i32_w]
                          rfl
                        refine last_ (i := 13) (N := none) #[true, true, true, true, true, true, true, true, true, true, true, true, true, true] rfl rfl (one_of HT_.out (by kernel_rfl)) (by decide) (fun K hK => ?_)
                        refine skip_ (w1 := ?_) (by rfl) rfl ?_ ?_
                        rotate_left
                        · go_simp
                          rfl
                        refine hK.out _ _ ?_
                        clear hK K
                        refine done_ (done_of HT_.out (by kernel_rfl)) ?_
                        try go_wp2
                        go_roundg k3
                        case measure => have := HK1.out; have := HJ11.out; have := HK3.out; omega
                        case rel => (try rw [hji31w]); exact ⟨(y134), (wrap64 (x9_3 + 1)), sr, H', ⟨by have := HK1.out; have := HJ11.out; have := HK3.out; omega⟩, ⟨R_later (HQ35.out)⟩, ⟨by repeat (first | (with_reducible first | exact HB.out | apply below_alloc | apply pw_below_drewN | apply below_drew1 | refine below_set ?_ GB32.out) | exact HB.out)⟩⟩
                      · rw [if_neg c25] at H
                        have c25b0 : ((Go.bits .and .i64 (ji24) 1) == 1) = false := beq_eq_false_iff_ne.mpr c25
                        have c25b1 : ((Go.bits .and .i64 (ji24) 1) != 1) = true := bne_iff_ne.mpr c25
                        have H' := Aside0.mk H
                        clear H
                        have p132 : 0 ≤ (x8_1 : Int) := dcd
                        have q132 : x8_1 < (l0.length : Int) := dcd
                        obtain ⟨ad132, e132, hx132_0⟩ := Kd.at_int HR0.out x8_1 p132 q132
                        cases e132
                        replace hx132_0 := crd HB hx132_0
                        replace p132 := eq_true p132
                        replace q132 := eq_true q132
                        go_wp2
                        go_roundg k3
                        case measure => have := HK1.out; have := HJ11.out; have := HK3.out; omega
                        case rel => (try rw [hji31w]); exact ⟨(x7_3), (wrap64 (x9_3 + 1)), sr, H', ⟨by have := HK1.out; have := HJ11.out; have := HK3.out; omega⟩, ⟨R_later HO_7.out⟩, ⟨below_later HB.out⟩⟩
                    · rw [if_neg c20] at H
                      have c20b0 := decide_eq_false c20
                      clear c20
                      have H' := Aside0.mk H
                      clear H
                      go_wp2
                      go_roundg k3
                      case measure => have := HK1.out; have := HJ11.out; have := HK3.out; omega
                      case rel => (try rw [hji31w]); exact ⟨(x7_3), (wrap64 (x8_1 + 1)), sr, H', ⟨by have := HK1.out; have := HJ11.out; have := HK3.out; omega⟩, ⟨R_later HO_7.out⟩, ⟨below_later HB.out⟩⟩
        · rw [if_neg c11] at H
          have c11b0 := decide_eq_false c11
          clear c11
          simp only [Option.some.injEq, Prod.mk.injEq] at H
          obtain ⟨rfl, rfl⟩ := H
          go_wp2
          go_ret2
          exact ⟨_, by first | rfl | (simp [errW_none, errW_some] <;> rfl) | (simp [*, errW_none, errW_some] <;> rfl), by (with_reducible repeat (first | apply Kd.R_alloc | apply Kd.R_drewN | apply Kd.R_drew)); exact HO_7.out, below_later HB.out⟩
/-! ### spec_PlainPack: function 32 -/
def spec_PlainPack.l0 : Nat → Int → List (S27) → List Int → List Int → Int → Option (List Int × Bool)
  | 0, _, _, _, _, _ => none
  | k + 1, x0, x1, x6, x7, x8 => if x8 < (x1.length : Int) then (if 0 ≤ x8 then (if x0 = 0 then (if x7.length < 17592186044416 then (spec_PlainPack.l0 k x0 x1 x6 (x7 ++ [(rd_T27 x1 x8).f0]) (wrap64 (x8 + 1))) else (none)) else (if x0 = 1 then ((spec_WordPut.f k ((rd_T27 x1 x8).f0) 4).bind fun t151 => (if x6.length + t151.length < 140737488355328 then (spec_PlainPack.l0 k x0 x1 (x6 ++ t151) x7 (wrap64 (x8 + 1))) else (none))) else (if x0 = 6 then ((spec_WordPut.f k (((rd_T27 x1 x8).f1).size : Int) 4).bind fun t157 => (if x6.length + t157.length < 140737488355328 then ((some (x6 ++ t157 : List Int)).bind fun y160 => (if y160.length + ((rd_T27 x1 x8).f1).size < 140737488355328 then (spec_PlainPack.l0 k x0 x1 (y160 ++ bytesOf ((rd_T27 x1 x8).f1)) x7 (wrap64 (x8 + 1))) else (none))) else (none))) else ((spec_WordPut.f k ((rd_T27 x1 x8).f0) 8).bind fun t166 => (if x6.length + t166.length < 140737488355328 then (spec_PlainPack.l0 k x0 x1 (x6 ++ t166) x7 (wrap64 (x8 + 1))) else (none)))))) else (none)) else (if x0 = 0 then ((spec_BitsPack.f k x7 1).bind fun bt142 => (some (bt142.1, bt142.2))) else (some (x6, true)))
def spec_PlainPack.f (k : Nat) (a0 : Int) (l1 : List (S27)) : Option (List Int × Bool) := (some (([] : List Int) : List Int)).bind fun y135 => ((spec_l6Vals.f k a0 l1).bind fun t138 => (if t138 = true then (spec_PlainPack.l0 k a0 l1 y135 (([] : List Int)) 0) else (some (y135, false))))
set_option maxHeartbeats 8000000 in
set_option maxRecDepth 100000 in
theorem spec_PlainPack.calls (k : Nat) (a0 : Int) (A1 : Option Addr) (c1 : Nat) (l1 : List (S27)) (r1 : List Int) (r2 : Bool) (w : World) (hr1 : Kd.C k27 w A1 l1.length l1) (hc1 : l1.length ≤ c1) (h : spec_PlainPack.f k a0 l1 = some (r1, r2)) :
    Calls Try.prog 32 #[.int .i64 a0, .slice A1 l1.length c1] w fun e w' => ∃ v0_ : Value, e = .returned (.tuple #[v0_, .bool r2]) ∧ Kd.R (Kd.int .u8) 5 w' w.heap.size (fun _ => True) v0_ r1 ∧ Below w.heap.size w w' := by
  have hu27 := Try.underlying27
  have HR1 := Aside0.mk hr1
  have HC1 := Aside0.mk hc1
  clear hr1 hc1
  have HB := Aside0.mk (Below.refl w.heap.size w)
  have H : ((some (([] : List Int) : List Int)).bind fun y135 => ((spec_l6Vals.f k a0 l1).bind fun t138 => (if t138 = true then (spec_PlainPack.l0 k a0 l1 y135 (([] : List Int)) 0) else (some (y135, false))))) = some (r1, r2) := h
  clear h
  replace H := bsm H
  obtain ⟨y135, Ny135, H⟩ := H
  replace H := bnd H
  obtain ⟨t138, A3, H⟩ := H
  by_cases c4 : t138 = true
  · subst c4
    replace H := ifp rfl H
    obtain ⟨y139, hy139⟩ : ∃ y_ : List Int, y_ = (([] : List Int)) := ⟨_, rfl⟩
    replace H : (spec_PlainPack.l0 k a0 l1 y135 y139 0) = some (r1, r2) := by first | (rw [hy139]; with_reducible exact H) | (rw [hy139]; exact H) | exact H
    have Ny139 := Aside0.mk hy139
    clear hy139
    have H' := Aside0.mk H
    clear H
    go_enter Try.func32, Try.ntmps32
    go_wp2_with (first | ((with_reducible refine gate_dst (N := 10) rfl ?_); refine Kd.R_lit (Kd.int .u8) _ 5 ?hg (N := 10) ?hd (xs := ([] : List Int)) (inner := []) (ok := fun _ => True) (okp := fun _ => True) ?hr ?hp (fun _ hk => hk) trivial (Below.refl _ _) (Nat.le_refl _) (by simp) ?_; (case hd => rfl); (case hg => rfl); (case hr => first | (go_simp; done) | (go_simp; rfl)); (case hp => exact (Reps.none _ _)); intro v136 w5 ho6 hb hg_ hnew_; clear hg_ hnew_; (first | rw [← Ny135.out] at ho6 | (simp only [Int.reduceToNat] at ho6; rw [← Ny135.out] at ho6)); have HO137 := Aside0.mk (Kd.R_lower ho6 (below_size (below_later HB.out))); replace HB := bst HB hb; clear hb ho6) | ((with_reducible refine gate_callee (f := 56) rfl ?_); refine gl_ (some 13) Try.func56 #[.int .i64 a0, .slice A1 l1.length c1] rfl ?_; (with_reducible refine (spec_l6Vals.calls k a0 _ _ l1 true _ ?side1 ?side2 A3.out).mono ?_); (case side1 => repeat (first | exact (Kd.C_below HR1.out HB.out) | (with_reducible refine Kd.C_alloc ?_ _) | (with_reducible refine Kd.C_drewN ?_ _) | (with_reducible refine Kd.C_drew ?_))); (case side2 => exact HC1.out); rintro e w7 ⟨rfl, hb⟩; refine ⟨_, rfl, ?_⟩; replace HO137 := Aside0.mk (Kd.R_below (R_later HO137.out) hb); replace HB := bst HB hb; (try clear hb); (try clear hk)) | ((with_reducible refine gate_dst (N := 16) rfl ?_); refine Kd.R_lit (Kd.int .i64) _ 3 ?hg (N := 16) ?hd (xs := ([] : List Int)) (inner := []) (ok := fun _ => True) (okp := fun _ => True) ?hr ?hp (fun _ hk => hk) trivial (Below.refl _ _) (Nat.le_refl _) (by simp) ?_; (case hd => rfl); (case hg => rfl); (case hr => first | (go_simp; done) | (go_simp; rfl)); (case hp => exact (Reps.none _ _)); intro v140 w8 ho9 hb hg_ hnew_; clear hg_ hnew_; (first | rw [← Ny139.out] at ho9 | (simp only [Int.reduceToNat] at ho9; rw [← Ny139.out] at ho9)); have HO141 := Aside0.mk (Kd.R_lower ho9 (below_size (below_later HB.out))); replace HO137 := Aside0.mk (Kd.R_below (R_later HO137.out) hb); replace HB := bst HB hb; clear hb ho9))
    go_loopg [6, 7, 8] k (fun kq v6 v7 v8 w' => ∃ (x6_1 : List Int) (x7_1 : List Int) (x8_1 : Int), v8 = .int .i64 x8_1 ∧ Aside0 (spec_PlainPack.l0 kq a0 l1 x6_1 x7_1 x8_1 = some (r1, r2)) ∧ Aside0 (kq ≤ k) ∧ Aside0 (Kd.R (Kd.int .u8) 5 w' w.heap.size (fun _ => True) v6 x6_1) ∧ Aside0 (Kd.R (Kd.int .i64) 3 w' w.heap.size (fun _ => True) v7 x7_1) ∧ Aside0 (Below w.heap.size w w'))
    case atStart => exact ⟨(y135), (y139), (0), sr, H', ⟨Nat.le_refl _⟩, ⟨R_later HO137.out⟩, ⟨R_later HO141.out⟩, ⟨below_later HB.out⟩⟩
    case round =>
      clear H'
      try clear c1
      try clear c4
      obtain ⟨x6_1, x7_1, x8_1, rfl, HA, HK1, HO_6, HO_7, HB⟩ := hrel
      cases gk with
      | zero => exact absurd HA.out (by simp [spec_PlainPack.l0])
      | succ k1 =>
        have H := HA.out
        clear HA
        simp only [spec_PlainPack.l0] at H
        by_cases c10 : x8_1 < (l1.length : Int)
        · rw [if_pos c10] at H
          have c10b0 := decide_eq_true c10
          clear c10
          replace H := ifd H
          obtain ⟨c11b0, H⟩ := H
          by_cases c12 : a0 = 0
          · rw [if_pos c12] at H
            have c12b0 : (a0 == 0) = true := beq_iff_eq.mpr c12
            have c12b1 : (a0 != 0) = false := bne_eq_false_iff_eq.mpr c12
            clear c12
            replace H := ifs H
            obtain ⟨c13, H⟩ := H
            have LMc13 := Aside0.mk c13
            clear c13
            obtain ⟨y148, hy148⟩ : ∃ y_ : List Int, y_ = (x7_1 ++ [(rd_T27 l1 x8_1).f0]) := ⟨_, rfl⟩
            replace H : (spec_PlainPack.l0 k1 a0 l1 x6_1 y148 (wrap64 (x8_1 + 1))) = some (r1, r2) := by first | (rw [hy148]; with_reducible exact H) | (rw [hy148]; exact H) | exact H
            have Ny148 := Aside0.mk hy148
            clear hy148
            have H' := Aside0.mk H
            clear H
            have p146 : 0 ≤ (x8_1 : Int) := dcd
            have q146 : x8_1 < (l1.length : Int) := dcd
            obtain ⟨ad146, e146, hx146_0, hx146_1⟩ := at_T27 HR1.out x8_1 p146 q146
            cases e146
            replace hx146_0 := crd HB hx146_0
            replace hx146_1 := crd HB hx146_1
            replace p146 := eq_true p146
            replace q146 := eq_true q146
            go_wp2_with (first | ((with_reducible refine gate_dst (N := 9) rfl ?_); refine bx_ 9 #[.int .i64 0, .string (⟨#[]⟩ : ByteArray)] 27 ?_; intro gb147 hg w14 hbox hb; have BK147 := Aside0.mk (hbox); have GW147 := gwe HB hg; have GE147 := GW147; replace HO_6 := Aside0.mk (Kd.R_below (R_later HO_6.out) hb); replace HO_7 := Aside0.mk (Kd.R_below (R_later HO_7.out) hb); replace HB := bst HB hb; clear hb hbox hg; obtain ⟨hcz15_0, hcz15_1, hfz15_0, hfz15_1⟩ := cl2 BK147) | ((with_reducible refine gate_builtin (b := .append) (xs := #[.tmp 35, .tmp 38]) rfl ?_); at_builtin; refine Kd.R_append (Kd.int .i64) (w0 := w) w.heap.size rfl (.tmp 35) (.tmp 38) 83 3 (.int .i64 0) 8 rfl Try.underlying83 info3 rfl (by decide) (by omega) u7 x7_1 ((rd_T27 l1 x8_1).f0) [.int .i64 ((rd_T27 l1 x8_1).f0)] (fun _ => True) (fun _ => False) rfl (by first | (go_simp; done) | (go_simp; rfl)) ?aP (fun _ hk => hk.elim) ?aF ?aO ?aB ?aS ?aL ?_; (case aP => exact rfl); (case aB => exact (below_later HB.out)); (case aF => exact (fun _ _ => trivial)); (case aO => exact (by (with_reducible repeat (first | apply Kd.R_alloc | apply Kd.R_drewN | apply Kd.R_drew)); exact Kd.R_mono (Kd.R_far (p := ⟨gb147, 1, none⟩) (Kd.R_far (p := ⟨gb147, 0, none⟩) (Kd.R_types HO_7.out BK147.out (by decide)) (fun _ hk => hk.2) (.int .i64 ((rd_T27 l1 x8_1).f0))) (fun _ hk => hk.2) (.string ((rd_T27 l1 x8_1).f1))) (fun _ hk => trivial))); (case aS => exact (below_size (below_later HB.out))); (case aL => have := LMc13.out; omega); intro v149 w16 ho hb hg hat; rw [← Ny148.out] at ho; have n0_ := Aside0.mk (Kd.R_over' (by (with_reducible repeat (first | apply Kd.R_alloc | apply Kd.R_drewN | apply Kd.R_drew)); exact (Kd.R_mono (Kd.R_far (p := ⟨gb147, 1, none⟩) (Kd.R_far (p := ⟨gb147, 0, none⟩) (Kd.R_types HO_6.out BK147.out (by decide)) (fun _ hk => hk.2) (.int .i64 ((rd_T27 l1 x8_1).f0))) (fun _ hk => hk.2) (.string ((rd_T27 l1 x8_1).f1))) (fun _ h_ => h_.1))) (Kd.R_typed (by (with_reducible repeat (first | apply Kd.R_alloc | apply Kd.R_drewN | apply Kd.R_drew)); exact (Kd.R_mono (Kd.R_far (p := ⟨gb147, 1, none⟩) (Kd.R_far (p := ⟨gb147, 0, none⟩) (Kd.R_types HO_7.out BK147.out (by decide)) (fun _ hk => hk.2) (.int .i64 ((rd_T27 l1 x8_1).f0))) (fun _ hk => hk.2) (.string ((rd_T27 l1 x8_1).f1))) (fun _ h_ => h_.1)))) (by decide) hg); have n1_ := Aside0.mk (blk_grown (g := gb147) (o := .cells #[.int .i64 ((rd_T27 l1 x8_1).f0), .string ((rd_T27 l1 x8_1).f1)] 27 (0, 0)) (blk_later BK147.out) hg (Kd.R_ne HO_7.out BK147.out (by decide))); have n2_ := Aside0.mk (hb); have n3_ := Aside0.mk (ho); clear HO_6; clear BK147; clear HB; clear HO_7; have HO_6 := n0_; have BK147 := n1_; have HB := n2_; have HO150 := n3_; clear n0_ n1_ n2_ n3_; clear ho hb hg hat))
            go_roundg k1
            case measure => have := HK1.out; omega
            case rel => exact ⟨(x6_1), (y148), (wrap64 (x8_1 + 1)), sr, H', ⟨by have := HK1.out; omega⟩, ⟨R_later HO_6.out⟩, ⟨R_later HO150.out⟩, ⟨below_later HB.out⟩⟩
          · rw [if_neg c12] at H
            have c12b0 : (a0 == 0) = false := beq_eq_false_iff_ne.mpr c12
            have c12b1 : (a0 != 0) = true := bne_iff_ne.mpr c12
            by_cases c17 : a0 = 1
            · rw [if_pos c17] at H
              have c17b0 : (a0 == 1) = true := beq_iff_eq.mpr c17
              have c17b1 : (a0 != 1) = false := bne_eq_false_iff_eq.mpr c17
              clear c17
              replace H := bnd H
              obtain ⟨t151, A18, H⟩ := H
              replace H := ifs H
              obtain ⟨c19, H⟩ := H
              have LMc19 := Aside0.mk c19
              clear c19
              obtain ⟨y154, hy154⟩ : ∃ y_ : List Int, y_ = (x6_1 ++ t151) := ⟨_, rfl⟩
              replace H : (spec_PlainPack.l0 k1 a0 l1 y154 x7_1 (wrap64 (x8_1 + 1))) = some (r1, r2) := by first | (rw [hy154]; with_reducible exact H) | (rw [hy154]; exact H) | exact H
              have Ny154 := Aside0.mk hy154
              clear hy154
              have H' := Aside0.mk H
              clear H
              have p146 : 0 ≤ (x8_1 : Int) := dcd
              have q146 : x8_1 < (l1.length : Int) := dcd
              obtain ⟨ad146, e146, hx146_0, hx146_1⟩ := at_T27 HR1.out x8_1 p146 q146
              cases e146
              replace hx146_0 := crd HB hx146_0
              replace hx146_1 := crd HB hx146_1
              replace p146 := eq_true p146
              replace q146 := eq_true q146
              go_wp2_with (first | ((with_reducible refine gate_dst (N := 9) rfl ?_); refine bx_ 9 #[.int .i64 0, .string (⟨#[]⟩ : ByteArray)] 27 ?_; intro gb147 hg w20 hbox hb; have BK147 := Aside0.mk (hbox); have GW147 := gwe HB hg; have GE147 := GW147; replace HO_6 := Aside0.mk (Kd.R_below (R_later HO_6.out) hb); replace HO_7 := Aside0.mk (Kd.R_below (R_later HO_7.out) hb); replace HB := bst HB hb; clear hb hbox hg; obtain ⟨hcz21_0, hcz21_1, hfz21_0, hfz21_1⟩ := cl2 BK147) | ((with_reducible refine gate_callee (f := 57) rfl ?_); refine gl_ (some 45) Try.func57 #[.int .i64 ((rd_T27 l1 x8_1).f0), .int .i64 4] rfl ?_; (with_reducible refine (spec_WordPut.calls k1 ((rd_T27 l1 x8_1).f0) 4 t151 _ A18.out).mono ?_); rintro e w22 ⟨v152, rfl, ho0, hb⟩; refine ⟨_, rfl, ?_⟩; have HO153 := Aside0.mk (Kd.R_lower (Kd.R_new' ho0 (Kd.R_lt (by (with_reducible repeat (first | apply Kd.R_alloc | apply Kd.R_drewN | apply Kd.R_drew)); exact (Kd.R_mono (Kd.R_far (p := ⟨gb147, 1, none⟩) (Kd.R_far (p := ⟨gb147, 0, none⟩) (Kd.R_types HO_6.out BK147.out (by decide)) (fun _ hk => hk.2) (.int .i64 ((rd_T27 l1 x8_1).f0))) (fun _ hk => hk.2) (.string ((rd_T27 l1 x8_1).f1))) (fun _ h_ => h_.1))))) (below_size (below_later HB.out))); replace HO_6 := Aside0.mk (Kd.R_elder' (by (with_reducible repeat (first | apply Kd.R_alloc | apply Kd.R_drewN | apply Kd.R_drew)); exact (Kd.R_mono (Kd.R_far (p := ⟨gb147, 1, none⟩) (Kd.R_far (p := ⟨gb147, 0, none⟩) (Kd.R_types HO_6.out BK147.out (by decide)) (fun _ hk => hk.2) (.int .i64 ((rd_T27 l1 x8_1).f0))) (fun _ hk => hk.2) (.string ((rd_T27 l1 x8_1).f1))) (fun _ h_ => h_.1))) (Kd.R_base ho0) hb); replace HO_7 := Aside0.mk (Kd.R_below (by (with_reducible repeat (first | apply Kd.R_alloc | apply Kd.R_drewN | apply Kd.R_drew)); exact (Kd.R_mono (Kd.R_far (p := ⟨gb147, 1, none⟩) (Kd.R_far (p := ⟨gb147, 0, none⟩) (Kd.R_types HO_7.out BK147.out (by decide)) (fun _ hk => hk.2) (.int .i64 ((rd_T27 l1 x8_1).f0))) (fun _ hk => hk.2) (.string ((rd_T27 l1 x8_1).f1))) (fun _ h_ => h_.1))) hb); replace BK147 := Aside0.mk (blk_below (g := gb147) (o := .cells #[.int .i64 ((rd_T27 l1 x8_1).f0), .string ((rd_T27 l1 x8_1).f1)] 27 (0, 0)) (blk_later BK147.out) hb); replace HB := bst HB hb; (try clear hb); (try clear hk); (try clear ho0); obtain ⟨Ao24, co24, eo24⟩ := Kd.R_slice HO153.out; subst eo24) | ((with_reducible refine gate_builtin (b := .append) (xs := #[.tmp 42, .tmp 45]) rfl ?_); at_builtin; refine Kd.R_append_rows (Kd.int .u8) (w0 := w) w.heap.size rfl (.tmp 42) (.tmp 45) 41 5 (.int .u8 0) 1 rfl Try.underlying41 info5 rfl (by decide) (by omega) u6 x6_1 t151 _ _ _ (fun k_ => some k_ ≠ (.slice Ao24 t151.length co24 : Value).ownBlock) (fun _ => False) rfl rfl ?aO ?aR (fun _ _ h => h) (fun _ h => h.elim) ?aF ?aB ?aS ?aL ?_; (case aR => repeat (first | exact (Kd.R_reads' HO153.out).2.2 | (with_reducible refine Kd.C_alloc ?_ _) | (with_reducible refine Kd.C_drewN ?_ _) | (with_reducible refine Kd.C_drew ?_))); (case aB => exact (below_later HB.out)); (case aF => exact (fun k_ hk => Kd.fresh' (Kd.R_lt (R_later HO153.out)) k_ hk)); (case aO => exact (by (with_reducible repeat (first | apply Kd.R_alloc | apply Kd.R_drewN | apply Kd.R_drew)); exact Kd.R_mono HO_6.out (fun _ hk => hk.2))); (case aS => exact (below_size (below_later HB.out))); (case aL => have := LMc19.out; omega); intro v155 w23 ho hb hg hat; rw [← Ny154.out] at ho; have n0_ := Aside0.mk (Kd.R_over' (R_later HO_7.out) (Kd.R_typed (R_later HO_6.out)) (by decide) hg); have n1_ := Aside0.mk (blk_grown (blk_later BK147.out) hg (Kd.R_ne HO_6.out BK147.out (by decide))); have n2_ := Aside0.mk (Kd.R_after (ok := (fun _ => True)) (R_later HO153.out) hg hat); have n3_ := Aside0.mk (hb); have n4_ := Aside0.mk (ho); clear HO_7; clear BK147; clear HO153; clear HB; clear HO_6; have HO_7 := n0_; have BK147 := n1_; have HO153 := n2_; have HB := n3_; have HO156 := n4_; clear n0_ n1_ n2_ n3_ n4_; clear ho hb hg hat))
              go_roundg k1
              case measure => have := HK1.out; omega
              case rel => exact ⟨(y154), (x7_1), (wrap64 (x8_1 + 1)), sr, H', ⟨by have := HK1.out; omega⟩, ⟨R_later (Kd.R_mono HO156.out (fun _ hk => trivial))⟩, ⟨R_later HO_7.out⟩, ⟨below_later HB.out⟩⟩
            · rw [if_neg c17] at H
              have c17b0 : (a0 == 1) = false := beq_eq_false_iff_ne.mpr c17
              have c17b1 : (a0 != 1) = true := bne_iff_ne.mpr c17
              by_cases c25 : a0 = 6
              · rw [if_pos c25] at H
                have c25b0 : (a0 == 6) = true := beq_iff_eq.mpr c25
                have c25b1 : (a0 != 6) = false := bne_eq_false_iff_eq.mpr c25
                clear c25
                replace H := bnd H
                obtain ⟨t157, A26, H⟩ := H
                replace H := ifs H
                obtain ⟨c27, H⟩ := H
                have LMc27 := Aside0.mk c27
                clear c27
                replace H := bsm H
                obtain ⟨y160, Ny160, H⟩ := H
                replace H := ifs H
                obtain ⟨c28, H⟩ := H
                have LMc28 := Aside0.mk c28
                clear c28
                obtain ⟨y163, hy163⟩ : ∃ y_ : List Int, y_ = (y160 ++ bytesOf ((rd_T27 l1 x8_1).f1)) := ⟨_, rfl⟩
                replace H : (spec_PlainPack.l0 k1 a0 l1 y163 x7_1 (wrap64 (x8_1 + 1))) = some (r1, r2) := by first | (rw [hy163]; with_reducible exact H) | (rw [hy163]; exact H) | exact H
                have Ny163 := Aside0.mk hy163
                clear hy163
                have H' := Aside0.mk H
                clear H
                have p146 : 0 ≤ (x8_1 : Int) := dcd
                have q146 : x8_1 < (l1.length : Int) := dcd
                obtain ⟨ad146, e146, hx146_0, hx146_1⟩ := at_T27 HR1.out x8_1 p146 q146
                cases e146
                replace hx146_0 := crd HB hx146_0
                replace hx146_1 := crd HB hx146_1
                replace p146 := eq_true p146
                replace q146 := eq_true q146
                go_wp2_with (first | ((with_reducible refine gate_dst (N := 9) rfl ?_); refine bx_ 9 #[.int .i64 0, .string (⟨#[]⟩ : ByteArray)] 27 ?_; intro gb147 hg w29 hbox hb; have BK147 := Aside0.mk (hbox); have GW147 := gwe HB hg; have GE147 := GW147; replace HO_6 := Aside0.mk (Kd.R_below (R_later HO_6.out) hb); replace HO_7 := Aside0.mk (Kd.R_below (R_later HO_7.out) hb); replace HB := bst HB hb; clear hb hbox hg; obtain ⟨hcz30_0, hcz30_1, hfz30_0, hfz30_1⟩ := cl2 BK147) | ((with_reducible refine gate_callee (f := 57) rfl ?_); refine gl_ (some 53) Try.func57 #[.int .i64 (((rd_T27 l1 x8_1).f1).size : Int), .int .i64 4] rfl ?_; (with_reducible refine (spec_WordPut.calls k1 (((rd_T27 l1 x8_1).f1).size : Int) 4 t157 _ A26.out).mono ?_); rintro e w31 ⟨v158, rfl, ho0, hb⟩; refine ⟨_, rfl, ?_⟩; have HO159 := Aside0.mk (Kd.R_lower (Kd.R_new' ho0 (Kd.R_lt (by (with_reducible repeat (first | apply Kd.R_alloc | apply Kd.R_drewN | apply Kd.R_drew)); exact (Kd.R_mono (Kd.R_far (p := ⟨gb147, 1, none⟩) (Kd.R_far (p := ⟨gb147, 0, none⟩) (Kd.R_types HO_6.out BK147.out (by decide)) (fun _ hk => hk.2) (.int .i64 ((rd_T27 l1 x8_1).f0))) (fun _ hk => hk.2) (.string ((rd_T27 l1 x8_1).f1))) (fun _ h_ => h_.1))))) (below_size (below_later HB.out))); replace HO_6 := Aside0.mk (Kd.R_elder' (by (with_reducible repeat (first | apply Kd.R_alloc | apply Kd.R_drewN | apply Kd.R_drew)); exact (Kd.R_mono (Kd.R_far (p := ⟨gb147, 1, none⟩) (Kd.R_far (p := ⟨gb147, 0, none⟩) (Kd.R_types HO_6.out BK147.out (by decide)) (fun _ hk => hk.2) (.int .i64 ((rd_T27 l1 x8_1).f0))) (fun _ hk => hk.2) (.string ((rd_T27 l1 x8_1).f1))) (fun _ h_ => h_.1))) (Kd.R_base ho0) hb); replace HO_7 := Aside0.mk (Kd.R_below (by (with_reducible repeat (first | apply Kd.R_alloc | apply Kd.R_drewN | apply Kd.R_drew)); exact (Kd.R_mono (Kd.R_far (p := ⟨gb147, 1, none⟩) (Kd.R_far (p := ⟨gb147, 0, none⟩) (Kd.R_types HO_7.out BK147.out (by decide)) (fun _ hk => hk.2) (.int .i64 ((rd_T27 l1 x8_1).f0))) (fun _ hk => hk.2) (.string ((rd_T27 l1 x8_1).f1))) (fun _ h_ => h_.1))) hb); replace BK147 := Aside0.mk (blk_below (g := gb147) (o := .cells #[.int .i64 ((rd_T27 l1 x8_1).f0), .string ((rd_T27 l1 x8_1).f1)] 27 (0, 0)) (blk_later BK147.out) hb); replace HB := bst HB hb; (try clear hb); (try clear hk); (try clear ho0); obtain ⟨Ao33, co33, eo33⟩ := Kd.R_slice HO159.out; subst eo33) | ((with_reducible refine gate_builtin (b := .append) (xs := #[.tmp 49, .tmp 53]) rfl ?_); at_builtin; refine Kd.R_append_rows (Kd.int .u8) (w0 := w) w.heap.size rfl (.tmp 49) (.tmp 53) 41 5 (.int .u8 0) 1 rfl Try.underlying41 info5 rfl (by decide) (by omega) u6 x6_1 t157 _ _ _ (fun k_ => some k_ ≠ (.slice Ao33 t157.length co33 : Value).ownBlock) (fun _ => False) rfl rfl ?aO ?aR (fun _ _ h => h) (fun _ h => h.elim) ?aF ?aB ?aS ?aL ?_; (case aR => repeat (first | exact (Kd.R_reads' HO159.out).2.2 | (with_reducible refine Kd.C_alloc ?_ _) | (with_reducible refine Kd.C_drewN ?_ _) | (with_reducible refine Kd.C_drew ?_))); (case aB => exact (below_later HB.out)); (case aF => exact (fun k_ hk => Kd.fresh' (Kd.R_lt (R_later HO159.out)) k_ hk)); (case aO => exact (by (with_reducible repeat (first | apply Kd.R_alloc | apply Kd.R_drewN | apply Kd.R_drew)); exact Kd.R_mono HO_6.out (fun _ hk => hk.2))); (case aS => exact (below_size (below_later HB.out))); (case aL => have := LMc27.out; omega); intro v161 w32 ho hb hg hat; rw [← Ny160.out] at ho; have n0_ := Aside0.mk (Kd.R_over' (R_later HO_7.out) (Kd.R_typed (R_later HO_6.out)) (by decide) hg); have n1_ := Aside0.mk (blk_grown (blk_later BK147.out) hg (Kd.R_ne HO_6.out BK147.out (by decide))); have n2_ := Aside0.mk (Kd.R_after (ok := (fun _ => True)) (R_later HO159.out) hg hat); have n3_ := Aside0.mk (hb); have n4_ := Aside0.mk (ho); clear HO_7; clear BK147; clear HO159; clear HB; clear HO_6; have HO_7 := n0_; have BK147 := n1_; have HO159 := n2_; have HB := n3_; have HO162 := n4_; clear n0_ n1_ n2_ n3_ n4_; clear ho hb hg hat; obtain ⟨hcz34_0, hcz34_1, hfz34_0, hfz34_1⟩ := cl2 BK147) | ((with_reducible refine gate_dst (N := 58) rfl ?_); refine Go.Proofs.YtgiljoeekpfpmaaW.PrintMore2.conv_event rfl (N := 58) rfl 9 41 5 _ rfl Try.underlying9 Try.underlying41 Try.underlying5 ((rd_T27 l1 x8_1).f1) rfl ?_) | ((with_reducible refine gate_builtin (b := .append) (xs := #[.tmp 55, .tmp 58]) rfl ?_); at_builtin; refine Go.Proofs.YtgiljoeekpfpmaaW.PrintMore2.R_append_conv (w0 := w) w.heap.size rfl (.tmp 55) (.tmp 58) 41 5 rfl Try.underlying41 info5 v161 y160 ((rd_T27 l1 x8_1).f1) _ (fun k_ => some k_ ≠ (.slice Ao33 t157.length co33 : Value).ownBlock) rfl rfl ?aO ?aF ?aB ?aS ?aL ?_; (case aB => exact (below_later HB.out)); (case aF => exact (fun k_ hk => Kd.fresh' (Kd.R_lt (R_later HO159.out)) k_ hk)); (case aO => exact (R_later HO162.out)); (case aS => exact (below_size (below_later HB.out))); (case aL => have := LMc28.out; omega); intro v164 w35 ho hb hg hat; rw [← Ny163.out] at ho; have n0_ := Aside0.mk (Kd.R_over' (R_later HO_7.out) (Kd.R_typed (R_later HO162.out)) (by decide) hg); have n1_ := Aside0.mk (blk_grown (blk_later BK147.out) hg (Kd.R_ne HO162.out BK147.out (by decide))); have n2_ := Aside0.mk (Kd.R_after (ok := (fun _ => True)) (R_later HO159.out) hg hat); have n3_ := Aside0.mk (hb); have n4_ := Aside0.mk (ho); clear HO_7; clear BK147; clear HO159; clear HB; clear HO162; have HO_7 := n0_; have BK147 := n1_; have HO159 := n2_; have HB := n3_; have HO165 := n4_; clear n0_ n1_ n2_ n3_ n4_; clear ho hb hg hat))
                go_roundg k1
                case measure => have := HK1.out; omega
                case rel => exact ⟨(y163), (x7_1), (wrap64 (x8_1 + 1)), sr, H', ⟨by have := HK1.out; omega⟩, ⟨R_later (Kd.R_mono HO165.out (fun _ hk => trivial))⟩, ⟨R_later HO_7.out⟩, ⟨below_later HB.out⟩⟩
              · rw [if_neg c25] at H
                have c25b0 : (a0 == 6) = false := beq_eq_false_iff_ne.mpr c25
                have c25b1 : (a0 != 6) = true := bne_iff_ne.mpr c25
                replace H := bnd H
                obtain ⟨t166, A36, H⟩ := H
                replace H := ifs H
                obtain ⟨c37, H⟩ := H
                have LMc37 := Aside0.mk c37
                clear c37
                obtain ⟨y169, hy169⟩ : ∃ y_ : List Int, y_ = (x6_1 ++ t166) := ⟨_, rfl⟩
                replace H : (spec_PlainPack.l0 k1 a0 l1 y169 x7_1 (wrap64 (x8_1 + 1))) = some (r1, r2) := by first | (rw [hy169]; with_reducible exact H) | (rw [hy169]; exact H) | exact H
                have Ny169 := Aside0.mk hy169
                clear hy169
                have H' := Aside0.mk H
                clear H
                have p146 : 0 ≤ (x8_1 : Int) := dcd
                have q146 : x8_1 < (l1.length : Int) := dcd
                obtain ⟨ad146, e146, hx146_0, hx146_1⟩ := at_T27 HR1.out x8_1 p146 q146
                cases e146
                replace hx146_0 := crd HB hx146_0
                replace hx146_1 := crd HB hx146_1
                replace p146 := eq_true p146
                replace q146 := eq_true q146
                go_wp2_with (first | ((with_reducible refine gate_dst (N := 9) rfl ?_); refine bx_ 9 #[.int .i64 0, .string (⟨#[]⟩ : ByteArray)] 27 ?_; intro gb147 hg w38 hbox hb; have BK147 := Aside0.mk (hbox); have GW147 := gwe HB hg; have GE147 := GW147; replace HO_6 := Aside0.mk (Kd.R_below (R_later HO_6.out) hb); replace HO_7 := Aside0.mk (Kd.R_below (R_later HO_7.out) hb); replace HB := bst HB hb; clear hb hbox hg; obtain ⟨hcz39_0, hcz39_1, hfz39_0, hfz39_1⟩ := cl2 BK147) | ((with_reducible refine gate_callee (f := 57) rfl ?_); refine gl_ (some 31) Try.func57 #[.int .i64 ((rd_T27 l1 x8_1).f0), .int .i64 8] rfl ?_; (with_reducible refine (spec_WordPut.calls k1 ((rd_T27 l1 x8_1).f0) 8 t166 _ A36.out).mono ?_); rintro e w40 ⟨v167, rfl, ho0, hb⟩; refine ⟨_, rfl, ?_⟩; have HO168 := Aside0.mk (Kd.R_lower (Kd.R_new' ho0 (Kd.R_lt (by (with_reducible repeat (first | apply Kd.R_alloc | apply Kd.R_drewN | apply Kd.R_drew)); exact (Kd.R_mono (Kd.R_far (p := ⟨gb147, 1, none⟩) (Kd.R_far (p := ⟨gb147, 0, none⟩) (Kd.R_types HO_6.out BK147.out (by decide)) (fun _ hk => hk.2) (.int .i64 ((rd_T27 l1 x8_1).f0))) (fun _ hk => hk.2) (.string ((rd_T27 l1 x8_1).f1))) (fun _ h_ => h_.1))))) (below_size (below_later HB.out))); replace HO_6 := Aside0.mk (Kd.R_elder' (by (with_reducible repeat (first | apply Kd.R_alloc | apply Kd.R_drewN | apply Kd.R_drew)); exact (Kd.R_mono (Kd.R_far (p := ⟨gb147, 1, none⟩) (Kd.R_far (p := ⟨gb147, 0, none⟩) (Kd.R_types HO_6.out BK147.out (by decide)) (fun _ hk => hk.2) (.int .i64 ((rd_T27 l1 x8_1).f0))) (fun _ hk => hk.2) (.string ((rd_T27 l1 x8_1).f1))) (fun _ h_ => h_.1))) (Kd.R_base ho0) hb); replace HO_7 := Aside0.mk (Kd.R_below (by (with_reducible repeat (first | apply Kd.R_alloc | apply Kd.R_drewN | apply Kd.R_drew)); exact (Kd.R_mono (Kd.R_far (p := ⟨gb147, 1, none⟩) (Kd.R_far (p := ⟨gb147, 0, none⟩) (Kd.R_types HO_7.out BK147.out (by decide)) (fun _ hk => hk.2) (.int .i64 ((rd_T27 l1 x8_1).f0))) (fun _ hk => hk.2) (.string ((rd_T27 l1 x8_1).f1))) (fun _ h_ => h_.1))) hb); replace BK147 := Aside0.mk (blk_below (g := gb147) (o := .cells #[.int .i64 ((rd_T27 l1 x8_1).f0), .string ((rd_T27 l1 x8_1).f1)] 27 (0, 0)) (blk_later BK147.out) hb); replace HB := bst HB hb; (try clear hb); (try clear hk); (try clear ho0); obtain ⟨Ao42, co42, eo42⟩ := Kd.R_slice HO168.out; subst eo42) | ((with_reducible refine gate_builtin (b := .append) (xs := #[.tmp 28, .tmp 31]) rfl ?_); at_builtin; refine Kd.R_append_rows (Kd.int .u8) (w0 := w) w.heap.size rfl (.tmp 28) (.tmp 31) 41 5 (.int .u8 0) 1 rfl Try.underlying41 info5 rfl (by decide) (by omega) u6 x6_1 t166 _ _ _ (fun k_ => some k_ ≠ (.slice Ao42 t166.length co42 : Value).ownBlock) (fun _ => False) rfl rfl ?aO ?aR (fun _ _ h => h) (fun _ h => h.elim) ?aF ?aB ?aS ?aL ?_; (case aR => repeat (first | exact (Kd.R_reads' HO168.out).2.2 | (with_reducible refine Kd.C_alloc ?_ _) | (with_reducible refine Kd.C_drewN ?_ _) | (with_reducible refine Kd.C_drew ?_))); (case aB => exact (below_later HB.out)); (case aF => exact (fun k_ hk => Kd.fresh' (Kd.R_lt (R_later HO168.out)) k_ hk)); (case aO => exact (by (with_reducible repeat (first | apply Kd.R_alloc | apply Kd.R_drewN | apply Kd.R_drew)); exact Kd.R_mono HO_6.out (fun _ hk => hk.2))); (case aS => exact (below_size (below_later HB.out))); (case aL => have := LMc37.out; omega); intro v170 w41 ho hb hg hat; rw [← Ny169.out] at ho; have n0_ := Aside0.mk (Kd.R_over' (R_later HO_7.out) (Kd.R_typed (R_later HO_6.out)) (by decide) hg); have n1_ := Aside0.mk (blk_grown (blk_later BK147.out) hg (Kd.R_ne HO_6.out BK147.out (by decide))); have n2_ := Aside0.mk (Kd.R_after (ok := (fun _ => True)) (R_later HO168.out) hg hat); have n3_ := Aside0.mk (hb); have n4_ := Aside0.mk (ho); clear HO_7; clear BK147; clear HO168; clear HB; clear HO_6; have HO_7 := n0_; have BK147 := n1_; have HO168 := n2_; have HB := n3_; have HO171 := n4_; clear n0_ n1_ n2_ n3_ n4_; clear ho hb hg hat))
                go_roundg k1
                case measure => have := HK1.out; omega
                case rel => exact ⟨(y169), (x7_1), (wrap64 (x8_1 + 1)), sr, H', ⟨by have := HK1.out; omega⟩, ⟨R_later (Kd.R_mono HO171.out (fun _ hk => trivial))⟩, ⟨R_later HO_7.out⟩, ⟨below_later HB.out⟩⟩
        · rw [if_neg c10] at H
          have c10b0 := decide_eq_false c10
          clear c10
          by_cases c43 : a0 = 0
          · rw [if_pos c43] at H
            have c43b0 : (a0 == 0) = true := beq_iff_eq.mpr c43
            have c43b1 : (a0 != 0) = false := bne_eq_false_iff_eq.mpr c43
            clear c43
            replace H := Option.bind_eq_some_iff.mp H
            obtain ⟨⟨t142, t143⟩, A440, H⟩ := H
            replace H : (some (t142, t143)) = some (r1, r2) := H
            have A44 := Aside0.mk A440
            clear A440
            simp only [Option.some.injEq, Prod.mk.injEq] at H
            obtain ⟨rfl, rfl⟩ := H
            obtain ⟨Ao45, co45, eo45⟩ := Kd.R_slice HO_7.out
            subst eo45
            go_wp2_with (first | ((with_reducible refine gate_callee (f := 58) rfl ?_); refine gl_ (some 63) Try.func58 #[.slice Ao45 x7_1.length co45, .int .i64 1] rfl ?_; (with_reducible refine (spec_BitsPack.calls k1 _ _ x7_1 1 t142 t143 _ ?side1 ?side2 A44.out).mono ?_); (case side1 => repeat (first | exact (Kd.R_reads' HO_7.out).2.2 | (with_reducible refine Kd.C_alloc ?_ _) | (with_reducible refine Kd.C_drewN ?_ _) | (with_reducible refine Kd.C_drew ?_))); (case side2 => exact (Kd.R_reads' HO_7.out).2.1); rintro e w46 ⟨v144, rfl, ho0, hb⟩; refine ⟨_, rfl, ?_⟩; have HO145 := Aside0.mk (Kd.R_lower (Kd.R_new' ho0 (Kd.R_lt (R_later HO_6.out))) (below_size (below_later HB.out))); replace HO_6 := Aside0.mk (Kd.R_elder' (R_later HO_6.out) (Kd.R_base ho0) hb); replace HO_7 := Aside0.mk (Kd.R_below (R_later HO_7.out) hb); replace HB := bst HB hb; (try clear hb); (try clear ho0)))
            go_ret2
            exact ⟨_, by first | rfl | (simp [errW_none, errW_some] <;> rfl) | (simp [*, errW_none, errW_some] <;> rfl), by (with_reducible repeat (first | apply Kd.R_alloc | apply Kd.R_drewN | apply Kd.R_drew)); exact Kd.R_mono HO145.out (fun _ hk => trivial), below_later HB.out⟩
          · rw [if_neg c43] at H
            have c43b0 : (a0 == 0) = false := beq_eq_false_iff_ne.mpr c43
            have c43b1 : (a0 != 0) = true := bne_iff_ne.mpr c43
            simp only [Option.some.injEq, Prod.mk.injEq] at H
            obtain ⟨rfl, rfl⟩ := H
            go_wp2
            go_ret2
            exact ⟨_, by first | rfl | (simp [errW_none, errW_some] <;> rfl) | (simp [*, errW_none, errW_some] <;> rfl), by (with_reducible repeat (first | apply Kd.R_alloc | apply Kd.R_drewN | apply Kd.R_drew)); exact HO_6.out, below_later HB.out⟩
  · replace c4 := Bool.eq_false_iff.mpr c4
    subst c4
    replace H := ifn Bool.false_ne_true H
    simp only [Option.some.injEq, Prod.mk.injEq] at H
    obtain ⟨rfl, rfl⟩ := H
    go_enter Try.func32, Try.ntmps32
    go_wp2_with (first | ((with_reducible refine gate_dst (N := 10) rfl ?_); refine Kd.R_lit (Kd.int .u8) _ 5 ?hg (N := 10) ?hd (xs := ([] : List Int)) (inner := []) (ok := fun _ => True) (okp := fun _ => True) ?hr ?hp (fun _ hk => hk) trivial (Below.refl _ _) (Nat.le_refl _) (by simp) ?_; (case hd => rfl); (case hg => rfl); (case hr => first | (go_simp; done) | (go_simp; rfl)); (case hp => exact (Reps.none _ _)); intro v136 w47 ho48 hb hg_ hnew_; clear hg_ hnew_; (first | rw [← Ny135.out] at ho48 | (simp only [Int.reduceToNat] at ho48; rw [← Ny135.out] at ho48)); have HO137 := Aside0.mk (Kd.R_lower ho48 (below_size (below_later HB.out))); replace HB := bst HB hb; clear hb ho48) | ((with_reducible refine gate_callee (f := 56) rfl ?_); refine gl_ (some 13) Try.func56 #[.int .i64 a0, .slice A1 l1.length c1] rfl ?_; (with_reducible refine (spec_l6Vals.calls k a0 _ _ l1 false _ ?side1 ?side2 A3.out).mono ?_); (case side1 => repeat (first | exact (Kd.C_below HR1.out HB.out) | (with_reducible refine Kd.C_alloc ?_ _) | (with_reducible refine Kd.C_drewN ?_ _) | (with_reducible refine Kd.C_drew ?_))); (case side2 => exact HC1.out); rintro e w49 ⟨rfl, hb⟩; refine ⟨_, rfl, ?_⟩; replace HO137 := Aside0.mk (Kd.R_below (R_later HO137.out) hb); replace HB := bst HB hb; (try clear hb); (try clear hk)))
    go_ret2
    exact ⟨_, by first | rfl | (simp [errW_none, errW_some] <;> rfl) | (simp [*, errW_none, errW_some] <;> rfl), by (with_reducible repeat (first | apply Kd.R_alloc | apply Kd.R_drewN | apply Kd.R_drew)); exact HO137.out, below_later HB.out⟩

/-! ### spec_l16Int: function 34 -/
def spec_l16Int.f (a0 : Int) (a1 : Int) : Option (Int × Int × Int × ByteArray × Int) := some (5, a0, a1, (⟨#[]⟩ : ByteArray), 0)
set_option maxHeartbeats 8000000 in
set_option maxRecDepth 100000 in
theorem spec_l16Int.calls (a0 : Int) (a1 : Int) (r1 : Int) (r2 : Int) (r3 : Int) (r4 : ByteArray) (r5 : Int) (w : World) (h : spec_l16Int.f a0 a1 = some (r1, r2, r3, r4, r5)) :
    Calls Try.prog 34 #[.int .i64 a0, .int .i64 a1] w fun e w' => e = .returned (.agg #[.int .i64 r1, .int .i64 r2, .int .i64 r3, .string r4, .int .i64 r5]) ∧ Below w.heap.size w w' := by
  have hu57 := Try.underlying57
  have HB := Aside0.mk (Below.refl w.heap.size w)
  have H : (some (5, a0, a1, (⟨#[]⟩ : ByteArray), 0)) = some (r1, r2, r3, r4, r5) := h
  clear h
  simp only [Option.some.injEq, Prod.mk.injEq] at H
  obtain ⟨rfl, rfl, rfl, rfl, rfl⟩ := H
  go_enter Try.func34, Try.ntmps34
  go_wp2_with (first | ((with_reducible refine gate_dst (N := 4) rfl ?_); refine bx_ 4 #[.int .i64 0, .int .i64 0, .int .i64 0, .string (⟨#[]⟩ : ByteArray), .int .i64 0] 57 ?_; intro gb172 hg w3 hbox hb; have BK172 := Aside0.mk (hbox); have GW172 := gwe HB hg; have GE172 := GW172; replace HB := bst HB hb; clear hb hbox hg; obtain ⟨hcz4_0, hcz4_1, hcz4_2, hcz4_3, hcz4_4, hfz4_0, hfz4_1, hfz4_2, hfz4_3, hfz4_4⟩ := cl5 BK172))
  refine bodyPost_ret (results_cell_row rfl _ _ gb172 57 #[.int .i64 5, .int .i64 a0, .int .i64 a1, .string (⟨#[]⟩ : ByteArray), .int .i64 0] (0, 0) _ rfl (by (with_reducible repeat (first | refine blk_drewN ?_ _ | refine blk_drew ?_ | refine blk_alloc ?_ _)); refine blk_put (cs := #[.int .i64 5, .int .i64 a0, .int .i64 a1, .string (⟨#[]⟩ : ByteArray), .int .i64 0]) ?_ 4 _ rfl; (with_reducible repeat (first | refine blk_drewN ?_ _ | refine blk_drew ?_ | refine blk_alloc ?_ _)); refine blk_put (cs := #[.int .i64 5, .int .i64 a0, .int .i64 a1, .string (⟨#[]⟩ : ByteArray), .int .i64 0]) ?_ 3 _ rfl; (with_reducible repeat (first | refine blk_drewN ?_ _ | refine blk_drew ?_ | refine blk_alloc ?_ _)); refine blk_put (cs := #[.int .i64 5, .int .i64 a0, .int .i64 0, .string (⟨#[]⟩ : ByteArray), .int .i64 0]) ?_ 2 _ rfl; (with_reducible repeat (first | refine blk_drewN ?_ _ | refine blk_drew ?_ | refine blk_alloc ?_ _)); refine blk_put (cs := #[.int .i64 5, .int .i64 0, .int .i64 0, .string (⟨#[]⟩ : ByteArray), .int .i64 0]) ?_ 1 _ rfl; (with_reducible repeat (first | refine blk_drewN ?_ _ | refine blk_drew ?_ | refine blk_alloc ?_ _)); refine blk_put (cs := #[.int .i64 0, .int .i64 0, .int .i64 0, .string (⟨#[]⟩ : ByteArray), .int .i64 0]) ?_ 0 _ rfl; (with_reducible repeat (first | refine blk_drewN ?_ _ | refine blk_drew ?_ | refine blk_alloc ?_ _)); exact BK172.out) Try.underlying57 rfl (by kernel_rfl)) rfl ?_
  exact fin_ (below_later HB.out)

/-! ### spec_l3Turn: function 96 -/
def spec_l3Turn.l0 : Nat → Int → Int → Option (Int)
  | 0, _, _ => none
  | k + 1, x0, x3 => if x3 < 8 then (if (Go.bits .and .i64 x0 1) = 1 then (spec_l3Turn.l0 k (Go.bits .xor .i64 (wrap64 (Int.tdiv x0 2)) 3988292384) (wrap64 (x3 + 1))) else (spec_l3Turn.l0 k (wrap64 (Int.tdiv x0 2)) (wrap64 (x3 + 1)))) else (some x0)
def spec_l3Turn.f (k : Nat) (a0 : Int) : Option (Int) := spec_l3Turn.l0 k a0 0
set_option maxHeartbeats 8000000 in
set_option maxRecDepth 100000 in
theorem spec_l3Turn.calls (k : Nat) (a0 : Int) (r : Int) (w : World) (h : spec_l3Turn.f k a0 = some r) :
    Calls Try.prog 96 #[.int .i64 a0] w fun e w' => e = .returned (.int .i64 r) ∧ Drawn0 w w' := by
  have H : (spec_l3Turn.l0 k a0 0) = some r := h
  clear h
  have H' := Aside0.mk H
  clear H
  go_enter Try.func96, Try.ntmps96
  go_wp2
  go_loopg [0, 3] k (fun kq v0 v3 w' => ∃ (x0_1 : Int) (x3_1 : Int), v0 = .int .i64 x0_1 ∧ v3 = .int .i64 x3_1 ∧ Aside0 (spec_l3Turn.l0 kq x0_1 x3_1 = some r) ∧ Aside0 (kq ≤ k) ∧ Drawn0 w w')
  case atStart => exact ⟨(a0), (0), sr, sr, H', ⟨Nat.le_refl _⟩, by repeat (first | exact Drawn0.refl _ | apply Drawn0.step)⟩
  case round =>
    clear H'
    obtain ⟨x0_1, x3_1, rfl, rfl, HA, HK1, ⟨m1, rfl⟩⟩ := hrel
    cases gk with
    | zero => exact absurd HA.out (by simp [spec_l3Turn.l0])
    | succ k1 =>
      have H := HA.out
      clear HA
      simp only [spec_l3Turn.l0] at H
      by_cases c2 : x3_1 < 8
      · rw [if_pos c2] at H
        have c2b0 := decide_eq_true c2
        clear c2
        by_cases c3 : (Go.bits .and .i64 x0_1 1) = 1
        · rw [if_pos c3] at H
          have c3b0 : ((Go.bits .and .i64 x0_1 1) == 1) = true := beq_iff_eq.mpr c3
          have c3b1 : ((Go.bits .and .i64 x0_1 1) != 1) = false := bne_eq_false_iff_eq.mpr c3
          clear c3
          have H' := Aside0.mk H
          clear H
          go_wp2
          go_roundg k1
          case measure => have := HK1.out; omega
          case rel => exact ⟨(Go.bits .xor .i64 (wrap64 (Int.tdiv x0_1 2)) 3988292384), (wrap64 (x3_1 + 1)), sr, sr, H', ⟨by have := HK1.out; omega⟩, by repeat (first | exact Drawn0.refl _ | apply Drawn0.step)⟩
        · rw [if_neg c3] at H
          have c3b0 : ((Go.bits .and .i64 x0_1 1) == 1) = false := beq_eq_false_iff_ne.mpr c3
          have c3b1 : ((Go.bits .and .i64 x0_1 1) != 1) = true := bne_iff_ne.mpr c3
          have H' := Aside0.mk H
          clear H
          go_wp2
          go_roundg k1
          case measure => have := HK1.out; omega
          case rel => exact ⟨(wrap64 (Int.tdiv x0_1 2)), (wrap64 (x3_1 + 1)), sr, sr, H', ⟨by have := HK1.out; omega⟩, by repeat (first | exact Drawn0.refl _ | apply Drawn0.step)⟩
      · rw [if_neg c2] at H
        have c2b0 := decide_eq_false c2
        clear c2
        obtain rfl := Option.some.inj H
        go_wp2
        go_ret
        exact ⟨by first | rfl | (simp; done) | (simp [*]; done), by repeat (first | exact Drawn0.refl _ | apply Drawn0.step)⟩

/-! ### spec_CrcMore: function 82 -/
def spec_CrcMore.l0 : Nat → List Int → Int → Int → Option (Int)
  | 0, _, _, _ => none
  | k + 1, x1, x5, x6 => if x6 < (x1.length : Int) then (if 0 ≤ x6 then ((spec_l3Turn.f k (Go.bits .xor .i64 (Go.bits .and .i64 x5 255) (wrap64 (rd x1 x6)))).bind fun t175 => (spec_CrcMore.l0 k x1 (Go.bits .xor .i64 (x5 / 256) t175) (wrap64 (x6 + 1)))) else (none)) else (some (Go.bits .xor .i64 x5 4294967295))
def spec_CrcMore.f (k : Nat) (a0 : Int) (l1 : List Int) : Option (Int) := (spec_l1In.f a0 0 4294967295).bind fun t173 => (if t173 = true then (spec_CrcMore.l0 k l1 (Go.bits .xor .i64 a0 4294967295) 0) else (some (-1)))
set_option maxHeartbeats 8000000 in
set_option maxRecDepth 100000 in
theorem spec_CrcMore.calls (k : Nat) (a0 : Int) (A1 : Option Addr) (c1 : Nat) (l1 : List Int) (r : Int) (w : World) (hr1 : Kd.C (Kd.int .u8) w A1 l1.length l1) (hc1 : l1.length ≤ c1) (h : spec_CrcMore.f k a0 l1 = some r) :
    Calls Try.prog 82 #[.int .i64 a0, .slice A1 l1.length c1] w fun e w' => e = .returned (.int .i64 r) ∧ Drawn0 w w' := by
  have HR1 := Aside0.mk hr1
  have HC1 := Aside0.mk hc1
  clear hr1 hc1
  have H : ((spec_l1In.f a0 0 4294967295).bind fun t173 => (if t173 = true then (spec_CrcMore.l0 k l1 (Go.bits .xor .i64 a0 4294967295) 0) else (some (-1)))) = some r := h
  clear h
  replace H := bnd H
  obtain ⟨t173, A3, H⟩ := H
  by_cases c4 : t173 = true
  · subst c4
    replace H := ifp rfl H
    have H' := Aside0.mk H
    clear H
    go_enter Try.func82, Try.ntmps82
    go_wp2_with (first | ((with_reducible refine gate_callee (f := 24) rfl ?_); refine gl_ (some 8) Try.func24 #[.int .i64 a0, .int .i64 0, .int .i64 4294967295] rfl ?_; (with_reducible refine (spec_l1In.calls a0 0 4294967295 true _ A3.out).mono ?_); rintro e w' ⟨rfl, ⟨nd, rfl⟩⟩; refine ⟨_, rfl, ?_⟩))
    go_loopg [5, 6] k (fun kq v5 v6 w' => ∃ (x5_1 : Int) (x6_1 : Int), v5 = .int .i64 x5_1 ∧ v6 = .int .i64 x6_1 ∧ Aside0 (spec_CrcMore.l0 kq l1 x5_1 x6_1 = some r) ∧ Aside0 (kq ≤ k) ∧ Drawn0 w w')
    case atStart => exact ⟨(Go.bits .xor .i64 a0 4294967295), (0), sr, sr, H', ⟨Nat.le_refl _⟩, by repeat (first | exact Drawn0.refl _ | apply Drawn0.step)⟩
    case round =>
      clear H'
      try clear c1
      try clear c4
      obtain ⟨x5_1, x6_1, rfl, rfl, HA, HK1, ⟨m1, rfl⟩⟩ := hrel
      cases gk with
      | zero => exact absurd HA.out (by simp [spec_CrcMore.l0])
      | succ k1 =>
        have H := HA.out
        clear HA
        simp only [spec_CrcMore.l0] at H
        by_cases c5 : x6_1 < (l1.length : Int)
        · rw [if_pos c5] at H
          have c5b0 := decide_eq_true c5
          clear c5
          replace H := ifd H
          obtain ⟨c6b0, H⟩ := H
          replace H := bnd H
          obtain ⟨t175, A7, H⟩ := H
          have H' := Aside0.mk H
          clear H
          have p174 : 0 ≤ (x6_1 : Int) := dcd
          have q174 : x6_1 < (l1.length : Int) := dcd
          obtain ⟨ad174, e174, hx174_0⟩ := Kd.at_int HR1.out x6_1 p174 q174
          cases e174
          replace p174 := eq_true p174
          replace q174 := eq_true q174
          go_wp2_with (first | ((with_reducible refine gate_callee (f := 96) rfl ?_); refine gl_ (some 28) Try.func96 #[.int .i64 (Go.bits .xor .i64 (Go.bits .and .i64 x5_1 255) (wrap64 (rd l1 x6_1)))] rfl ?_; (with_reducible refine (spec_l3Turn.calls k1 (Go.bits .xor .i64 (Go.bits .and .i64 x5_1 255) (wrap64 (rd l1 x6_1))) t175 _ A7.out).mono ?_); rintro e w' ⟨rfl, ⟨nd, rfl⟩⟩; refine ⟨_, rfl, ?_⟩))
          go_roundg k1
          case measure => have := HK1.out; omega
          case rel => exact ⟨(Go.bits .xor .i64 (x5_1 / 256) t175), (wrap64 (x6_1 + 1)), sr, sr, H', ⟨by have := HK1.out; omega⟩, by repeat (first | exact Drawn0.refl _ | apply Drawn0.step)⟩
        · rw [if_neg c5] at H
          have c5b0 := decide_eq_false c5
          clear c5
          obtain rfl := Option.some.inj H
          go_wp2
          go_ret
          exact ⟨by first | rfl | (simp; done) | (simp [*]; done), by repeat (first | exact Drawn0.refl _ | apply Drawn0.step)⟩
  · replace c4 := Bool.eq_false_iff.mpr c4
    subst c4
    replace H := ifn Bool.false_ne_true H
    obtain rfl := Option.some.inj H
    go_enter Try.func82, Try.ntmps82
    go_wp2_with (first | ((with_reducible refine gate_callee (f := 24) rfl ?_); refine gl_ (some 8) Try.func24 #[.int .i64 a0, .int .i64 0, .int .i64 4294967295] rfl ?_; (with_reducible refine (spec_l1In.calls a0 0 4294967295 false _ A3.out).mono ?_); rintro e w' ⟨rfl, ⟨nd, rfl⟩⟩; refine ⟨_, rfl, ?_⟩))
    go_ret
    exact ⟨by first | rfl | (simp; done) | (simp [*]; done), by repeat (first | exact Drawn0.refl _ | apply Drawn0.step)⟩

/-! ### spec_CrcOf: function 59 -/
def spec_CrcOf.f (k : Nat) (l0 : List Int) : Option (Int) := (spec_CrcMore.f k 0 l0).bind fun t176 => (some t176)
set_option maxHeartbeats 8000000 in
set_option maxRecDepth 100000 in
theorem spec_CrcOf.calls (k : Nat) (A0 : Option Addr) (c0 : Nat) (l0 : List Int) (r : Int) (w : World) (hr0 : Kd.C (Kd.int .u8) w A0 l0.length l0) (hc0 : l0.length ≤ c0) (h : spec_CrcOf.f k l0 = some r) :
    Calls Try.prog 59 #[.slice A0 l0.length c0] w fun e w' => e = .returned (.int .i64 r) ∧ Drawn0 w w' := by
  have HR0 := Aside0.mk hr0
  have HC0 := Aside0.mk hc0
  clear hr0 hc0
  have H : ((spec_CrcMore.f k 0 l0).bind fun t176 => (some t176)) = some r := h
  clear h
  replace H := bnd H
  obtain ⟨t176, A2, H⟩ := H
  obtain rfl := Option.some.inj H
  go_enter Try.func59, Try.ntmps59
  go_wp2_with (first | ((with_reducible refine gate_callee (f := 82) rfl ?_); refine gl_ (some 4) Try.func82 #[.int .i64 0, .slice A0 l0.length c0] rfl ?_; (with_reducible refine (spec_CrcMore.calls k 0 _ _ l0 t176 _ ?side1 ?side2 A2.out).mono ?_); (case side1 => exact C_later HR0.out); (case side2 => exact HC0.out); rintro e w' ⟨rfl, ⟨nd, rfl⟩⟩; refine ⟨_, rfl, ?_⟩))
  go_ret
  exact ⟨by first | rfl | (simp; done) | (simp [*]; done), by repeat (first | exact Drawn0.refl _ | apply Drawn0.step)⟩

end Go.Proofs.Ytgiljoeekpfpmaa.PFnExactDictPack
