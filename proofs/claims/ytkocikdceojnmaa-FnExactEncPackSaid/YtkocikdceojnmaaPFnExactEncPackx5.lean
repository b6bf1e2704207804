/- The machine's side of FnExactEncPack, written by wip/tools/hyb.py of this repo: each Go function as a plain Lean function, and the proof that the call comes to just its answer. No condition. -/
import Derived.Test.YtkocikdceojnmaaPFnExactEncPackx0
import Derived.Test.YtkocikdceojnmaaPFnExactEncPackx2
import Derived.Test.YtkocikdceojnmaaPFnExactEncPackx3
import Derived.Test.YtkocikdceojnmaaPFnExactEncPackx4
namespace Go.Proofs.Ytkocikdceojnmaa.PFnExactEncPack
open Go.RowKit Go.Proofs.YtkocikdceojnmaaW.PrintWords Go.Proofs.YtkocikdceojnmaaW.PrintLast Go.Proofs.YtkocikdceojnmaaW.PrintMore Go.Proofs.YtkocikdceojnmaaW.PrintMore2
attribute [local go_sem] max2_int min2_int max_two min_two max_three min_three max_four min_four   -- for this text's walks alone
set_option linter.unusedVariables false
set_option linter.unusedSimpArgs false

/-! ### spec_RunPack: function 17 -/
mutual
def spec_RunPack.j0 : Nat → List Int → Int → List Int → Bool → Option (List Int × Bool)
  | 0, _, _, _, _ => none
  | k + 1, x0, x1, x6, x21 => if x21 = true then (some (x6, false)) else (spec_RunPack.l0 k x0 x1 x6 0)
def spec_RunPack.l0 : Nat → List Int → Int → List Int → Int → Option (List Int × Bool)
  | 0, _, _, _, _ => none
  | k + 1, x0, x1, x6, x7 => if x7 < (x0.length : Int) then (if 0 ≤ x7 then (if (rd x0 x7) < 0 then (some ((([] : List Int)), false)) else (if 0 ≤ x1 then (if (shr .i64 (rd x0 x7) x1) = 0 then (spec_RunPack.l0 k x0 x1 x6 (wrap64 (x7 + 1))) else (some ((([] : List Int)), false))) else (none))) else (none)) else (spec_RunPack.l1 k x0 x1 x6 0)
def spec_RunPack.l1 : Nat → List Int → Int → List Int → Int → Option (List Int × Bool)
  | 0, _, _, _, _ => none
  | k + 1, x0, x1, x6, x8 => if x8 < (x0.length : Int) then ((spec_l8Alike.f k x0 x8).bind fun t206 => (if t206 ≥ 8 then ((spec_UvarPut.f k (wrap64 (2 * t206))).bind fun t207 => (if x6.length + t207.length < 140737488355328 then ((some (x6 ++ t207 : List Int)).bind fun y210 => (if x1 > 0 then (if 0 ≤ x8 then ((spec_BitsSize.f 1 x1).bind fun t214 => ((spec_WordPut.f k (rd x0 x8) t214).bind fun t215 => (if y210.length + t215.length < 140737488355328 then (spec_RunPack.l1 k x0 x1 (y210 ++ t215) (wrap64 (x8 + t206))) else (none)))) else (none)) else (spec_RunPack.l1 k x0 x1 y210 (wrap64 (x8 + t206))))) else (none))) else (spec_RunPack.l2 k x0 x1 x6 x8 (([] : List Int))))) else (some (x6, true))
def spec_RunPack.l2 : Nat → List Int → Int → List Int → Int → List Int → Option (List Int × Bool)
  | 0, _, _, _, _, _ => none
  | k + 1, x0, x1, x6, x8, x10 => if x8 < (x0.length : Int) then (if (x10.length : Int) = 0 then (spec_RunPack.j4 k x0 x1 x6 x8 x10 true) else ((spec_l8Alike.f k x0 x8).bind fun t224 => (spec_RunPack.j4 k x0 x1 x6 x8 x10 (decide (t224 < 8))))) else (spec_RunPack.j4 k x0 x1 x6 x8 x10 false)
def spec_RunPack.j4 : Nat → List Int → Int → List Int → Int → List Int → Bool → Option (List Int × Bool)
  | 0, _, _, _, _, _, _ => none
  | k + 1, x0, x1, x6, x8, x10, x87 => if x87 = true then (spec_RunPack.l3 k x0 x1 x6 x8 x10 0) else ((spec_UvarPut.f k (wrap64 ((wrap64 (2 * (wrap64 ((x10.length : Int) / 8)))) + 1))).bind fun t225 => (if x6.length + t225.length < 140737488355328 then ((some (x6 ++ t225 : List Int)).bind fun y228 => ((spec_l8Bits.f k x10 x1).bind fun t231 => (if y228.length + t231.length < 140737488355328 then (spec_RunPack.l1 k x0 x1 (y228 ++ t231) x8) else (none)))) else (none)))
def spec_RunPack.l3 : Nat → List Int → Int → List Int → Int → List Int → Int → Option (List Int × Bool)
  | 0, _, _, _, _, _, _ => none
  | k + 1, x0, x1, x6, x8, x10, x11 => if x11 < 8 then (if (wrap64 (x8 + x11)) < (x0.length : Int) then (if 0 ≤ (wrap64 (x8 + x11)) then (if x10.length < 17592186044416 then (spec_RunPack.l3 k x0 x1 x6 x8 (x10 ++ [rd x0 (wrap64 (x8 + x11))]) (wrap64 (x11 + 1))) else (none)) else (none)) else (if x10.length < 17592186044416 then (spec_RunPack.l3 k x0 x1 x6 x8 (x10 ++ [0]) (wrap64 (x11 + 1))) else (none))) else (spec_RunPack.l2 k x0 x1 x6 (wrap64 (x8 + 8)) x10)
end
def spec_RunPack.f (k : Nat) (l0 : List Int) (a1 : Int) : Option (List Int × Bool) := (some (([] : List Int) : List Int)).bind fun y194 => ((spec_l8Width.f a1).bind fun t197 => (if t197 = true then (spec_RunPack.j0 k l0 a1 y194 (decide ((l0.length : Int) > 2000))) else (spec_RunPack.j0 k l0 a1 y194 true)))
def spec_RunPack.T15 : Bool × List (List Nat × List Nat) := (true, [([], []), ([], []), ([], []), ([1, 2], [1, 2]), ([3], [3]), ([], []), ([5], [5]), ([4, 6, 6], [4, 6]), ([0, 7, 7], [0, 7]), ([8, 8, 0, 1, 2, 3, 4, 5, 6, 7, 8], [0, 8])])
def spec_RunPack.B15 : List Nat := [0, 0, 0, 6, 14, 0, 32, 126, 255, 511]
theorem spec_RunPack.tab15 : rtab .any (opsOf Try.f17 15) = spec_RunPack.T15 := by kernel_rfl
theorem spec_RunPack.bits15 : waitsOk spec_RunPack.T15.2 spec_RunPack.B15 = true := by kernel_rfl
set_option maxHeartbeats 8000000 in
set_option maxRecDepth 100000 in
theorem spec_RunPack.calls (k : Nat) (A0 : Option Addr) (c0 : Nat) (l0 : List Int) (a1 : Int) (r1 : List Int) (r2 : Bool) (w : World) (hr0 : Kd.C (Kd.int .i64) w A0 l0.length l0) (hc0 : l0.length ≤ c0) (h : spec_RunPack.f k l0 a1 = some (r1, r2)) :
    Calls Try.prog 17 #[.slice A0 l0.length c0, .int .i64 a1] w fun e w' => ∃ v0_ : Value, e = .returned (.tuple #[v0_, .bool r2]) ∧ Kd.R (Kd.int .u8) 5 w' w.heap.size (fun _ => True) v0_ r1 ∧ Below w.heap.size w w' := by
  have HR0 := Aside0.mk hr0
  have HC0 := Aside0.mk hc0
  clear hr0 hc0
  have HB := Aside0.mk (Below.refl w.heap.size w)
  have H : ((some (([] : List Int) : List Int)).bind fun y194 => ((spec_l8Width.f a1).bind fun t197 => (if t197 = true then (spec_RunPack.j0 k l0 a1 y194 (decide ((l0.length : Int) > 2000))) else (spec_RunPack.j0 k l0 a1 y194 true)))) = some (r1, r2) := h
  clear h
  replace H := bsm H
  obtain ⟨y194, Ny194, H⟩ := H
  have HC3 := Aside0.mk H
  clear H
  go_enter Try.func17, Try.ntmps17
  go_upto_region 2 with (first | ((with_reducible refine gate_dst (N := 13) rfl ?_); (try (refine gate_guard (by rfl) ?_; dsimp only)); refine Kd.R_lit (Kd.int .u8) _ 5 ?hg (N := 13) ?hd (xs := ([] : List Int)) (inner := []) (ok := fun _ => True) (okp := fun _ => True) ?hr ?hp (fun _ hk => hk) trivial (Below.refl _ _) (Nat.le_refl _) (by simp) ?_; (case hd => rfl); (case hg => rfl); (case hr => first | (go_simp; done) | (go_simp; rfl)); (case hp => exact (Reps.none _ _)); intro v195 w4 ho5 hb hg_ hnew_; clear hg_ hnew_; (first | rw [← Ny194.out] at ho5 | (simp only [Int.reduceToNat] at ho5; rw [← Ny194.out] at ho5)); have HO196 := Aside0.mk (Kd.R_lower ho5 (below_size (below_later HB.out))); replace HB := bst HB hb; clear hb ho5))
  (try simp only [Act.put, List.setIfInBounds_toArray, List.set_cons_zero, List.set_cons_succ])
  go_cut [21] (fun v21 wc => ∃ (kq : Nat) (x21_2 : Bool), v21 = .bool x21_2 ∧ Aside0 (spec_RunPack.j0 kq l0 a1 y194 x21_2 = some (r1, r2)) ∧ Aside0 (kq ≤ k) ∧ Aside0 (Kd.R (Kd.int .u8) 5 wc w.heap.size (fun _ => True) v195 y194) ∧ Aside0 (Below w.heap.size w wc))
  case first =>
    have H := HC3.out
    clear HC3
    replace H := bnd H
    obtain ⟨t197, A6, H⟩ := H
    by_cases c7 : t197 = true
    · subst c7
      replace H := ifp rfl H
      have H' := Aside0.mk H
      clear H
      go_wp2_with (first | ((with_reducible refine gate_callee (f := 43) rfl ?_); refine gl_ (some 15) Try.func43 #[.int .i64 a1] rfl ?_; (with_reducible refine (spec_l8Width.calls a1 true _ A6.out).mono ?_); rintro e w' ⟨rfl, ⟨nd, rfl⟩⟩; refine ⟨_, rfl, ?_⟩))
      go_meet
      case rel => exact ⟨_, (decide ((l0.length : Int) > 2000)), sr, H', ⟨by first | omega | exact Nat.le_refl _⟩, ⟨R_later HO196.out⟩, ⟨below_later HB.out⟩⟩
    · replace c7 := Bool.eq_false_iff.mpr c7
      subst c7
      replace H := ifn Bool.false_ne_true H
      have H' := Aside0.mk H
      clear H
      go_wp2_with (first | ((with_reducible refine gate_callee (f := 43) rfl ?_); refine gl_ (some 15) Try.func43 #[.int .i64 a1] rfl ?_; (with_reducible refine (spec_l8Width.calls a1 false _ A6.out).mono ?_); rintro e w' ⟨rfl, ⟨nd, rfl⟩⟩; refine ⟨_, rfl, ?_⟩))
      go_meet
      case rel => exact ⟨_, (true), sr, H', ⟨by first | omega | exact Nat.le_refl _⟩, ⟨R_later HO196.out⟩, ⟨below_later HB.out⟩⟩
  case rest =>
    clear HC3
    obtain ⟨kq, x21_2, rfl, HA, HJ2, HO_6, HB⟩ := hcut
    cases kq with
    | zero => exact absurd HA.out (by simp [spec_RunPack.j0])
    | succ kj2 =>
      have H := HA.out
      clear HA
      simp only [spec_RunPack.j0] at H
      by_cases c8 : x21_2 = true
      · subst c8
        replace H := ifp rfl H
        simp only [Option.some.injEq, Prod.mk.injEq] at H
        obtain ⟨rfl, rfl⟩ := H
        go_wp2
        go_ret2
        exact ⟨_, by first | rfl | (simp [errW_none, errW_some] <;> rfl) | (simp [*, errW_none, errW_some] <;> rfl), by (with_reducible repeat (first | apply Kd.R_alloc | apply Kd.R_drewN | apply Kd.R_drew)); exact HO_6.out, below_later HB.out⟩
      · replace c8 := Bool.eq_false_iff.mpr c8
        subst c8
        replace H := ifn Bool.false_ne_true H
        have H' := Aside0.mk H
        clear H
        go_wp2
        go_loopg [7] kj2 (fun kq v7 w' => ∃ (x7_2 : Int), v7 = .int .i64 x7_2 ∧ Aside0 (spec_RunPack.l0 kq l0 a1 y194 x7_2 = some (r1, r2)) ∧ Aside0 (kq ≤ kj2) ∧ Aside0 (Kd.R (Kd.int .u8) 5 w' w.heap.size (fun _ => True) v195 y194) ∧ Aside0 (Below w.heap.size w w'))
        case atStart => exact ⟨(0), sr, H', ⟨Nat.le_refl _⟩, ⟨R_later HO_6.out⟩, ⟨below_later HB.out⟩⟩
        case round =>
          clear H'
          try clear c8
          obtain ⟨x7_2, rfl, HA, HK2, HO_6, HB⟩ := hrel
          cases gk with
          | zero => exact absurd HA.out (by simp [spec_RunPack.l0])
          | succ k2 =>
            have H := HA.out
            clear HA
            simp only [spec_RunPack.l0] at H
            by_cases c9 : x7_2 < (l0.length : Int)
            · rw [if_pos c9] at H
              have c9b0 := decide_eq_true c9
              clear c9
              replace H := ifd H
              obtain ⟨c10b0, H⟩ := H
              by_cases c11 : (rd l0 x7_2) < 0
              · rw [if_pos c11] at H
                have c11b0 := decide_eq_true c11
                clear c11
                obtain ⟨y199, hy199⟩ : ∃ y_ : List Int, y_ = (([] : List Int)) := ⟨_, rfl⟩
                replace H : (some (y199, false)) = some (r1, r2) := by first | (rw [hy199]; with_reducible exact H) | (rw [hy199]; exact H) | exact H
                have Ny199 := Aside0.mk hy199
                clear hy199
                simp only [Option.some.injEq, Prod.mk.injEq] at H
                obtain ⟨rfl, rfl⟩ := H
                have p198 : 0 ≤ (x7_2 : Int) := dcd
                have q198 : x7_2 < (l0.length : Int) := dcd
                obtain ⟨ad198, e198, hx198_0⟩ := Kd.at_int HR0.out x7_2 p198 q198
                cases e198
                replace hx198_0 := crd HB hx198_0
                replace p198 := eq_true p198
                replace q198 := eq_true q198
                go_wp2_with (first | ((with_reducible refine gate_dst (N := 43) rfl ?_); (try (refine gate_guard (by rfl) ?_; dsimp only)); refine Kd.R_lit (Kd.int .u8) _ 5 ?hg (N := 43) ?hd (xs := ([] : List Int)) (inner := []) (ok := fun _ => True) (okp := fun _ => True) ?hr ?hp (fun _ hk => hk) trivial (Below.refl _ _) (Nat.le_refl _) (by simp) ?_; (case hd => rfl); (case hg => rfl); (case hr => first | (go_simp; done) | (go_simp; rfl)); (case hp => exact (Reps.none _ _)); intro v200 w12 ho13 hb hg_ hnew_; clear hg_ hnew_; (first | rw [← Ny199.out] at ho13 | (simp only [Int.reduceToNat] at ho13; rw [← Ny199.out] at ho13)); have HO201 := Aside0.mk (Kd.R_lower (Kd.R_new' ho13 (Kd.R_lt (R_later HO_6.out))) (below_size (below_later HB.out))); replace HO_6 := Aside0.mk (Kd.R_elder' (R_later HO_6.out) (Kd.R_base ho13) hb); replace HB := bst HB hb; clear hb ho13))
                go_ret2
                exact ⟨_, by first | rfl | (simp [errW_none, errW_some] <;> rfl) | (simp [*, errW_none, errW_some] <;> rfl), by (with_reducible repeat (first | apply Kd.R_alloc | apply Kd.R_drewN | apply Kd.R_drew)); exact Kd.R_mono HO201.out (fun _ hk => trivial), below_later HB.out⟩
              · rw [if_neg c11] at H
                have c11b0 := decide_eq_false c11
                clear c11
                replace H := ifs H
                obtain ⟨c14, H⟩ := H
                have c14b0 := eq_true c14
                have c14b1 := decide_eq_true c14
                clear c14
                obtain ⟨ji15, hji15⟩ : ∃ j_ : Int, (shr .i64 (rd l0 x7_2) a1) = j_ := ⟨_, rfl⟩
                replace H : (if (ji15) = 0 then (spec_RunPack.l0 k2 l0 a1 y194 (wrap64 (x7_2 + 1))) else (some ((([] : List Int)), false))) = some (r1, r2) := by first | (rw [hji15] at H; exact H) | (simp only [hji15] at H ⊢; exact H)
                have hji15_ : ((rd l0 x7_2) / 2 ^ min a1.toNat 64) = ji15 := hji15
                have hji15z : a1 ≤ 64 → ((rd l0 x7_2) / 2 ^ a1.toNat) = ji15 := shr_small hji15
                by_cases c16 : (ji15) = 0
                · rw [if_pos c16] at H
                  have c16b0 : ((ji15) == 0) = true := beq_iff_eq.mpr c16
                  have c16b1 : ((ji15) != 0) = false := bne_eq_false_iff_eq.mpr c16
                  clear c16
                  have H' := Aside0.mk H
                  clear H
                  have p198 : 0 ≤ (x7_2 : Int) := dcd
                  have q198 : x7_2 < (l0.length : Int) := dcd
                  obtain ⟨ad198, e198, hx198_0⟩ := Kd.at_int HR0.out x7_2 p198 q198
                  cases e198
                  replace hx198_0 := crd HB hx198_0
                  replace p198 := eq_true p198
                  replace q198 := eq_true q198
                  have p202 : 0 ≤ (x7_2 : Int) := dcd
                  have q202 : x7_2 < (l0.length : Int) := dcd
                  obtain ⟨ad202, e202, hx202_0⟩ := Kd.at_int HR0.out x7_2 p202 q202
                  obtain rfl : ad198 = ad202 := (by injection e202)
                  replace hx202_0 := crd HB hx202_0
                  replace p202 := eq_true p202
                  replace q202 := eq_true q202
                  go_wp2
                  go_roundg k2
                  case measure => have := HJ2.out; have := HK2.out; omega
                  case rel => exact ⟨(wrap64 (x7_2 + 1)), sr, H', ⟨by have := HJ2.out; have := HK2.out; omega⟩, ⟨R_later HO_6.out⟩, ⟨below_later HB.out⟩⟩
                · rw [if_neg c16] at H
                  have c16b0 : ((ji15) == 0) = false := beq_eq_false_iff_ne.mpr c16
                  have c16b1 : ((ji15) != 0) = true := bne_iff_ne.mpr c16
                  obtain ⟨y203, hy203⟩ : ∃ y_ : List Int, y_ = (([] : List Int)) := ⟨_, rfl⟩
                  replace H : (some (y203, false)) = some (r1, r2) := by first | (rw [hy203]; with_reducible exact H) | (rw [hy203]; exact H) | exact H
                  have Ny203 := Aside0.mk hy203
                  clear hy203
                  simp only [Option.some.injEq, Prod.mk.injEq] at H
                  obtain ⟨rfl, rfl⟩ := H
                  have p198 : 0 ≤ (x7_2 : Int) := dcd
                  have q198 : x7_2 < (l0.length : Int) := dcd
                  obtain ⟨ad198, e198, hx198_0⟩ := Kd.at_int HR0.out x7_2 p198 q198
                  cases e198
                  replace hx198_0 := crd HB hx198_0
                  replace p198 := eq_true p198
                  replace q198 := eq_true q198
                  have p202 : 0 ≤ (x7_2 : Int) := dcd
                  have q202 : x7_2 < (l0.length : Int) := dcd
                  obtain ⟨ad202, e202, hx202_0⟩ := Kd.at_int HR0.out x7_2 p202 q202
                  obtain rfl : ad198 = ad202 := (by injection e202)
                  replace hx202_0 := crd HB hx202_0
                  replace p202 := eq_true p202
                  replace q202 := eq_true q202
                  go_wp2_with (first | ((with_reducible refine gate_dst (N := 43) rfl ?_); (try (refine gate_guard (by rfl) ?_; dsimp only)); refine Kd.R_lit (Kd.int .u8) _ 5 ?hg (N := 43) ?hd (xs := ([] : List Int)) (inner := []) (ok := fun _ => True) (okp := fun _ => True) ?hr ?hp (fun _ hk => hk) trivial (Below.refl _ _) (Nat.le_refl _) (by simp) ?_; (case hd => rfl); (case hg => rfl); (case hr => first | (go_simp; done) | (go_simp; rfl)); (case hp => exact (Reps.none _ _)); intro v204 w17 ho18 hb hg_ hnew_; clear hg_ hnew_; (first | rw [← Ny203.out] at ho18 | (simp only [Int.reduceToNat] at ho18; rw [← Ny203.out] at ho18)); have HO205 := Aside0.mk (Kd.R_lower (Kd.R_new' ho18 (Kd.R_lt (R_later HO_6.out))) (below_size (below_later HB.out))); replace HO_6 := Aside0.mk (Kd.R_elder' (R_later HO_6.out) (Kd.R_base ho18) hb); replace HB := bst HB hb; clear hb ho18))
                  go_ret2
                  exact ⟨_, by first | rfl | (simp [errW_none, errW_some] <;> rfl) | (simp only [← hji15]; first | rfl | (simp [errW_none, errW_some] <;> rfl)) | (simp [*, errW_none, errW_some] <;> rfl), by (with_reducible repeat (first | apply Kd.R_alloc | apply Kd.R_drewN | apply Kd.R_drew)); exact Kd.R_mono HO205.out (fun _ hk => trivial), below_later HB.out⟩
            · rw [if_neg c9] at H
              have c9b0 := decide_eq_false c9
              clear c9
              have H' := Aside0.mk H
              clear H
              go_wp2
              go_loopg [6, 8] k2 (fun kq v6 v8 w' => ∃ (x6_3 : List Int) (x8_3 : Int), v8 = .int .i64 x8_3 ∧ Aside0 (spec_RunPack.l1 kq l0 a1 x6_3 x8_3 = some (r1, r2)) ∧ Aside0 (kq ≤ k2) ∧ Aside0 (Kd.R (Kd.int .u8) 5 w' w.heap.size (fun _ => True) v6 x6_3) ∧ Aside0 (Below w.heap.size w w'))
              case atStart => exact ⟨(y194), (0), sr, H', ⟨Nat.le_refl _⟩, ⟨R_later HO_6.out⟩, ⟨below_later HB.out⟩⟩
              case round =>
                clear H'
                try clear c8
                try clear c9
                try clear c9b0
                obtain ⟨x6_3, x8_3, rfl, HA, HK3, HO_6, HB⟩ := hrel
                cases gk with
                | zero => exact absurd HA.out (by simp [spec_RunPack.l1])
                | succ k3 =>
                  have H := HA.out
                  clear HA
                  simp only [spec_RunPack.l1] at H
                  by_cases c19 : x8_3 < (l0.length : Int)
                  · rw [if_pos c19] at H
                    have c19b0 := decide_eq_true c19
                    clear c19
                    replace H := bnd H
                    obtain ⟨t206, A20, H⟩ := H
                    by_cases c21 : t206 ≥ 8
                    · rw [if_pos c21] at H
                      have c21b0 : decide (8 ≤ t206) = true := decide_eq_true c21
                      clear c21
                      replace H := bnd H
                      obtain ⟨t207, A22, H⟩ := H
                      replace H := ifs H
                      obtain ⟨c23, H⟩ := H
                      have LMc23 := Aside0.mk c23
                      clear c23
                      replace H := bsm H
                      obtain ⟨y210, Ny210, H⟩ := H
                      by_cases c24 : a1 > 0
                      · rw [if_pos c24] at H
                        have c24b0 : decide (0 < a1) = true := decide_eq_true c24
                        clear c24
                        replace H := ifd H
                        obtain ⟨c25b0, H⟩ := H
                        replace H := bnd H
                        obtain ⟨t214, A26, H⟩ := H
                        replace H := bnd H
                        obtain ⟨t215, A27, H⟩ := H
                        replace H := ifs H
                        obtain ⟨c28, H⟩ := H
                        have LMc28 := Aside0.mk c28
                        clear c28
                        obtain ⟨y218, hy218⟩ : ∃ y_ : List Int, y_ = (y210 ++ t215) := ⟨_, rfl⟩
                        replace H : (spec_RunPack.l1 k3 l0 a1 y218 (wrap64 (x8_3 + t206))) = some (r1, r2) := by first | (rw [hy218]; with_reducible exact H) | (rw [hy218]; exact H) | exact H
                        have Ny218 := Aside0.mk hy218
                        clear hy218
                        have H' := Aside0.mk H
                        clear H
                        try go_wp2_with (first | ((with_reducible refine gate_callee (f := 44) rfl ?_); refine gl_ (some 50) Try.func44 #[.slice A0 l0.length c0, .int .i64 x8_3] rfl ?_; (with_reducible refine (spec_l8Alike.calls k3 _ _ l0 x8_3 t206 _ ?side1 ?side2 A20.out).mono ?_); (case side1 => repeat (first | exact (Kd.C_below HR0.out HB.out) | (with_reducible refine Kd.C_alloc ?_ _) | (with_reducible refine Kd.C_drewN ?_ _) | (with_reducible refine Kd.C_drew ?_))); (case side2 => exact HC0.out); rintro e w' ⟨rfl, ⟨nd, rfl⟩⟩; refine ⟨_, rfl, ?_⟩) | ((with_reducible refine gate_callee (f := 45) rfl ?_); refine gl_ (some 56) Try.func45 #[.int .i64 (wrap64 (2 * t206))] rfl ?_; (with_reducible refine (spec_UvarPut.calls k3 (wrap64 (2 * t206)) t207 _ A22.out).mono ?_); rintro e w29 ⟨v208, rfl, ho0, hb⟩; refine ⟨_, rfl, ?_⟩; have HO209 := Aside0.mk (Kd.R_lower (Kd.R_new' ho0 (Kd.R_lt (R_later HO_6.out))) (below_size (below_later HB.out))); replace HO_6 := Aside0.mk (Kd.R_elder' (R_later HO_6.out) (Kd.R_base ho0) hb); replace HB := bst HB hb; (try clear hb); (try clear hk); (try clear ho0); obtain ⟨Ao31, co31, eo31⟩ := Kd.R_slice HO209.out; subst eo31) | ((with_reducible refine gate_builtin (b := .append) (xs := #[.tmp 53, .tmp 56]) rfl ?_); (try (refine gate_guard (by rfl) ?_; dsimp only)); at_builtin; refine Kd.R_append_rows (Kd.int .u8) (w0 := w) w.heap.size rfl (.tmp 53) (.tmp 56) 24 5 (.int .u8 0) 1 rfl Try.underlying24 info5 rfl (by decide) (by omega) u6 x6_3 t207 _ _ _ (fun k_ => some k_ ≠ (.slice Ao31 t207.length co31 : Value).ownBlock) (fun _ => False) rfl rfl ?aO ?aR (fun _ _ h => h) (fun _ h => h.elim) ?aF ?aB ?aS ?aL ?_; (case aR => repeat (first | exact (Kd.R_reads' HO209.out).2.2 | (with_reducible refine Kd.C_alloc ?_ _) | (with_reducible refine Kd.C_drewN ?_ _) | (with_reducible refine Kd.C_drew ?_))); (case aB => exact (below_later HB.out)); (case aF => exact (fun k_ hk => Kd.fresh' (Kd.R_lt (R_later HO209.out)) k_ hk)); (case aO => exact (by (with_reducible repeat (first | apply Kd.R_alloc | apply Kd.R_drewN | apply Kd.R_drew)); exact Kd.R_mono HO_6.out (fun _ hk => hk.2))); (case aS => exact (below_size (below_later HB.out))); (case aL => have := LMc23.out; omega); intro v211 w30 ho hb hg hat; rw [← Ny210.out] at ho; have n0_ := Aside0.mk (Kd.R_after (ok := (fun _ => True)) (R_later HO209.out) hg hat); have n1_ := Aside0.mk (hb); have n2_ := Aside0.mk (ho); clear HO209; clear HB; clear HO_6; have HO209 := n0_; have HB := n1_; have HO212 := n2_; clear n0_ n1_ n2_; clear ho hb hg hat))
                        have n0_ := Aside0.mk (Kd.R_drew HO209.out)
                        have n1_ := Aside0.mk (Kd.R_drew HO212.out)
                        have n2_ := Aside0.mk (below_drew1 HB.out)
                        clear HO209
                        clear HO212
                        clear HB
                        have HO209 := n0_
                        have HO212 := n1_
                        have HB := n2_
                        clear n0_ n1_ n2_
                        have p213 : 0 ≤ (x8_3 : Int) := dcd
                        have q213 : x8_3 < (l0.length : Int) := dcd
                        obtain ⟨ad213, e213, hx213_0⟩ := Kd.at_int HR0.out x8_3 p213 q213
                        have hw213_0 := hx213_0
                        cases e213
                        replace hx213_0 := crd HB hx213_0
                        replace p213 := eq_true p213
                        replace q213 := eq_true q213
                        refine start_ (n := 10) (S := fun w' => w'.cell? (ad213.add (x8_3).toNat) = some (.int .i64 (rd l0 x8_3))) (ds := []) #[false, false, false, false, false, false, false, false, false, false] (by kernel_rfl) rfl rfl (((HB.out.cell (World.block_lt_of_cell? w _ hw213_0)).trans hw213_0)) (fun hHeld => ?_); refine with_tabW spec_RunPack.tab15 spec_RunPack.bits15 (fun HT_ HW_ => ?_)
                        generalize w30.drew = w32 at HO209 HO212 HB hx213_0 hHeld ⊢
                        refine pure_ (i := 0) (N := some 60) (v := ?_) (a' := ?_) #[true, false, false, false, false, false, false, false, false, false] rfl rfl (any_of HT_.out (by kernel_rfl)) (fun _ _ _ h => h) (Or.inl ⟨by rfl, ?_⟩) ?_ ?_
                        rotate_left
                        · intro w'
                          go_simp
                          with_reducible rfl
                        rotate_left
                        · simp only [Act.put, List.setIfInBounds_toArray, List.set_cons_zero, List.set_cons_succ, i64_w, i32_w]
                          rfl
                        refine pure_ (i := 1) (N := some 61) (v := ?_) (a' := ?_) #[true, true, false, false, false, false, false, false, false, false] rfl rfl (any_of HT_.out (by kernel_rfl)) (fun _ _ _ h => h) (Or.inl ⟨by rfl, ?_⟩) ?_ ?_
                        rotate_left
                        · intro w'
                          go_simp
                          with_reducible rfl
                        rotate_left
                        · simp only [Act.put, List.setIfInBounds_toArray, List.set_cons_zero, List.set_cons_succ, i64_w, i32_w]
                          rfl
                        refine pure_ (i := 2) (N := some 62) (v := ?_) (a' := ?_) #[true, true, true, false, false, false, false, false, false, false] rfl rfl (any_of HT_.out (by kernel_rfl)) (fun _ _ _ h => h) (Or.inl ⟨by rfl, ?_⟩) ?_ ?_
                        rotate_left
                        · intro w'
                          go_simp
                          with_reducible rfl
                        rotate_left
                        · simp only [Act.put, List.setIfInBounds_toArray, List.set_cons_zero, List.set_cons_succ, i64_w, i32_w]
                          rfl
                        refine pure_ (i := 3) (N := some 63) (v := ?_) (a' := ?_) #[true, true, true, true, false, false, false, false, false, false] rfl rfl (any_of HT_.out (by kernel_rfl)) (fun _ _ _ h => h) (Or.inl ⟨by rfl, ?_⟩) ?_ ?_
                        rotate_left
                        · intro w'
                          go_simp
                          with_reducible rfl
                        rotate_left
                        · simp only [Act.put, List.setIfInBounds_toArray, List.set_cons_zero, List.set_cons_succ, i64_w, i32_w]
                          rfl
                        refine pure_ (i := 5) (N := some 65) (v := ?_) (a' := ?_) #[true, true, true, true, false, true, false, false, false, false] rfl rfl (any_of HT_.out (by kernel_rfl)) (fun _ _ _ h => h) (Or.inl ⟨by rfl, ?_⟩) ?_ ?_
                        rotate_left
                        · intro w'
                          go_simp
                          with_reducible rfl
                        rotate_left
                        · simp only [Act.put, List.setIfInBounds_toArray, List.set_cons_zero, List.set_cons_succ, i64_w, i32_w]
                          rfl
                        refine take_ (i := 4) (N := some 64) (v := ?_) (a' := ?_) #[true, true, true, true, true, true, false, false, false, false] rfl rfl (take_ofW HT_.out HW_.out (by kernel_rfl)) (fun _ _ _ h => h) (Or.inl ⟨by rfl, ?_⟩) hHeld ?_ ?_
                        rotate_left
                        · intro w' s0
                          go_simp
                          with_reducible rfl
                        rotate_left
                        · simp only [Act.put, List.setIfInBounds_toArray, List.set_cons_zero, List.set_cons_succ, i64_w, i32_w]
                          rfl
                        refine one_ (i := 6) (N := some 66) #[true, true, true, true, true, true, true, false, false, false] rfl rfl (one_of HT_.out (by kernel_rfl)) (by decide) (fun K hK => ?_)
                        refine goes_ Try.func46 (by kernel_rfl) rfl #[.int .i64 1, .int .i64 a1] (by rfl) rfl rfl (by (try simp only [List.map_toArray, List.map_cons, List.map_nil]); first | done | rfl | (simp only [List.length_drop, List.length_take]; rfl)) ?_
                        with_reducible refine (spec_BitsSize.calls 1 a1 t214 _ A26.out).mono ?_
                        rintro e w' ⟨rfl, ⟨nd, rfl⟩⟩
                        refine ⟨_, rfl, ?_⟩
                        refine hK.out _ _ (((HB.out.cell (World.block_lt_of_cell? w _ hw213_0)).trans hw213_0)) (fun hHeld => ?_)
                        clear hK K
                        refine norm_ (a' := ?_) ?_ ?_
                        rotate_left
                        · show Act.put _ (some 66) _ = _
                          simp only [Act.put, List.setIfInBounds_toArray, List.set_cons_zero, List.set_cons_succ, i64_w, i32_w]
                          rfl
                        refine one_ (i := 7) (N := some 67) #[true, true, true, true, true, true, true, true, false, false] rfl rfl (one_of HT_.out (by kernel_rfl)) (by decide) (fun K hK => ?_)
                        refine goes_ Try.func19 (by kernel_rfl) rfl #[.int .i64 (rd l0 x8_3), .int .i64 t214] (by rfl) rfl rfl (by (try simp only [List.map_toArray, List.map_cons, List.map_nil]); first | done | rfl | (simp only [List.length_drop, List.length_take]; rfl)) ?_
                        with_reducible refine (spec_WordPut.calls k3 (rd l0 x8_3) t214 t215 _ A27.out).mono ?_
                        rintro e w33 ⟨v216, rfl, ho0, hb⟩
                        refine ⟨_, rfl, ?_⟩
                        have n0_ := Aside0.mk (Kd.R_elder' (R_later HO209.out) (Kd.R_base ho0) hb)
                        have n1_ := Aside0.mk (Kd.R_elder' (R_later HO212.out) (Kd.R_base ho0) hb)
                        have n2_ := Aside0.mk (Kd.R_lower (Kd.R_new' (Kd.R_new' ho0 (Kd.R_lt (R_later HO209.out))) (Kd.R_lt (R_later HO212.out))) (below_size (below_later HB.out)))
                        have n3_ := bst HB hb
                        clear HO209
                        clear HO212
                        clear HB
                        have HO209 := n0_
                        have HO212 := n1_
                        have HO217 := n2_
                        have HB := n3_
                        clear n0_ n1_ n2_ n3_
                        (try clear hb)
                        (try clear hb2)
                        (try clear hk)
                        (try clear hi)
                        (try clear ho0)
                        obtain ⟨Ao35, co35, eo35⟩ := Kd.R_slice HO217.out
                        (first | subst eo35 | (injection eo35 with f1_ f2_ f3_; have f4_ := f1_.symm; have f5_ := f3_.symm; clear f1_ f2_ f3_; subst f4_; subst f5_))
                        refine hK.out _ _ (((HB.out.cell (World.block_lt_of_cell? w _ hw213_0)).trans hw213_0)) (fun hHeld => ?_)
                        clear hK K
                        refine norm_ (a' := ?_) ?_ ?_
                        rotate_left
                        · show Act.put _ (some 67) _ = _
                          simp only [Act.put, List.setIfInBounds_toArray, List.set_cons_zero, List.set_cons_succ, i64_w, i32_w]
                          rfl
                        refine one_ (i := 8) (N := some 68) #[true, true, true, true, true, true, true, true, true, false] rfl rfl (one_of HT_.out (by kernel_rfl)) (by decide) (fun K hK => ?_)
                        refine Kd.R_append_rows_step (Kd.int .u8) (w0 := w) w.heap.size (by rfl) (.tmp 60) (.tmp 67) 24 5 (.int .u8 0) 1 rfl Try.underlying24 info5 rfl (by decide) (by omega) v211 y210 t215 _ _ _ (fun k_ => some k_ ≠ (.slice Ao31 t207.length co31 : Value).ownBlock ∧ some k_ ≠ (.slice Ao35 t215.length co35 : Value).ownBlock) (fun _ => False) rfl rfl ?aO ?aR (fun _ _ h => h) (fun _ h => h.elim) ?aF ?aB ?aS ?aL ?_
                        (case aR => repeat (first | exact (Kd.R_reads' HO217.out).2.2 | (with_reducible refine Kd.C_alloc ?_ _) | (with_reducible refine Kd.C_drewN ?_ _) | (with_reducible refine Kd.C_drew ?_)))
                        (case aB => exact (below_later HB.out))
                        (case aF => exact (fun k_ hk => ⟨Kd.fresh' (Kd.R_lt (R_later HO209.out)) k_ hk, Kd.fresh' (Kd.R_lt (R_later HO217.out)) k_ hk⟩))
                        (case aO => exact (R_later HO212.out))
                        (case aS => exact (below_size (below_later HB.out)))
                        (case aL => have := LMc28.out; omega)
                        intro v219 w34 ho hb hg hat
                        rw [← Ny218.out] at ho
                        have n0_ := Aside0.mk (Kd.R_after (ok := (fun k_ => some k_ ≠ (.slice Ao35 t215.length co35 : Value).ownBlock)) (by (with_reducible repeat (first | apply Kd.R_alloc | apply Kd.R_drewN | apply Kd.R_drew)); exact Kd.R_mono HO209.out (fun _ hk => ⟨hk.2, hk.1.2⟩)) hg hat)
                        have n1_ := Aside0.mk (Kd.R_after (ok := (fun k_ => some k_ ≠ (.slice Ao31 t207.length co31 : Value).ownBlock)) (by (with_reducible repeat (first | apply Kd.R_alloc | apply Kd.R_drewN | apply Kd.R_drew)); exact Kd.R_mono HO217.out (fun _ hk => ⟨hk.1.2, hk.2⟩)) hg hat)
                        have n2_ := Aside0.mk (hb)
                        have n3_ := Aside0.mk (ho)
                        clear HO209
                        clear HO217
                        clear HB
                        clear HO212
                        have HO209 := n0_
                        have HO217 := n1_
                        have HB := n2_
                        have HO220 := n3_
                        clear n0_ n1_ n2_ n3_
                        clear ho hb hg hat
                        refine hK.out _ _ (((HB.out.cell (World.block_lt_of_cell? w _ hw213_0)).trans hw213_0)) (fun hHeld => ?_)
                        clear hK K
                        refine norm_ (a' := ?_) ?_ ?_
                        rotate_left
                        · show Act.put _ (some 68) _ = _
                          simp only [Act.put, List.setIfInBounds_toArray, List.set_cons_zero, List.set_cons_succ, i64_w, i32_w]
                          rfl
                        refine pure_ (i := 9) (N := some 6) (v := ?_) (a' := ?_) #[true, true, true, true, true, true, true, true, true, true] rfl rfl (any_of HT_.out (by kernel_rfl)) (fun _ _ _ h => h) (Or.inl ⟨by rfl, ?_⟩) ?_ ?_
                        rotate_left
                        · intro w'
                          go_simp
                          with_reducible rfl
                        rotate_left
                        · simp only [Act.put, List.setIfInBounds_toArray, List.set_cons_zero, List.set_cons_succ, i64_w, i32_w]
                          rfl
                        refine done_ (done_of HT_.out (by kernel_rfl)) ?_
                        try go_wp2
                        go_roundg k3
                        case measure => have := HJ2.out; have := HK2.out; have := HK3.out; omega
                        case rel => exact ⟨(y218), (wrap64 (x8_3 + t206)), sr, H', ⟨by have := HJ2.out; have := HK2.out; have := HK3.out; omega⟩, ⟨R_later (Kd.R_mono HO220.out (fun _ hk => trivial))⟩, ⟨below_later HB.out⟩⟩
                      · rw [if_neg c24] at H
                        have c24b0 : decide (0 < a1) = false := decide_eq_false c24
                        clear c24
                        have H' := Aside0.mk H
                        clear H
                        go_wp2_with (first | ((with_reducible refine gate_callee (f := 44) rfl ?_); refine gl_ (some 50) Try.func44 #[.slice A0 l0.length c0, .int .i64 x8_3] rfl ?_; (with_reducible refine (spec_l8Alike.calls k3 _ _ l0 x8_3 t206 _ ?side1 ?side2 A20.out).mono ?_); (case side1 => repeat (first | exact (Kd.C_below HR0.out HB.out) | (with_reducible refine Kd.C_alloc ?_ _) | (with_reducible refine Kd.C_drewN ?_ _) | (with_reducible refine Kd.C_drew ?_))); (case side2 => exact HC0.out); rintro e w' ⟨rfl, ⟨nd, rfl⟩⟩; refine ⟨_, rfl, ?_⟩) | ((with_reducible refine gate_callee (f := 45) rfl ?_); refine gl_ (some 56) Try.func45 #[.int .i64 (wrap64 (2 * t206))] rfl ?_; (with_reducible refine (spec_UvarPut.calls k3 (wrap64 (2 * t206)) t207 _ A22.out).mono ?_); rintro e w36 ⟨v208, rfl, ho0, hb⟩; refine ⟨_, rfl, ?_⟩; have HO209 := Aside0.mk (Kd.R_lower (Kd.R_new' ho0 (Kd.R_lt (R_later HO_6.out))) (below_size (below_later HB.out))); replace HO_6 := Aside0.mk (Kd.R_elder' (R_later HO_6.out) (Kd.R_base ho0) hb); replace HB := bst HB hb; (try clear hb); (try clear hk); (try clear ho0); obtain ⟨Ao38, co38, eo38⟩ := Kd.R_slice HO209.out; subst eo38) | ((with_reducible refine gate_builtin (b := .append) (xs := #[.tmp 53, .tmp 56]) rfl ?_); (try (refine gate_guard (by rfl) ?_; dsimp only)); at_builtin; refine Kd.R_append_rows (Kd.int .u8) (w0 := w) w.heap.size rfl (.tmp 53) (.tmp 56) 24 5 (.int .u8 0) 1 rfl Try.underlying24 info5 rfl (by decide) (by omega) u6 x6_3 t207 _ _ _ (fun k_ => some k_ ≠ (.slice Ao38 t207.length co38 : Value).ownBlock) (fun _ => False) rfl rfl ?aO ?aR (fun _ _ h => h) (fun _ h => h.elim) ?aF ?aB ?aS ?aL ?_; (case aR => repeat (first | exact (Kd.R_reads' HO209.out).2.2 | (with_reducible refine Kd.C_alloc ?_ _) | (with_reducible refine Kd.C_drewN ?_ _) | (with_reducible refine Kd.C_drew ?_))); (case aB => exact (below_later HB.out)); (case aF => exact (fun k_ hk => Kd.fresh' (Kd.R_lt (R_later HO209.out)) k_ hk)); (case aO => exact (by (with_reducible repeat (first | apply Kd.R_alloc | apply Kd.R_drewN | apply Kd.R_drew)); exact Kd.R_mono HO_6.out (fun _ hk => hk.2))); (case aS => exact (below_size (below_later HB.out))); (case aL => have := LMc23.out; omega); intro v211 w37 ho hb hg hat; rw [← Ny210.out] at ho; have n0_ := Aside0.mk (Kd.R_after (ok := (fun _ => True)) (R_later HO209.out) hg hat); have n1_ := Aside0.mk (hb); have n2_ := Aside0.mk (ho); clear HO209; clear HB; clear HO_6; have HO209 := n0_; have HB := n1_; have HO212 := n2_; clear n0_ n1_ n2_; clear ho hb hg hat))
                        go_roundg k3
                        case measure => have := HJ2.out; have := HK2.out; have := HK3.out; omega
                        case rel => exact ⟨(y210), (wrap64 (x8_3 + t206)), sr, H', ⟨by have := HJ2.out; have := HK2.out; have := HK3.out; omega⟩, ⟨R_later (Kd.R_mono HO212.out (fun _ hk => trivial))⟩, ⟨below_later HB.out⟩⟩
                    · rw [if_neg c21] at H
                      have c21b0 : decide (8 ≤ t206) = false := decide_eq_false c21
                      clear c21
                      obtain ⟨y221, hy221⟩ : ∃ y_ : List Int, y_ = (([] : List Int)) := ⟨_, rfl⟩
                      replace H : (spec_RunPack.l2 k3 l0 a1 x6_3 x8_3 y221) = some (r1, r2) := by first | (rw [hy221]; with_reducible exact H) | (rw [hy221]; exact H) | exact H
                      have Ny221 := Aside0.mk hy221
                      clear hy221
                      have H' := Aside0.mk H
                      clear H
                      go_wp2_with (first | ((with_reducible refine gate_callee (f := 44) rfl ?_); refine gl_ (some 50) Try.func44 #[.slice A0 l0.length c0, .int .i64 x8_3] rfl ?_; (with_reducible refine (spec_l8Alike.calls k3 _ _ l0 x8_3 t206 _ ?side1 ?side2 A20.out).mono ?_); (case side1 => repeat (first | exact (Kd.C_below HR0.out HB.out) | (with_reducible refine Kd.C_alloc ?_ _) | (with_reducible refine Kd.C_drewN ?_ _) | (with_reducible refine Kd.C_drew ?_))); (case side2 => exact HC0.out); rintro e w' ⟨rfl, ⟨nd, rfl⟩⟩; refine ⟨_, rfl, ?_⟩) | ((with_reducible refine gate_dst (N := 72) rfl ?_); (try (refine gate_guard (by rfl) ?_; dsimp only)); refine Kd.R_lit (Kd.int .i64) _ 3 ?hg (N := 72) ?hd (xs := ([] : List Int)) (inner := []) (ok := fun _ => True) (okp := fun _ => True) ?hr ?hp (fun _ hk => hk) trivial (Below.refl _ _) (Nat.le_refl _) (by simp) ?_; (case hd => rfl); (case hg => rfl); (case hr => first | (go_simp; done) | (go_simp; rfl)); (case hp => exact (Reps.none _ _)); intro v222 w39 ho40 hb hg_ hnew_; clear hg_ hnew_; (first | rw [← Ny221.out] at ho40 | (simp only [Int.reduceToNat] at ho40; rw [← Ny221.out] at ho40)); have HO223 := Aside0.mk (Kd.R_lower ho40 (below_size (below_later HB.out))); replace HO_6 := Aside0.mk (Kd.R_below (R_later HO_6.out) hb); replace HB := bst HB hb; clear hb ho40))
                      go_loopg [8, 10] k3 (fun kq v8 v10 w' => ∃ (x8_4 : Int) (x10_4 : List Int), v8 = .int .i64 x8_4 ∧ Aside0 (spec_RunPack.l2 kq l0 a1 x6_3 x8_4 x10_4 = some (r1, r2)) ∧ Aside0 (kq ≤ k3) ∧ Aside0 (Kd.R (Kd.int .u8) 5 w' w.heap.size (fun _ => True) u6 x6_3) ∧ Aside0 (Kd.R (Kd.int .i64) 3 w' w.heap.size (fun _ => True) v10 x10_4) ∧ Aside0 (Below w.heap.size w w'))
                      case atStart => exact ⟨(x8_3), (y221), sr, H', ⟨Nat.le_refl _⟩, ⟨R_later HO_6.out⟩, ⟨R_later HO223.out⟩, ⟨below_later HB.out⟩⟩
                      case round =>
                        clear H'
                        try clear c8
                        try clear c9
                        try clear c9b0
                        try clear c19
                        try clear c19b0
                        try clear c21
                        try clear c21b0
                        obtain ⟨x8_4, x10_4, rfl, HA, HK4, HO_6, HO_10, HB⟩ := hrel
                        cases gk with
                        | zero => exact absurd HA.out (by simp [spec_RunPack.l2])
                        | succ k4 =>
                          have H := HA.out
                          clear HA
                          simp only [spec_RunPack.l2] at H
                          have HC41 := Aside0.mk H
                          clear H
                          go_upto_region 18 with (fail)
                          go_cut [87] (fun v87 wc => ∃ (kq : Nat) (x87_40 : Bool), v87 = .bool x87_40 ∧ Aside0 (spec_RunPack.j4 kq l0 a1 x6_3 x8_4 x10_4 x87_40 = some (r1, r2)) ∧ Aside0 (kq ≤ k4) ∧ Aside0 (Kd.R (Kd.int .u8) 5 wc w.heap.size (fun _ => True) u6 x6_3) ∧ Aside0 (Kd.R (Kd.int .i64) 3 wc w.heap.size (fun _ => True) u10 x10_4) ∧ Aside0 (Below w.heap.size w wc))
                          case first =>
                            have H := HC41.out
                            clear HC41
                            by_cases c42 : x8_4 < (l0.length : Int)
                            · rw [if_pos c42] at H
                              have c42b0 := decide_eq_true c42
                              clear c42
                              (first | rw [c42b0] | (simp only [i64_w, i32_w]; rw [c42b0]) | skip)
                              by_cases c43 : (x10_4.length : Int) = 0
                              · rw [if_pos c43] at H
                                have c43b0 : ((x10_4.length : Int) == 0) = true := beq_iff_eq.mpr c43
                                have c43b1 : ((x10_4.length : Int) != 0) = false := bne_eq_false_iff_eq.mpr c43
                                clear c43
                                have H' := Aside0.mk H
                                clear H
                                obtain ⟨Ao44, co44, eo44⟩ := Kd.R_slice HO_10.out
                                subst eo44
                                go_wp2
                                go_meet
                                case rel => exact ⟨_, (true), sr, H', ⟨by have := HJ2.out; have := HK2.out; have := HK3.out; have := HK4.out; first | omega | exact Nat.le_refl _⟩, ⟨R_later HO_6.out⟩, ⟨R_later HO_10.out⟩, ⟨below_later HB.out⟩⟩
                              · rw [if_neg c43] at H
                                have c43b0 : ((x10_4.length : Int) == 0) = false := beq_eq_false_iff_ne.mpr c43
                                have c43b1 : ((x10_4.length : Int) != 0) = true := bne_iff_ne.mpr c43
                                have c43b2 : ¬ (x10_4 = []) := fun h_ => c43 (by rw [h_]; rfl)
                                replace H := bnd H
                                obtain ⟨t224, A45, H⟩ := H
                                have H' := Aside0.mk H
                                clear H
                                obtain ⟨Ao46, co46, eo46⟩ := Kd.R_slice HO_10.out
                                subst eo46
                                go_wp2_with (first | (go_at_call 44; (with_reducible refine (spec_l8Alike.calls k4 _ _ l0 x8_4 t224 _ ?side1 ?side2 A45.out).mono ?_); (case side1 => repeat (first | exact (Kd.C_below HR0.out HB.out) | (with_reducible refine Kd.C_alloc ?_ _) | (with_reducible refine Kd.C_drewN ?_ _) | (with_reducible refine Kd.C_drew ?_))); (case side2 => exact HC0.out); rintro e w' ⟨rfl, ⟨nd, rfl⟩⟩))
                                go_meet
                                case rel => exact ⟨_, (decide (t224 < 8)), sr, H', ⟨by have := HJ2.out; have := HK2.out; have := HK3.out; have := HK4.out; first | omega | exact Nat.le_refl _⟩, ⟨R_later HO_6.out⟩, ⟨R_later HO_10.out⟩, ⟨below_later HB.out⟩⟩
                            · rw [if_neg c42] at H
                              have c42b0 := decide_eq_false c42
                              clear c42
                              (first | rw [c42b0] | (simp only [i64_w, i32_w]; rw [c42b0]) | skip)
                              have H' := Aside0.mk H
                              clear H
                              go_wp2
                              go_meet
                              case rel => exact ⟨_, (false), sr, H', ⟨by have := HJ2.out; have := HK2.out; have := HK3.out; have := HK4.out; first | omega | exact Nat.le_refl _⟩, ⟨R_later HO_6.out⟩, ⟨R_later HO_10.out⟩, ⟨below_later HB.out⟩⟩
                          case rest =>
                            clear HC41
                            try clear c8
                            try clear c9
                            try clear c9b0
                            try clear c19
                            try clear c19b0
                            try clear c21
                            try clear c21b0
                            obtain ⟨kq, x87_40, rfl, HA, HJ40, HO_6, HO_10, HB⟩ := hcut
                            cases kq with
                            | zero => exact absurd HA.out (by simp [spec_RunPack.j4])
                            | succ kj40 =>
                              have H := HA.out
                              clear HA
                              simp only [spec_RunPack.j4] at H
                              by_cases c47 : x87_40 = true
                              · subst c47
                                replace H := ifp rfl H
                                have H' := Aside0.mk H
                                clear H
                                go_wp2
                                go_loopg [10, 11] kj40 (fun kq v10 v11 w' => ∃ (x10_6 : List Int) (x11_6 : Int), v11 = .int .i64 x11_6 ∧ Aside0 (spec_RunPack.l3 kq l0 a1 x6_3 x8_4 x10_6 x11_6 = some (r1, r2)) ∧ Aside0 (kq ≤ kj40) ∧ Aside0 (Kd.R (Kd.int .u8) 5 w' w.heap.size (fun _ => True) u6 x6_3) ∧ Aside0 (Kd.R (Kd.int .i64) 3 w' w.heap.size (fun _ => True) v10 x10_6) ∧ Aside0 (Below w.heap.size w w'))
                                case atStart => exact ⟨(x10_4), (0), sr, H', ⟨Nat.le_refl _⟩, ⟨R_later HO_6.out⟩, ⟨R_later HO_10.out⟩, ⟨below_later HB.out⟩⟩
                                case round =>
                                  clear H'
                                  try clear c8
                                  try clear c9
                                  try clear c9b0
                                  try clear c19
                                  try clear c19b0
                                  try clear c21
                                  try clear c21b0
                                  try clear c47
                                  obtain ⟨x10_6, x11_6, rfl, HA, HK6, HO_6, HO_10, HB⟩ := hrel
                                  cases gk with
                                  | zero => exact absurd HA.out (by simp [spec_RunPack.l3])
                                  | succ k6 =>
                                    have H := HA.out
                                    clear HA
                                    simp only [spec_RunPack.l3] at H
                                    by_cases c48 : x11_6 < 8
                                    · rw [if_pos c48] at H
                                      have c48b0 := decide_eq_true c48
                                      clear c48
                                      by_cases c49 : (wrap64 (x8_4 + x11_6)) < (l0.length : Int)
                                      · rw [if_pos c49] at H
                                        have c49b0 := decide_eq_true c49
                                        clear c49
                                        obtain ⟨ji50, hji50⟩ : ∃ j_ : Int, (wrap64 (x8_4 + x11_6)) = j_ := ⟨_, rfl⟩
                                        replace H : (if 0 ≤ (ji50) then (if x10_6.length < 17592186044416 then (spec_RunPack.l3 k6 l0 a1 x6_3 x8_4 (x10_6 ++ [rd l0 (ji50)]) (wrap64 (x11_6 + 1))) else (none)) else (none)) = some (r1, r2) := by first | (rw [hji50] at H; exact H) | (simp only [hji50] at H ⊢; exact H)
                                        (try rw [hji50] at c49b0)
                                        have hji50w : (IntKind.i64.wrap (x8_4 + x11_6)) = ji50 := (i64_w _).trans hji50
                                        replace H := ifd H
                                        obtain ⟨c51b0, H⟩ := H
                                        replace H := ifs H
                                        obtain ⟨c52, H⟩ := H
                                        have LMc52 := Aside0.mk c52
                                        clear c52
                                        obtain ⟨y238, hy238⟩ : ∃ y_ : List Int, y_ = (x10_6 ++ [rd l0 (ji50)]) := ⟨_, rfl⟩
                                        replace H : (spec_RunPack.l3 k6 l0 a1 x6_3 x8_4 y238 (wrap64 (x11_6 + 1))) = some (r1, r2) := by first | (rw [hy238]; with_reducible exact H) | (rw [hy238]; exact H) | exact H
                                        have Ny238 := Aside0.mk hy238
                                        clear hy238
                                        have H' := Aside0.mk H
                                        clear H
                                        have p237 : 0 ≤ ((ji50) : Int) := dcd
                                        have q237 : (ji50) < (l0.length : Int) := dcd
                                        obtain ⟨ad237, e237, hx237_0⟩ := Kd.at_int HR0.out (ji50) p237 q237
                                        cases e237
                                        replace hx237_0 := crd HB hx237_0
                                        replace p237 := eq_true p237
                                        replace q237 := eq_true q237
                                        go_wp2_with (first | ((with_reducible refine gate_builtin (b := .append) (xs := #[.tmp 104, .tmp 106]) rfl ?_); (try (refine gate_guard (by rfl) ?_; dsimp only)); at_builtin; refine Kd.R_append (Kd.int .i64) (w0 := w) w.heap.size rfl (.tmp 104) (.tmp 106) 41 3 (.int .i64 0) 8 rfl Try.underlying41 info3 rfl (by decide) (by omega) u10 x10_6 (rd l0 (ji50)) [.int .i64 (rd l0 (ji50))] (fun _ => True) (fun _ => False) rfl rfl ?aP (fun _ hk => hk.elim) ?aF ?aO ?aB ?aS ?aL ?_; (case aP => exact rfl); (case aB => exact (below_later HB.out)); (case aF => exact (fun _ _ => trivial)); (case aO => exact (R_later HO_10.out)); (case aS => exact (below_size (below_later HB.out))); (case aL => have := LMc52.out; omega); intro v239 w53 ho hb hg hat; rw [← Ny238.out] at ho; have n0_ := Aside0.mk (Kd.R_over' (R_later HO_6.out) (Kd.R_typed (R_later HO_10.out)) (by decide) hg); have n1_ := Aside0.mk (hb); have n2_ := Aside0.mk (ho); clear HO_6; clear HB; clear HO_10; have HO_6 := n0_; have HB := n1_; have HO240 := n2_; clear n0_ n1_ n2_; clear ho hb hg hat))
                                        go_roundg k6
                                        case measure => have := HJ2.out; have := HK2.out; have := HK3.out; have := HK4.out; have := HJ40.out; have := HK6.out; omega
                                        case rel => exact ⟨(y238), (wrap64 (x11_6 + 1)), sr, H', ⟨by have := HJ2.out; have := HK2.out; have := HK3.out; have := HK4.out; have := HJ40.out; have := HK6.out; omega⟩, ⟨R_later HO_6.out⟩, ⟨R_later HO240.out⟩, ⟨below_later HB.out⟩⟩
                                      · rw [if_neg c49] at H
                                        have c49b0 := decide_eq_false c49
                                        clear c49
                                        replace H := ifs H
                                        obtain ⟨c54, H⟩ := H
                                        have LMc54 := Aside0.mk c54
                                        clear c54
                                        obtain ⟨y241, hy241⟩ : ∃ y_ : List Int, y_ = (x10_6 ++ [0]) := ⟨_, rfl⟩
                                        replace H : (spec_RunPack.l3 k6 l0 a1 x6_3 x8_4 y241 (wrap64 (x11_6 + 1))) = some (r1, r2) := by first | (rw [hy241]; with_reducible exact H) | (rw [hy241]; exact H) | exact H
                                        have Ny241 := Aside0.mk hy241
                                        clear hy241
                                        have H' := Aside0.mk H
                                        clear H
                                        go_wp2_with (first | ((with_reducible refine gate_builtin (b := .append) (xs := #[.tmp 104, .tmp 106]) rfl ?_); (try (refine gate_guard (by rfl) ?_; dsimp only)); at_builtin; refine Kd.R_append (Kd.int .i64) (w0 := w) w.heap.size rfl (.tmp 104) (.tmp 106) 41 3 (.int .i64 0) 8 rfl Try.underlying41 info3 rfl (by decide) (by omega) u10 x10_6 0 [.int .i64 0] (fun _ => True) (fun _ => False) rfl rfl ?aP (fun _ hk => hk.elim) ?aF ?aO ?aB ?aS ?aL ?_; (case aP => exact rfl); (case aB => exact (below_later HB.out)); (case aF => exact (fun _ _ => trivial)); (case aO => exact (R_later HO_10.out)); (case aS => exact (below_size (below_later HB.out))); (case aL => have := LMc54.out; omega); intro v242 w55 ho hb hg hat; rw [← Ny241.out] at ho; have n0_ := Aside0.mk (Kd.R_over' (R_later HO_6.out) (Kd.R_typed (R_later HO_10.out)) (by decide) hg); have n1_ := Aside0.mk (hb); have n2_ := Aside0.mk (ho); clear HO_6; clear HB; clear HO_10; have HO_6 := n0_; have HB := n1_; have HO243 := n2_; clear n0_ n1_ n2_; clear ho hb hg hat))
                                        go_roundg k6
                                        case measure => have := HJ2.out; have := HK2.out; have := HK3.out; have := HK4.out; have := HJ40.out; have := HK6.out; omega
                                        case rel => exact ⟨(y241), (wrap64 (x11_6 + 1)), sr, H', ⟨by have := HJ2.out; have := HK2.out; have := HK3.out; have := HK4.out; have := HJ40.out; have := HK6.out; omega⟩, ⟨R_later HO_6.out⟩, ⟨R_later HO243.out⟩, ⟨below_later HB.out⟩⟩
                                    · rw [if_neg c48] at H
                                      have c48b0 := decide_eq_false c48
                                      clear c48
                                      have H' := Aside0.mk H
                                      clear H
                                      go_wp2
                                      go_roundg k6
                                      case measure => have := HJ2.out; have := HK2.out; have := HK3.out; have := HK4.out; have := HJ40.out; have := HK6.out; omega
                                      case rel => exact ⟨(wrap64 (x8_4 + 8)), (x10_6), sr, H', ⟨by have := HJ2.out; have := HK2.out; have := HK3.out; have := HK4.out; have := HJ40.out; have := HK6.out; omega⟩, ⟨R_later HO_6.out⟩, ⟨R_later HO_10.out⟩, ⟨below_later HB.out⟩⟩
                              · replace c47 := Bool.eq_false_iff.mpr c47
                                subst c47
                                replace H := ifn Bool.false_ne_true H
                                replace H := bnd H
                                obtain ⟨t225, A56, H⟩ := H
                                replace H := ifs H
                                obtain ⟨c57, H⟩ := H
                                have LMc57 := Aside0.mk c57
                                clear c57
                                replace H := bsm H
                                obtain ⟨y228, Ny228, H⟩ := H
                                replace H := bnd H
                                obtain ⟨t231, A58, H⟩ := H
                                replace H := ifs H
                                obtain ⟨c59, H⟩ := H
                                have LMc59 := Aside0.mk c59
                                clear c59
                                obtain ⟨y234, hy234⟩ : ∃ y_ : List Int, y_ = (y228 ++ t231) := ⟨_, rfl⟩
                                replace H : (spec_RunPack.l1 kj40 l0 a1 y234 x8_4) = some (r1, r2) := by first | (rw [hy234]; with_reducible exact H) | (rw [hy234]; exact H) | exact H
                                have Ny234 := Aside0.mk hy234
                                clear hy234
                                have H' := Aside0.mk H
                                clear H
                                obtain ⟨Ao60, co60, eo60⟩ := Kd.R_slice HO_10.out
                                subst eo60
                                go_wp2_with (first | ((with_reducible refine gate_callee (f := 45) rfl ?_); refine gl_ (some 116) Try.func45 #[.int .i64 (wrap64 ((wrap64 (2 * (wrap64 ((x10_4.length : Int) / 8)))) + 1))] rfl ?_; (with_reducible refine (spec_UvarPut.calls kj40 (wrap64 ((wrap64 (2 * (wrap64 ((x10_4.length : Int) / 8)))) + 1)) t225 _ A56.out).mono ?_); rintro e w61 ⟨v226, rfl, ho0, hb⟩; refine ⟨_, rfl, ?_⟩; have HO227 := Aside0.mk (Kd.R_lower (Kd.R_new' ho0 (Kd.R_lt (R_later HO_6.out))) (below_size (below_later HB.out))); replace HO_6 := Aside0.mk (Kd.R_elder' (R_later HO_6.out) (Kd.R_base ho0) hb); replace HO_10 := Aside0.mk (Kd.R_below (R_later HO_10.out) hb); replace HB := bst HB hb; (try clear hb); (try clear hk); (try clear ho0); obtain ⟨Ao63, co63, eo63⟩ := Kd.R_slice HO227.out; subst eo63) | ((with_reducible refine gate_builtin (b := .append) (xs := #[.tmp 110, .tmp 116]) rfl ?_); (try (refine gate_guard (by rfl) ?_; dsimp only)); at_builtin; refine Kd.R_append_rows (Kd.int .u8) (w0 := w) w.heap.size rfl (.tmp 110) (.tmp 116) 24 5 (.int .u8 0) 1 rfl Try.underlying24 info5 rfl (by decide) (by omega) u6 x6_3 t225 _ _ _ (fun k_ => some k_ ≠ (.slice Ao63 t225.length co63 : Value).ownBlock) (fun _ => False) rfl rfl ?aO ?aR (fun _ _ h => h) (fun _ h => h.elim) ?aF ?aB ?aS ?aL ?_; (case aR => repeat (first | exact (Kd.R_reads' HO227.out).2.2 | (with_reducible refine Kd.C_alloc ?_ _) | (with_reducible refine Kd.C_drewN ?_ _) | (with_reducible refine Kd.C_drew ?_))); (case aB => exact (below_later HB.out)); (case aF => exact (fun k_ hk => Kd.fresh' (Kd.R_lt (R_later HO227.out)) k_ hk)); (case aO => exact (by (with_reducible repeat (first | apply Kd.R_alloc | apply Kd.R_drewN | apply Kd.R_drew)); exact Kd.R_mono HO_6.out (fun _ hk => hk.2))); (case aS => exact (below_size (below_later HB.out))); (case aL => have := LMc57.out; omega); intro v229 w62 ho hb hg hat; rw [← Ny228.out] at ho; have n0_ := Aside0.mk (Kd.R_over' (R_later HO_10.out) (Kd.R_typed (R_later HO_6.out)) (by decide) hg); have n1_ := Aside0.mk (Kd.R_after (ok := (fun _ => True)) (R_later HO227.out) hg hat); have n2_ := Aside0.mk (hb); have n3_ := Aside0.mk (ho); clear HO_10; clear HO227; clear HB; clear HO_6; have HO_10 := n0_; have HO227 := n1_; have HB := n2_; have HO230 := n3_; clear n0_ n1_ n2_ n3_; clear ho hb hg hat) | ((with_reducible refine gate_callee (f := 47) rfl ?_); refine gl_ (some 121) Try.func47 #[.slice Ao60 x10_4.length co60, .int .i64 a1] rfl ?_; (with_reducible refine (spec_l8Bits.calls kj40 _ _ x10_4 a1 t231 _ ?side1 ?side2 A58.out).mono ?_); (case side1 => repeat (first | exact (Kd.R_reads' HO_10.out).2.2 | (with_reducible refine Kd.C_alloc ?_ _) | (with_reducible refine Kd.C_drewN ?_ _) | (with_reducible refine Kd.C_drew ?_))); (case side2 => exact (Kd.R_reads' HO_10.out).2.1); rintro e w64 ⟨v232, rfl, ho0, hb⟩; refine ⟨_, rfl, ?_⟩; have HO233 := Aside0.mk (Kd.R_lower (Kd.R_new' (Kd.R_new' ho0 (Kd.R_lt (R_later HO227.out))) (Kd.R_lt (R_later HO230.out))) (below_size (below_later HB.out))); replace HO_10 := Aside0.mk (Kd.R_below (R_later HO_10.out) hb); replace HO227 := Aside0.mk (Kd.R_elder' (R_later HO227.out) (Kd.R_base ho0) hb); replace HO230 := Aside0.mk (Kd.R_elder' (R_later HO230.out) (Kd.R_base ho0) hb); replace HB := bst HB hb; (try clear hb); (try clear hk); (try clear ho0); obtain ⟨Ao66, co66, eo66⟩ := Kd.R_slice HO233.out; subst eo66) | ((with_reducible refine gate_builtin (b := .append) (xs := #[.tmp 118, .tmp 121]) rfl ?_); (try (refine gate_guard (by rfl) ?_; dsimp only)); at_builtin; refine Kd.R_append_rows (Kd.int .u8) (w0 := w) w.heap.size rfl (.tmp 118) (.tmp 121) 24 5 (.int .u8 0) 1 rfl Try.underlying24 info5 rfl (by decide) (by omega) v229 y228 t231 _ _ _ (fun k_ => some k_ ≠ (.slice Ao63 t225.length co63 : Value).ownBlock ∧ some k_ ≠ (.slice Ao66 t231.length co66 : Value).ownBlock) (fun _ => False) rfl rfl ?aO ?aR (fun _ _ h => h) (fun _ h => h.elim) ?aF ?aB ?aS ?aL ?_; (case aR => repeat (first | exact (Kd.R_reads' HO233.out).2.2 | (with_reducible refine Kd.C_alloc ?_ _) | (with_reducible refine Kd.C_drewN ?_ _) | (with_reducible refine Kd.C_drew ?_))); (case aB => exact (below_later HB.out)); (case aF => exact (fun k_ hk => ⟨Kd.fresh' (Kd.R_lt (R_later HO227.out)) k_ hk, Kd.fresh' (Kd.R_lt (R_later HO233.out)) k_ hk⟩)); (case aO => exact (R_later HO230.out)); (case aS => exact (below_size (below_later HB.out))); (case aL => have := LMc59.out; omega); intro v235 w65 ho hb hg hat; rw [← Ny234.out] at ho; have n0_ := Aside0.mk (Kd.R_over' (R_later HO_10.out) (Kd.R_typed (R_later HO230.out)) (by decide) hg); have n1_ := Aside0.mk (Kd.R_after (ok := (fun k_ => some k_ ≠ (.slice Ao66 t231.length co66 : Value).ownBlock)) (by (with_reducible repeat (first | apply Kd.R_alloc | apply Kd.R_drewN | apply Kd.R_drew)); exact Kd.R_mono HO227.out (fun _ hk => ⟨hk.2, hk.1.2⟩)) hg hat); have n2_ := Aside0.mk (Kd.R_after (ok := (fun k_ => some k_ ≠ (.slice Ao63 t225.length co63 : Value).ownBlock)) (by (with_reducible repeat (first | apply Kd.R_alloc | apply Kd.R_drewN | apply Kd.R_drew)); exact Kd.R_mono HO233.out (fun _ hk => ⟨hk.1.2, hk.2⟩)) hg hat); have n3_ := Aside0.mk (hb); have n4_ := Aside0.mk (ho); clear HO_10; clear HO227; clear HO233; clear HB; clear HO230; have HO_10 := n0_; have HO227 := n1_; have HO233 := n2_; have HB := n3_; have HO236 := n4_; clear n0_ n1_ n2_ n3_ n4_; clear ho hb hg hat))
                                go_roundg kj40
                                case measure => have := HJ2.out; have := HK2.out; have := HK3.out; have := HK4.out; have := HJ40.out; omega
                                case rel => exact ⟨(y234), (x8_4), sr, H', ⟨by have := HJ2.out; have := HK2.out; have := HK3.out; have := HK4.out; have := HJ40.out; omega⟩, ⟨R_later (Kd.R_mono HO236.out (fun _ hk => trivial))⟩, ⟨below_later HB.out⟩⟩
                  · rw [if_neg c19] at H
                    have c19b0 := decide_eq_false c19
                    clear c19
                    simp only [Option.some.injEq, Prod.mk.injEq] at H
                    obtain ⟨rfl, rfl⟩ := H
                    go_wp2
                    go_ret2
                    exact ⟨_, by first | rfl | (simp [errW_none, errW_some] <;> rfl) | (simp [*, errW_none, errW_some] <;> rfl), by (with_reducible repeat (first | apply Kd.R_alloc | apply Kd.R_drewN | apply Kd.R_drew)); exact HO_6.out, below_later HB.out⟩

/-! ### spec_l16Nums: function 18 -/
def spec_l16Nums.l0 : Nat → List (S46) → List Int → Int → Option (List Int)
  | 0, _, _, _ => none
  | k + 1, x0, x3, x4 => if x4 < (x0.length : Int) then (if 0 ≤ x4 then (if x3.length < 17592186044416 then (spec_l16Nums.l0 k x0 (x3 ++ [(rd_T46 x0 x4).f0]) (wrap64 (x4 + 1))) else (none)) else (none)) else (some x3)
def spec_l16Nums.f (k : Nat) (l0 : List (S46)) : Option (List Int) := spec_l16Nums.l0 k l0 (([] : List Int)) 0
set_option maxHeartbeats 8000000 in
set_option maxRecDepth 100000 in
theorem spec_l16Nums.calls (k : Nat) (A0 : Option Addr) (c0 : Nat) (l0 : List (S46)) (r : List Int) (w : World) (hr0 : Kd.C k46 w A0 l0.length l0) (hc0 : l0.length ≤ c0) (h : spec_l16Nums.f k l0 = some r) :
    Calls Try.prog 18 #[.slice A0 l0.length c0] w fun e w' => ∃ v0_ : Value, e = .returned (v0_) ∧ Kd.R (Kd.int .i64) 3 w' w.heap.size (fun _ => True) v0_ r ∧ Below w.heap.size w w' := by
  have HR0 := Aside0.mk hr0
  have HC0 := Aside0.mk hc0
  clear hr0 hc0
  have HB := Aside0.mk (Below.refl w.heap.size w)
  have H : (spec_l16Nums.l0 k l0 (([] : List Int)) 0) = some r := h
  clear h
  obtain ⟨y244, hy244⟩ : ∃ y_ : List Int, y_ = (([] : List Int)) := ⟨_, rfl⟩
  replace H : (spec_l16Nums.l0 k l0 y244 0) = some r := by first | (rw [hy244]; with_reducible exact H) | (rw [hy244]; exact H) | exact H
  have Ny244 := Aside0.mk hy244
  clear hy244
  have H' := Aside0.mk H
  clear H
  go_enter Try.func18, Try.ntmps18
  go_wp2_with (first | ((with_reducible refine gate_dst (N := 5) rfl ?_); refine Kd.R_lit (Kd.int .i64) _ 3 ?hg (N := 5) ?hd (xs := ([] : List Int)) (inner := []) (ok := fun _ => True) (okp := fun _ => True) ?hr ?hp (fun _ hk => hk) trivial (Below.refl _ _) (Nat.le_refl _) (by simp) ?_; (case hd => rfl); (case hg => rfl); (case hr => first | (go_simp; done) | (go_simp; rfl)); (case hp => exact (Reps.none _ _)); intro v245 w2 ho3 hb hg_ hnew_; clear hg_ hnew_; (first | rw [← Ny244.out] at ho3 | (simp only [Int.reduceToNat] at ho3; rw [← Ny244.out] at ho3)); have HO246 := Aside0.mk (Kd.R_lower ho3 (below_size (below_later HB.out))); replace HB := bst HB hb; clear hb ho3))
  go_loopg [3, 4] k (fun kq v3 v4 w' => ∃ (x3_1 : List Int) (x4_1 : Int), v4 = .int .i64 x4_1 ∧ Aside0 (spec_l16Nums.l0 kq l0 x3_1 x4_1 = some r) ∧ Aside0 (kq ≤ k) ∧ Aside0 (Kd.R (Kd.int .i64) 3 w' w.heap.size (fun _ => True) v3 x3_1) ∧ Aside0 (Below w.heap.size w w'))
  case atStart => exact ⟨(y244), (0), sr, H', ⟨Nat.le_refl _⟩, ⟨R_later HO246.out⟩, ⟨below_later HB.out⟩⟩
  case round =>
    clear H'
    obtain ⟨x3_1, x4_1, rfl, HA, HK1, HO_3, HB⟩ := hrel
    cases gk with
    | zero => exact absurd HA.out (by simp [spec_l16Nums.l0])
    | succ k1 =>
      have H := HA.out
      clear HA
      simp only [spec_l16Nums.l0] at H
      by_cases c4 : x4_1 < (l0.length : Int)
      · rw [if_pos c4] at H
        have c4b0 := decide_eq_true c4
        clear c4
        replace H := ifd H
        obtain ⟨c5b0, H⟩ := H
        replace H := ifs H
        obtain ⟨c6, H⟩ := H
        have LMc6 := Aside0.mk c6
        clear c6
        obtain ⟨y248, hy248⟩ : ∃ y_ : List Int, y_ = (x3_1 ++ [(rd_T46 l0 x4_1).f0]) := ⟨_, rfl⟩
        replace H : (spec_l16Nums.l0 k1 l0 y248 (wrap64 (x4_1 + 1))) = some r := by first | (rw [hy248]; with_reducible exact H) | (rw [hy248]; exact H) | exact H
        have Ny248 := Aside0.mk hy248
        clear hy248
        have H' := Aside0.mk H
        clear H
        have p247 : 0 ≤ (x4_1 : Int) := dcd
        have q247 : x4_1 < (l0.length : Int) := dcd
        obtain ⟨ad247, e247, hx247_0, hx247_1⟩ := at_T46 HR0.out x4_1 p247 q247
        cases e247
        replace hx247_0 := crd HB hx247_0
        replace hx247_1 := crd HB hx247_1
        replace p247 := eq_true p247
        replace q247 := eq_true q247
        go_wp2_with (first | ((with_reducible refine gate_builtin (b := .append) (xs := #[.tmp 12, .tmp 18]) rfl ?_); at_builtin; refine Kd.R_append (Kd.int .i64) (w0 := w) w.heap.size rfl (.tmp 12) (.tmp 18) 41 3 (.int .i64 0) 8 rfl Try.underlying41 info3 rfl (by decide) (by omega) u3 x3_1 ((rd_T46 l0 x4_1).f0) [.int .i64 ((rd_T46 l0 x4_1).f0)] (fun _ => True) (fun _ => False) rfl rfl ?aP (fun _ hk => hk.elim) ?aF ?aO ?aB ?aS ?aL ?_; (case aP => exact rfl); (case aB => exact (below_later HB.out)); (case aF => exact (fun _ _ => trivial)); (case aO => exact (R_later HO_3.out)); (case aS => exact (below_size (below_later HB.out))); (case aL => have := LMc6.out; omega); intro v249 w7 ho hb hg hat; rw [← Ny248.out] at ho; have n0_ := Aside0.mk (hb); have n1_ := Aside0.mk (ho); clear HB; clear HO_3; have HB := n0_; have HO250 := n1_; clear n0_ n1_; clear ho hb hg hat))
        go_roundg k1
        case measure => have := HK1.out; omega
        case rel => exact ⟨(y248), (wrap64 (x4_1 + 1)), sr, H', ⟨by have := HK1.out; omega⟩, ⟨R_later HO250.out⟩, ⟨below_later HB.out⟩⟩
      · rw [if_neg c4] at H
        have c4b0 := decide_eq_false c4
        clear c4
        obtain rfl := Option.some.inj H
        go_wp2
        go_ret
        exact ⟨_, by first | rfl | (simp [errW_none, errW_some] <;> rfl) | (simp [*, errW_none, errW_some] <;> rfl), by (with_reducible repeat (first | apply Kd.R_alloc | apply Kd.R_drewN | apply Kd.R_drew)); exact HO_3.out, below_later HB.out⟩

/-! ### spec_Zig: function 76 -/
def spec_Zig.f (a0 : Int) : Option (Int) := if a0 < 0 then (some (Go.bits .xor .i64 (-1) (wrap64 (a0 * 2)))) else (some (wrap64 (a0 * 2)))
set_option maxHeartbeats 8000000 in
set_option maxRecDepth 100000 in
theorem spec_Zig.calls (a0 : Int) (r : Int) (w : World) (h : spec_Zig.f a0 = some r) :
    Calls Try.prog 76 #[.int .i64 a0] w fun e w' => e = .returned (.int .i64 r) ∧ Drawn0 w w' := by
  have H : (if a0 < 0 then (some (Go.bits .xor .i64 (-1) (wrap64 (a0 * 2)))) else (some (wrap64 (a0 * 2)))) = some r := h
  clear h
  by_cases c2 : a0 < 0
  · rw [if_pos c2] at H
    have c2b0 := decide_eq_true c2
    clear c2
    obtain rfl := Option.some.inj H
    go_enter Try.func76, Try.ntmps76
    go_wp2
    go_ret
    exact ⟨by first | rfl | (simp; done) | (simp [*]; done), by repeat (first | exact Drawn0.refl _ | apply Drawn0.step)⟩
  · rw [if_neg c2] at H
    have c2b0 := decide_eq_false c2
    clear c2
    obtain rfl := Option.some.inj H
    go_enter Try.func76, Try.ntmps76
    go_wp2
    go_ret
    exact ⟨by first | rfl | (simp; done) | (simp [*]; done), by repeat (first | exact Drawn0.refl _ | apply Drawn0.step)⟩

/-! ### spec_ZigPut: function 49 -/
def spec_ZigPut.f (k : Nat) (a0 : Int) : Option (List Int) := (spec_Zig.f a0).bind fun t251 => ((spec_UvarPut.f k t251).bind fun t252 => (some t252))
set_option maxHeartbeats 8000000 in
set_option maxRecDepth 100000 in
theorem spec_ZigPut.calls (k : Nat) (a0 : Int) (r : List Int) (w : World) (h : spec_ZigPut.f k a0 = some r) :
    Calls Try.prog 49 #[.int .i64 a0] w fun e w' => ∃ v0_ : Value, e = .returned (v0_) ∧ Kd.R (Kd.int .u8) 5 w' w.heap.size (fun _ => True) v0_ r ∧ Below w.heap.size w w' := by
  have HB := Aside0.mk (Below.refl w.heap.size w)
  have H : ((spec_Zig.f a0).bind fun t251 => ((spec_UvarPut.f k t251).bind fun t252 => (some t252))) = some r := h
  clear h
  replace H := bnd H
  obtain ⟨t251, A2, H⟩ := H
  replace H := bnd H
  obtain ⟨t252, A3, H⟩ := H
  obtain rfl := Option.some.inj H
  go_enter Try.func49, Try.ntmps49
  go_wp2_with (first | ((with_reducible refine gate_callee (f := 76) rfl ?_); refine gl_ (some 4) Try.func76 #[.int .i64 a0] rfl ?_; (with_reducible refine (spec_Zig.calls a0 t251 _ A2.out).mono ?_); rintro e w' ⟨rfl, ⟨nd, rfl⟩⟩; refine ⟨_, rfl, ?_⟩) | ((with_reducible refine gate_callee (f := 45) rfl ?_); refine gl_ (some 5) Try.func45 #[.int .i64 t251] rfl ?_; (with_reducible refine (spec_UvarPut.calls k t251 t252 _ A3.out).mono ?_); rintro e w4 ⟨v253, rfl, ho0, hb⟩; refine ⟨_, rfl, ?_⟩; have HO254 := Aside0.mk (Kd.R_lower ho0 (below_size (below_later HB.out))); replace HB := bst HB hb; (try clear hb); (try clear ho0)))
  go_ret
  exact ⟨_, by first | rfl | (simp [errW_none, errW_some] <;> rfl) | (simp [*, errW_none, errW_some] <;> rfl), by (with_reducible repeat (first | apply Kd.R_alloc | apply Kd.R_drewN | apply Kd.R_drew)); exact HO254.out, below_later HB.out⟩

end Go.Proofs.Ytkocikdceojnmaa.PFnExactEncPack
