/- The machine's side of FnExactPredMay, written by wip/tools/hyb.py of this repo: each Go function as a plain Lean function, and the proof that the call comes to just its answer. No condition. -/
import Derived.Test.YtlioghbcomdghaaPFnExactPredMayx0
import Derived.Test.YtlioghbcomdghaaPFnExactPredMayx2
import Derived.Test.YtlioghbcomdghaaPFnExactPredMayx3
import Derived.Test.YtlioghbcomdghaaPFnExactPredMayx4
namespace Go.Proofs.Ytlioghbcomdghaa.PFnExactPredMay
open Go.RowKit Go.Proofs.YtlioghbcomdghaaW.PrintWords Go.Proofs.YtlioghbcomdghaaW.PrintLast Go.Proofs.YtlioghbcomdghaaW.PrintMore Go.Proofs.YtlioghbcomdghaaW.PrintMore2
attribute [local go_sem] max2_int min2_int max_two min_two max_three min_three max_four min_four   -- for this text's walks alone
set_option linter.unusedVariables false
set_option linter.unusedSimpArgs false

attribute [local go_sem high] eqA61
/-! ### spec_l5Way: function 62 -/
def spec_l5Way.l0 : Nat → List (S57) → Int → List Int → Int → Option (List Int)
  | 0, _, _, _, _ => none
  | k + 1, x0, x1, x5, x6 => if x6 ≤ x1 then ((spec_l5After.f k x0 x6).bind fun t157 => (if t157 > x1 then (if x5.length < 17592186044416 then (spec_l5Way.l0 k x0 x1 (x5 ++ [x6]) (wrap64 (x6 + 1))) else (none)) else (spec_l5Way.l0 k x0 x1 x5 (wrap64 (x6 + 1))))) else (some x5)
def spec_l5Way.f (k : Nat) (l0 : List (S57)) (a1 : Int) : Option (List Int) := spec_l5Way.l0 k l0 a1 (([] : List Int)) 0
set_option maxHeartbeats 8000000 in
set_option maxRecDepth 100000 in
theorem spec_l5Way.calls (k : Nat) (A0 : Option Addr) (c0 : Nat) (l0 : List (S57)) (a1 : Int) (r : List Int) (w : World) (hr0 : Kd.C k57 w A0 l0.length l0) (hc0 : l0.length ≤ c0) (h : spec_l5Way.f k l0 a1 = some r) :
    Calls Try.prog 62 #[.slice A0 l0.length c0, .int .i64 a1] w fun e w' => ∃ v0_ : Value, e = .returned (v0_) ∧ Kd.R (Kd.int .i64) 3 w' w.heap.size (fun _ => True) v0_ r ∧ Below w.heap.size w w' := by
  have HR0 := Aside0.mk hr0
  have HC0 := Aside0.mk hc0
  clear hr0 hc0
  have HB := Aside0.mk (Below.refl w.heap.size w)
  have H : (spec_l5Way.l0 k l0 a1 (([] : List Int)) 0) = some r := h
  clear h
  obtain ⟨y154, hy154⟩ : ∃ y_ : List Int, y_ = (([] : List Int)) := ⟨_, rfl⟩
  replace H : (spec_l5Way.l0 k l0 a1 y154 0) = some r := by first | (rw [hy154]; with_reducible exact H) | (rw [hy154]; exact H) | exact H
  have Ny154 := Aside0.mk hy154
  clear hy154
  have H' := Aside0.mk H
  clear H
  go_enter Try.func62, Try.ntmps62
  go_wp2_with (first | ((with_reducible refine gate_dst (N := 7) rfl ?_); refine Kd.R_lit (Kd.int .i64) _ 3 ?hg (N := 7) ?hd (xs := ([] : List Int)) (inner := []) (ok := fun _ => True) (okp := fun _ => True) ?hr ?hp (fun _ hk => hk) trivial (Below.refl _ _) (Nat.le_refl _) (by simp) ?_; (case hd => rfl); (case hg => rfl); (case hr => first | (go_simp; done) | (go_simp; rfl)); (case hp => exact (Reps.none _ _)); intro v155 w3 ho4 hb hg_ hnew_; clear hg_ hnew_; (first | rw [← Ny154.out] at ho4 | (simp only [Int.reduceToNat] at ho4; rw [← Ny154.out] at ho4)); have HO156 := Aside0.mk (Kd.R_lower ho4 (below_size (below_later HB.out))); replace HB := bst HB hb; clear hb ho4))
  go_loopg [5, 6] k (fun kq v5 v6 w' => ∃ (x5_1 : List Int) (x6_1 : Int), v6 = .int .i64 x6_1 ∧ Aside0 (spec_l5Way.l0 kq l0 a1 x5_1 x6_1 = some r) ∧ Aside0 (kq ≤ k) ∧ Aside0 (Kd.R (Kd.int .i64) 3 w' w.heap.size (fun _ => True) v5 x5_1) ∧ Aside0 (Below w.heap.size w w'))
  case atStart => exact ⟨(y154), (0), sr, H', ⟨Nat.le_refl _⟩, ⟨R_later HO156.out⟩, ⟨below_later HB.out⟩⟩
  case round =>
    clear H'
    obtain ⟨x5_1, x6_1, rfl, HA, HK1, HO_5, HB⟩ := hrel
    cases gk with
    | zero => exact absurd HA.out (by simp [spec_l5Way.l0])
    | succ k1 =>
      have H := HA.out
      clear HA
      simp only [spec_l5Way.l0] at H
      by_cases c5 : x6_1 ≤ a1
      · rw [if_pos c5] at H
        have c5b0 := decide_eq_true c5
        clear c5
        replace H := bnd H
        obtain ⟨t157, A6, H⟩ := H
        by_cases c7 : t157 > a1
        · rw [if_pos c7] at H
          have c7b0 : decide (a1 < t157) = true := decide_eq_true c7
          clear c7
          replace H := ifs H
          obtain ⟨c8, H⟩ := H
          have LMc8 := Aside0.mk c8
          clear c8
          obtain ⟨y158, hy158⟩ : ∃ y_ : List Int, y_ = (x5_1 ++ [x6_1]) := ⟨_, rfl⟩
          replace H : (spec_l5Way.l0 k1 l0 a1 y158 (wrap64 (x6_1 + 1))) = some r := by first | (rw [hy158]; with_reducible exact H) | (rw [hy158]; exact H) | exact H
          have Ny158 := Aside0.mk hy158
          clear hy158
          have H' := Aside0.mk H
          clear H
          go_wp2_with (first | ((with_reducible refine gate_callee (f := 66) rfl ?_); refine gl_ (some 15) Try.func66 #[.slice A0 l0.length c0, .int .i64 x6_1] rfl ?_; (with_reducible refine (spec_l5After.calls k1 _ _ l0 x6_1 t157 _ ?side1 ?side2 A6.out).mono ?_); (case side1 => repeat (first | exact (Kd.C_below HR0.out HB.out) | (with_reducible refine Kd.C_alloc ?_ _) | (with_reducible refine Kd.C_drewN ?_ _) | (with_reducible refine Kd.C_drew ?_))); (case side2 => exact HC0.out); rintro e w' ⟨rfl, ⟨nd, rfl⟩⟩; refine ⟨_, rfl, ?_⟩) | ((with_reducible refine gate_builtin (b := .append) (xs := #[.tmp 18, .tmp 20]) rfl ?_); at_builtin; refine Kd.R_append (Kd.int .i64) (w0 := w) w.heap.size rfl (.tmp 18) (.tmp 20) 54 3 (.int .i64 0) 8 rfl Try.underlying54 info3 rfl (by decide) (by omega) u5 x5_1 x6_1 [.int .i64 x6_1] (fun _ => True) (fun _ => False) rfl rfl ?aP (fun _ hk => hk.elim) ?aF ?aO ?aB ?aS ?aL ?_; (case aP => exact rfl); (case aB => exact (below_later HB.out)); (case aF => exact (fun _ _ => trivial)); (case aO => exact (R_later HO_5.out)); (case aS => exact (below_size (below_later HB.out))); (case aL => have := LMc8.out; omega); intro v159 w9 ho hb hg hat; rw [← Ny158.out] at ho; have n0_ := Aside0.mk (hb); have n1_ := Aside0.mk (ho); clear HB; clear HO_5; have HB := n0_; have HO160 := n1_; clear n0_ n1_; clear ho hb hg hat))
          go_roundg k1
          case measure => have := HK1.out; omega
          case rel => exact ⟨(y158), (wrap64 (x6_1 + 1)), sr, H', ⟨by have := HK1.out; omega⟩, ⟨R_later HO160.out⟩, ⟨below_later HB.out⟩⟩
        · rw [if_neg c7] at H
          have c7b0 : decide (a1 < t157) = false := decide_eq_false c7
          clear c7
          have H' := Aside0.mk H
          clear H
          go_wp2_with (first | ((with_reducible refine gate_callee (f := 66) rfl ?_); refine gl_ (some 15) Try.func66 #[.slice A0 l0.length c0, .int .i64 x6_1] rfl ?_; (with_reducible refine (spec_l5After.calls k1 _ _ l0 x6_1 t157 _ ?side1 ?side2 A6.out).mono ?_); (case side1 => repeat (first | exact (Kd.C_below HR0.out HB.out) | (with_reducible refine Kd.C_alloc ?_ _) | (with_reducible refine Kd.C_drewN ?_ _) | (with_reducible refine Kd.C_drew ?_))); (case side2 => exact HC0.out); rintro e w' ⟨rfl, ⟨nd, rfl⟩⟩; refine ⟨_, rfl, ?_⟩))
          go_roundg k1
          case measure => have := HK1.out; omega
          case rel => exact ⟨(x5_1), (wrap64 (x6_1 + 1)), sr, H', ⟨by have := HK1.out; omega⟩, ⟨R_later HO_5.out⟩, ⟨below_later HB.out⟩⟩
      · rw [if_neg c5] at H
        have c5b0 := decide_eq_false c5
        clear c5
        obtain rfl := Option.some.inj H
        go_wp2
        go_ret
        exact ⟨_, by first | rfl | (simp [errW_none, errW_some] <;> rfl) | (simp [*, errW_none, errW_some] <;> rfl), by (with_reducible repeat (first | apply Kd.R_alloc | apply Kd.R_drewN | apply Kd.R_drew)); exact HO_5.out, below_later HB.out⟩

/-! ### spec_l5Max: function 53 -/
def spec_l5Max.l0 : Nat → List (S57) → Int → Int → List Int → Int → Option (Int × Int)
  | 0, _, _, _, _, _ => none
  | k + 1, x0, x6, x7, x8, x9 => if x9 < (x8.length : Int) then (if 0 ≤ x9 then (if 0 ≤ (rd x8 x9) then (if (rd x8 x9) < (x0.length : Int) then (if ((rd_T57 x0 (rd x8 x9)).f2) = 0 then (if ((rd_T57 x0 (rd x8 x9)).f2) = 2 then (spec_l5Max.l0 k x0 x6 (wrap64 (x7 + 1)) x8 (wrap64 (x9 + 1))) else (spec_l5Max.l0 k x0 x6 x7 x8 (wrap64 (x9 + 1)))) else (if ((rd_T57 x0 (rd x8 x9)).f2) = 2 then (spec_l5Max.l0 k x0 (wrap64 (x6 + 1)) (wrap64 (x7 + 1)) x8 (wrap64 (x9 + 1))) else (spec_l5Max.l0 k x0 (wrap64 (x6 + 1)) x7 x8 (wrap64 (x9 + 1))))) else (none)) else (none)) else (none)) else (some (x6, x7))
def spec_l5Max.f (k : Nat) (l0 : List (S57)) (a1 : Int) : Option (Int × Int) := (spec_l5Way.f k l0 a1).bind fun t161 => (spec_l5Max.l0 k l0 0 0 t161 0)
set_option maxHeartbeats 8000000 in
set_option maxRecDepth 100000 in
theorem spec_l5Max.calls (k : Nat) (A0 : Option Addr) (c0 : Nat) (l0 : List (S57)) (a1 : Int) (r1 : Int) (r2 : Int) (w : World) (hr0 : Kd.C k57 w A0 l0.length l0) (hc0 : l0.length ≤ c0) (h : spec_l5Max.f k l0 a1 = some (r1, r2)) :
    Calls Try.prog 53 #[.slice A0 l0.length c0, .int .i64 a1] w fun e w' => e = .returned (.tuple #[.int .i64 r1, .int .i64 r2]) ∧ Below w.heap.size w w' := by
  have HR0 := Aside0.mk hr0
  have HC0 := Aside0.mk hc0
  clear hr0 hc0
  have HB := Aside0.mk (Below.refl w.heap.size w)
  have H : ((spec_l5Way.f k l0 a1).bind fun t161 => (spec_l5Max.l0 k l0 0 0 t161 0)) = some (r1, r2) := h
  clear h
  replace H := bnd H
  obtain ⟨t161, A3, H⟩ := H
  have H' := Aside0.mk H
  clear H
  go_enter Try.func53, Try.ntmps53
  go_wp2_with (first | ((with_reducible refine gate_callee (f := 62) rfl ?_); refine gl_ (some 12) Try.func62 #[.slice A0 l0.length c0, .int .i64 a1] rfl ?_; (with_reducible refine (spec_l5Way.calls k _ _ l0 a1 t161 _ ?side1 ?side2 A3.out).mono ?_); (case side1 => exact C_later HR0.out); (case side2 => exact HC0.out); rintro e w4 ⟨v162, rfl, ho0, hb⟩; refine ⟨_, rfl, ?_⟩; have HO163 := Aside0.mk (Kd.R_lower ho0 (below_size (below_later HB.out))); replace HB := bst HB hb; (try clear hb); (try clear ho0)))
  go_loopg [6, 7, 9] k (fun kq v6 v7 v9 w' => ∃ (x6_1 : Int) (x7_1 : Int) (x9_1 : Int), v6 = .int .i64 x6_1 ∧ v7 = .int .i64 x7_1 ∧ v9 = .int .i64 x9_1 ∧ Aside0 (spec_l5Max.l0 kq l0 x6_1 x7_1 t161 x9_1 = some (r1, r2)) ∧ Aside0 (kq ≤ k) ∧ Aside0 (Kd.R (Kd.int .i64) 3 w' w.heap.size (fun _ => True) v162 t161) ∧ Aside0 (Below w.heap.size w w'))
  case atStart => exact ⟨(0), (0), (0), sr, sr, sr, H', ⟨Nat.le_refl _⟩, ⟨R_later HO163.out⟩, ⟨below_later HB.out⟩⟩
  case round =>
    clear H'
    obtain ⟨x6_1, x7_1, x9_1, rfl, rfl, rfl, HA, HK1, HO_8, HB⟩ := hrel
    cases gk with
    | zero => exact absurd HA.out (by simp [spec_l5Max.l0])
    | succ k1 =>
      have H := HA.out
      clear HA
      simp only [spec_l5Max.l0] at H
      by_cases c5 : x9_1 < (t161.length : Int)
      · rw [if_pos c5] at H
        have c5b0 := decide_eq_true c5
        clear c5
        replace H := ifd H
        obtain ⟨c6b0, H⟩ := H
        replace H := ifd H
        obtain ⟨c7b0, H⟩ := H
        replace H := ifd H
        obtain ⟨c8b0, H⟩ := H
        by_cases c9 : ((rd_T57 l0 (rd t161 x9_1)).f2) = 0
        · rw [if_pos c9] at H
          have c9b0 : (((rd_T57 l0 (rd t161 x9_1)).f2) == 0) = true := beq_iff_eq.mpr c9
          have c9b1 : (((rd_T57 l0 (rd t161 x9_1)).f2) != 0) = false := bne_eq_false_iff_eq.mpr c9
          clear c9
          by_cases c10 : ((rd_T57 l0 (rd t161 x9_1)).f2) = 2
          · rw [if_pos c10] at H
            have c10b0 : (((rd_T57 l0 (rd t161 x9_1)).f2) == 2) = true := beq_iff_eq.mpr c10
            have c10b1 : (((rd_T57 l0 (rd t161 x9_1)).f2) != 2) = false := bne_eq_false_iff_eq.mpr c10
            clear c10
            have H' := Aside0.mk H
            clear H
            obtain ⟨Ao11, co11, eo11⟩ := Kd.R_slice HO_8.out
            subst eo11
            have p164 : 0 ≤ (x9_1 : Int) := dcd
            have q164 : x9_1 < (t161.length : Int) := dcd
            obtain ⟨ad164, e164, hx164_0⟩ := Kd.at_int (Kd.R_reads' HO_8.out).2.2 x9_1 p164 q164
            cases e164
            replace p164 := eq_true p164
            replace q164 := eq_true q164
            have p165 : 0 ≤ ((rd t161 x9_1) : Int) := dcd
            have q165 : (rd t161 x9_1) < (l0.length : Int) := dcd
            obtain ⟨ad165, e165, hx165_0, hx165_1, hx165_2, hx165_3⟩ := at_T57 HR0.out (rd t161 x9_1) p165 q165
            cases e165
            replace hx165_0 := crd HB hx165_0
            replace hx165_1 := crd HB hx165_1
            replace hx165_2 := crd HB hx165_2
            replace hx165_3 := crd HB hx165_3
            replace p165 := eq_true p165
            replace q165 := eq_true q165
            have p166 : 0 ≤ (x9_1 : Int) := dcd
            have q166 : x9_1 < (t161.length : Int) := dcd
            obtain ⟨ad166, e166, hx166_0⟩ := Kd.at_int (Kd.R_reads' HO_8.out).2.2 x9_1 p166 q166
            obtain rfl : ad164 = ad166 := (by injection e166)
            replace p166 := eq_true p166
            replace q166 := eq_true q166
            have p167 : 0 ≤ ((rd t161 x9_1) : Int) := dcd
            have q167 : (rd t161 x9_1) < (l0.length : Int) := dcd
            obtain ⟨ad167, e167, hx167_0, hx167_1, hx167_2, hx167_3⟩ := at_T57 HR0.out (rd t161 x9_1) p167 q167
            obtain rfl : ad165 = ad167 := (by injection e167)
            replace hx167_0 := crd HB hx167_0
            replace hx167_1 := crd HB hx167_1
            replace hx167_2 := crd HB hx167_2
            replace hx167_3 := crd HB hx167_3
            replace p167 := eq_true p167
            replace q167 := eq_true q167
            go_wp2
            go_roundg k1
            case measure => have := HK1.out; omega
            case rel => exact ⟨(x6_1), (wrap64 (x7_1 + 1)), (wrap64 (x9_1 + 1)), sr, sr, sr, H', ⟨by have := HK1.out; omega⟩, ⟨R_later HO_8.out⟩, ⟨below_later HB.out⟩⟩
          · rw [if_neg c10] at H
            have c10b0 : (((rd_T57 l0 (rd t161 x9_1)).f2) == 2) = false := beq_eq_false_iff_ne.mpr c10
            have c10b1 : (((rd_T57 l0 (rd t161 x9_1)).f2) != 2) = true := bne_iff_ne.mpr c10
            have H' := Aside0.mk H
            clear H
            obtain ⟨Ao12, co12, eo12⟩ := Kd.R_slice HO_8.out
            subst eo12
            have p164 : 0 ≤ (x9_1 : Int) := dcd
            have q164 : x9_1 < (t161.length : Int) := dcd
            obtain ⟨ad164, e164, hx164_0⟩ := Kd.at_int (Kd.R_reads' HO_8.out).2.2 x9_1 p164 q164
            cases e164
            replace p164 := eq_true p164
            replace q164 := eq_true q164
            have p165 : 0 ≤ ((rd t161 x9_1) : Int) := dcd
            have q165 : (rd t161 x9_1) < (l0.length : Int) := dcd
            obtain ⟨ad165, e165, hx165_0, hx165_1, hx165_2, hx165_3⟩ := at_T57 HR0.out (rd t161 x9_1) p165 q165
            cases e165
            replace hx165_0 := crd HB hx165_0
            replace hx165_1 := crd HB hx165_1
            replace hx165_2 := crd HB hx165_2
            replace hx165_3 := crd HB hx165_3
            replace p165 := eq_true p165
            replace q165 := eq_true q165
            have p166 : 0 ≤ (x9_1 : Int) := dcd
            have q166 : x9_1 < (t161.length : Int) := dcd
            obtain ⟨ad166, e166, hx166_0⟩ := Kd.at_int (Kd.R_reads' HO_8.out).2.2 x9_1 p166 q166
            obtain rfl : ad164 = ad166 := (by injection e166)
            replace p166 := eq_true p166
            replace q166 := eq_true q166
            have p167 : 0 ≤ ((rd t161 x9_1) : Int) := dcd
            have q167 : (rd t161 x9_1) < (l0.length : Int) := dcd
            obtain ⟨ad167, e167, hx167_0, hx167_1, hx167_2, hx167_3⟩ := at_T57 HR0.out (rd t161 x9_1) p167 q167
            obtain rfl : ad165 = ad167 := (by injection e167)
            replace hx167_0 := crd HB hx167_0
            replace hx167_1 := crd HB hx167_1
            replace hx167_2 := crd HB hx167_2
            replace hx167_3 := crd HB hx167_3
            replace p167 := eq_true p167
            replace q167 := eq_true q167
            go_wp2
            go_roundg k1
            case measure => have := HK1.out; omega
            case rel => exact ⟨(x6_1), (x7_1), (wrap64 (x9_1 + 1)), sr, sr, sr, H', ⟨by have := HK1.out; omega⟩, ⟨R_later HO_8.out⟩, ⟨below_later HB.out⟩⟩
        · rw [if_neg c9] at H
          have c9b0 : (((rd_T57 l0 (rd t161 x9_1)).f2) == 0) = false := beq_eq_false_iff_ne.mpr c9
          have c9b1 : (((rd_T57 l0 (rd t161 x9_1)).f2) != 0) = true := bne_iff_ne.mpr c9
          by_cases c13 : ((rd_T57 l0 (rd t161 x9_1)).f2) = 2
          · rw [if_pos c13] at H
            have c13b0 : (((rd_T57 l0 (rd t161 x9_1)).f2) == 2) = true := beq_iff_eq.mpr c13
            have c13b1 : (((rd_T57 l0 (rd t161 x9_1)).f2) != 2) = false := bne_eq_false_iff_eq.mpr c13
            clear c13
            have H' := Aside0.mk H
            clear H
            obtain ⟨Ao14, co14, eo14⟩ := Kd.R_slice HO_8.out
            subst eo14
            have p164 : 0 ≤ (x9_1 : Int) := dcd
            have q164 : x9_1 < (t161.length : Int) := dcd
            obtain ⟨ad164, e164, hx164_0⟩ := Kd.at_int (Kd.R_reads' HO_8.out).2.2 x9_1 p164 q164
            cases e164
            replace p164 := eq_true p164
            replace q164 := eq_true q164
            have p165 : 0 ≤ ((rd t161 x9_1) : Int) := dcd
            have q165 : (rd t161 x9_1) < (l0.length : Int) := dcd
            obtain ⟨ad165, e165, hx165_0, hx165_1, hx165_2, hx165_3⟩ := at_T57 HR0.out (rd t161 x9_1) p165 q165
            cases e165
            replace hx165_0 := crd HB hx165_0
            replace hx165_1 := crd HB hx165_1
            replace hx165_2 := crd HB hx165_2
            replace hx165_3 := crd HB hx165_3
            replace p165 := eq_true p165
            replace q165 := eq_true q165
            have p168 : 0 ≤ (x9_1 : Int) := dcd
            have q168 : x9_1 < (t161.length : Int) := dcd
            obtain ⟨ad168, e168, hx168_0⟩ := Kd.at_int (Kd.R_reads' HO_8.out).2.2 x9_1 p168 q168
            obtain rfl : ad164 = ad168 := (by injection e168)
            replace p168 := eq_true p168
            replace q168 := eq_true q168
            have p169 : 0 ≤ ((rd t161 x9_1) : Int) := dcd
            have q169 : (rd t161 x9_1) < (l0.length : Int) := dcd
            obtain ⟨ad169, e169, hx169_0, hx169_1, hx169_2, hx169_3⟩ := at_T57 HR0.out (rd t161 x9_1) p169 q169
            obtain rfl : ad165 = ad169 := (by injection e169)
            replace hx169_0 := crd HB hx169_0
            replace hx169_1 := crd HB hx169_1
            replace hx169_2 := crd HB hx169_2
            replace hx169_3 := crd HB hx169_3
            replace p169 := eq_true p169
            replace q169 := eq_true q169
            go_wp2
            go_roundg k1
            case measure => have := HK1.out; omega
            case rel => exact ⟨(wrap64 (x6_1 + 1)), (wrap64 (x7_1 + 1)), (wrap64 (x9_1 + 1)), sr, sr, sr, H', ⟨by have := HK1.out; omega⟩, ⟨R_later HO_8.out⟩, ⟨below_later HB.out⟩⟩
          · rw [if_neg c13] at H
            have c13b0 : (((rd_T57 l0 (rd t161 x9_1)).f2) == 2) = false := beq_eq_false_iff_ne.mpr c13
            have c13b1 : (((rd_T57 l0 (rd t161 x9_1)).f2) != 2) = true := bne_iff_ne.mpr c13
            have H' := Aside0.mk H
            clear H
            obtain ⟨Ao15, co15, eo15⟩ := Kd.R_slice HO_8.out
            subst eo15
            have p164 : 0 ≤ (x9_1 : Int) := dcd
            have q164 : x9_1 < (t161.length : Int) := dcd
            obtain ⟨ad164, e164, hx164_0⟩ := Kd.at_int (Kd.R_reads' HO_8.out).2.2 x9_1 p164 q164
            cases e164
            replace p164 := eq_true p164
            replace q164 := eq_true q164
            have p165 : 0 ≤ ((rd t161 x9_1) : Int) := dcd
            have q165 : (rd t161 x9_1) < (l0.length : Int) := dcd
            obtain ⟨ad165, e165, hx165_0, hx165_1, hx165_2, hx165_3⟩ := at_T57 HR0.out (rd t161 x9_1) p165 q165
            cases e165
            replace hx165_0 := crd HB hx165_0
            replace hx165_1 := crd HB hx165_1
            replace hx165_2 := crd HB hx165_2
            replace hx165_3 := crd HB hx165_3
            replace p165 := eq_true p165
            replace q165 := eq_true q165
            have p168 : 0 ≤ (x9_1 : Int) := dcd
            have q168 : x9_1 < (t161.length : Int) := dcd
            obtain ⟨ad168, e168, hx168_0⟩ := Kd.at_int (Kd.R_reads' HO_8.out).2.2 x9_1 p168 q168
            obtain rfl : ad164 = ad168 := (by injection e168)
            replace p168 := eq_true p168
            replace q168 := eq_true q168
            have p169 : 0 ≤ ((rd t161 x9_1) : Int) := dcd
            have q169 : (rd t161 x9_1) < (l0.length : Int) := dcd
            obtain ⟨ad169, e169, hx169_0, hx169_1, hx169_2, hx169_3⟩ := at_T57 HR0.out (rd t161 x9_1) p169 q169
            obtain rfl : ad165 = ad169 := (by injection e169)
            replace hx169_0 := crd HB hx169_0
            replace hx169_1 := crd HB hx169_1
            replace hx169_2 := crd HB hx169_2
            replace hx169_3 := crd HB hx169_3
            replace p169 := eq_true p169
            replace q169 := eq_true q169
            go_wp2
            go_roundg k1
            case measure => have := HK1.out; omega
            case rel => exact ⟨(wrap64 (x6_1 + 1)), (x7_1), (wrap64 (x9_1 + 1)), sr, sr, sr, H', ⟨by have := HK1.out; omega⟩, ⟨R_later HO_8.out⟩, ⟨below_later HB.out⟩⟩
      · rw [if_neg c5] at H
        have c5b0 := decide_eq_false c5
        clear c5
        simp only [Option.some.injEq, Prod.mk.injEq] at H
        obtain ⟨rfl, rfl⟩ := H
        obtain ⟨Ao16, co16, eo16⟩ := Kd.R_slice HO_8.out
        subst eo16
        go_wp2
        go_ret2
        exact fin_ (below_later HB.out)

/-! ### spec_LeafOf: function 37 -/
def spec_LeafOf.f (k : Nat) (l0 : List (S57)) (a1 : Int) : Option (Int × Int × Int × Bool) := (spec_SchemaLeaves.f k l0).bind fun t171 => ((spec_l1In.f a1 0 (wrap64 ((t171.length : Int) - 1))).bind fun t174 => (if t174 = true then (if 0 ≤ a1 then (if a1 < (t171.length : Int) then ((spec_l5Max.f k l0 (rd t171 a1)).bind fun bt176 => (if 0 ≤ (rd t171 a1) then (if (rd t171 a1) < (l0.length : Int) then (some ((rd_T57 l0 (rd t171 a1)).f1, bt176.2, bt176.1, true)) else (none)) else (none))) else (none)) else (none)) else (some (0, 0, 0, false))))
set_option maxHeartbeats 8000000 in
set_option maxRecDepth 100000 in
theorem spec_LeafOf.calls (k : Nat) (A0 : Option Addr) (c0 : Nat) (l0 : List (S57)) (a1 : Int) (r1 : Int) (r2 : Int) (r3 : Int) (r4 : Bool) (w : World) (hr0 : Kd.C k57 w A0 l0.length l0) (hc0 : l0.length ≤ c0) (h : spec_LeafOf.f k l0 a1 = some (r1, r2, r3, r4)) :
    Calls Try.prog 37 #[.slice A0 l0.length c0, .int .i64 a1] w fun e w' => e = .returned (.tuple #[.agg #[.int .i64 r1, .int .i64 r2, .int .i64 r3], .bool r4]) ∧ Below w.heap.size w w' := by
  have hu70 := Try.underlying70
  have HR0 := Aside0.mk hr0
  have HC0 := Aside0.mk hc0
  clear hr0 hc0
  have HB := Aside0.mk (Below.refl w.heap.size w)
  have H : ((spec_SchemaLeaves.f k l0).bind fun t171 => ((spec_l1In.f a1 0 (wrap64 ((t171.length : Int) - 1))).bind fun t174 => (if t174 = true then (if 0 ≤ a1 then (if a1 < (t171.length : Int) then ((spec_l5Max.f k l0 (rd t171 a1)).bind fun bt176 => (if 0 ≤ (rd t171 a1) then (if (rd t171 a1) < (l0.length : Int) then (some ((rd_T57 l0 (rd t171 a1)).f1, bt176.2, bt176.1, true)) else (none)) else (none))) else (none)) else (none)) else (some (0, 0, 0, false))))) = some (r1, r2, r3, r4) := h
  clear h
  replace H := bnd H
  obtain ⟨t171, A3, H⟩ := H
  replace H := bnd H
  obtain ⟨t174, A4, H⟩ := H
  by_cases c5 : t174 = true
  · subst c5
    replace H := ifp rfl H
    replace H := ifd H
    obtain ⟨c6b0, H⟩ := H
    replace H := ifd H
    obtain ⟨c7b0, H⟩ := H
    replace H := Option.bind_eq_some_iff.mp H
    obtain ⟨⟨t176, t177⟩, A80, H⟩ := H
    replace H : (if 0 ≤ (rd t171 a1) then (if (rd t171 a1) < (l0.length : Int) then (some ((rd_T57 l0 (rd t171 a1)).f1, t177, t176, true)) else (none)) else (none)) = some (r1, r2, r3, r4) := H
    have A8 := Aside0.mk A80
    clear A80
    replace H := ifd H
    obtain ⟨c9b0, H⟩ := H
    replace H := ifd H
    obtain ⟨c10b0, H⟩ := H
    simp only [Option.some.injEq, Prod.mk.injEq] at H
    obtain ⟨rfl, rfl, rfl, rfl⟩ := H
    go_enter Try.func37, Try.ntmps37
    go_wp2_with (first | ((with_reducible refine gate_dst (N := 4) rfl ?_); refine bx_ 4 #[.int .i64 0, .int .i64 0, .int .i64 0] 70 ?_; intro gb170 hg w11 hbox hb; have BK170 := Aside0.mk (hbox); have GW170 := gwe HB hg; have GE170 := GW170; replace HB := bst HB hb; clear hb hbox hg) | ((with_reducible refine gate_callee (f := 52) rfl ?_); refine gl_ (some 10) Try.func52 #[.slice A0 l0.length c0] rfl ?_; (with_reducible refine (spec_SchemaLeaves.calls k _ _ l0 t171 _ ?side1 ?side2 A3.out).mono ?_); (case side1 => repeat (first | exact (Kd.C_below HR0.out HB.out) | (with_reducible refine Kd.C_alloc ?_ _) | (with_reducible refine Kd.C_drewN ?_ _) | (with_reducible refine Kd.C_drew ?_))); (case side2 => exact HC0.out); rintro e w12 ⟨v172, rfl, ho0, hb⟩; refine ⟨_, rfl, ?_⟩; have HO173 := Aside0.mk (Kd.R_lower ho0 (below_size (below_later HB.out))); replace BK170 := bkb BK170 hb; replace HB := bst HB hb; (try clear hb); (try clear ho0); obtain ⟨Ao13, co13, eo13⟩ := Kd.R_slice HO173.out; subst eo13) | ((with_reducible refine gate_callee (f := 34) rfl ?_); refine gl_ (some 15) Try.func34 #[.int .i64 a1, .int .i64 0, .int .i64 (wrap64 ((t171.length : Int) - 1))] rfl ?_; (with_reducible refine (spec_l1In.calls a1 0 (wrap64 ((t171.length : Int) - 1)) true _ A4.out).mono ?_); rintro e w' ⟨rfl, ⟨nd, rfl⟩⟩; refine ⟨_, rfl, ?_⟩; (try (rw [drewN_self w12]; generalize hq_ : World.drewN w12 _ = w12; have n0_ : Aside0 (Kd.R (Kd.int .i64) 3 w12 w.heap.size (fun _ => True) (.slice Ao13 t171.length co13) t171) := ⟨by rw [← hq_]; exact (R_later HO173.out)⟩; have n1_ : Aside0 (w12.heap[gb170]? = some (.cells #[.int .i64 0, .int .i64 0, .int .i64 0] 70 (0, 0))) := ⟨by rw [← hq_]; exact (blk_later BK170.out)⟩; have n2_ : Aside0 (Below w.heap.size w w12) := ⟨by rw [← hq_]; exact (below_later HB.out)⟩; clear HO173 BK170 HB hq_; have HO173 := n0_; have BK170 := n1_; have HB := n2_; clear n0_ n1_ n2_)); have p175 : 0 ≤ (a1 : Int) := dcd; have q175 : a1 < (t171.length : Int) := dcd; obtain ⟨ad175, e175, hx175_0⟩ := Kd.at_int (Kd.R_reads' HO173.out).2.2 a1 p175 q175; cases e175; replace p175 := eq_true p175; replace q175 := eq_true q175) | ((with_reducible refine gate_callee (f := 53) rfl ?_); refine gl_ (some 24) Try.func53 #[.slice A0 l0.length c0, .int .i64 (rd t171 a1)] rfl ?_; (with_reducible refine (spec_l5Max.calls k _ _ l0 (rd t171 a1) t176 t177 _ ?side1 ?side2 A8.out).mono ?_); (case side1 => repeat (first | exact (Kd.C_below HR0.out HB.out) | (with_reducible refine Kd.C_alloc ?_ _) | (with_reducible refine Kd.C_drewN ?_ _) | (with_reducible refine Kd.C_drew ?_))); (case side2 => exact HC0.out); rintro e w14 ⟨rfl, hb⟩; refine ⟨_, rfl, ?_⟩; replace HO173 := Aside0.mk (Kd.R_below (R_later HO173.out) hb); replace BK170 := bkb BK170 hb; replace HB := bst HB hb; (try clear hb); have p178 : 0 ≤ (a1 : Int) := dcd; have q178 : a1 < (t171.length : Int) := dcd; obtain ⟨ad178, e178, hx178_0⟩ := Kd.at_int (Kd.R_reads' HO173.out).2.2 a1 p178 q178; obtain rfl : ad175 = ad178 := (by injection e178); replace p178 := eq_true p178; replace q178 := eq_true q178; have p179 : 0 ≤ ((rd t171 a1) : Int) := dcd; have q179 : (rd t171 a1) < (l0.length : Int) := dcd; obtain ⟨ad179, e179, hx179_0, hx179_1, hx179_2, hx179_3⟩ := at_T57 HR0.out (rd t171 a1) p179 q179; cases e179; replace hx179_0 := crd HB hx179_0; replace hx179_1 := crd HB hx179_1; replace hx179_2 := crd HB hx179_2; replace hx179_3 := crd HB hx179_3; replace p179 := eq_true p179; replace q179 := eq_true q179; obtain ⟨hcz15_0, hcz15_1, hcz15_2, hfz15_0, hfz15_1, hfz15_2⟩ := cl3 BK170))
    refine bodyPost_ret (results_ct rfl _ _ gb170 70 #[.int .i64 ((rd_T57 l0 (rd t171 a1)).f1), .int .i64 t177, .int .i64 t176] (0, 0) _ rfl (by (with_reducible repeat (first | refine blk_drewN ?_ _ | refine blk_drew ?_ | refine blk_alloc ?_ _)); refine blk_put (cs := #[.int .i64 ((rd_T57 l0 (rd t171 a1)).f1), .int .i64 t177, .int .i64 0]) ?_ 2 _ rfl; (with_reducible repeat (first | refine blk_drewN ?_ _ | refine blk_drew ?_ | refine blk_alloc ?_ _)); refine blk_put (cs := #[.int .i64 ((rd_T57 l0 (rd t171 a1)).f1), .int .i64 0, .int .i64 0]) ?_ 1 _ rfl; (with_reducible repeat (first | refine blk_drewN ?_ _ | refine blk_drew ?_ | refine blk_alloc ?_ _)); refine blk_put (cs := #[.int .i64 0, .int .i64 0, .int .i64 0]) ?_ 0 _ rfl; (with_reducible repeat (first | refine blk_drewN ?_ _ | refine blk_drew ?_ | refine blk_alloc ?_ _)); exact BK170.out) Try.underlying70 rfl (by kernel_rfl)) rfl ?_
    exact fin_ (below_later HB.out)
  · replace c5 := Bool.eq_false_iff.mpr c5
    subst c5
    replace H := ifn Bool.false_ne_true H
    simp only [Option.some.injEq, Prod.mk.injEq] at H
    obtain ⟨rfl, rfl, rfl, rfl⟩ := H
    go_enter Try.func37, Try.ntmps37
    go_wp2_with (first | ((with_reducible refine gate_dst (N := 4) rfl ?_); refine bx_ 4 #[.int .i64 0, .int .i64 0, .int .i64 0] 70 ?_; intro gb170 hg w16 hbox hb; have BK170 := Aside0.mk (hbox); have GW170 := gwe HB hg; have GE170 := GW170; replace HB := bst HB hb; clear hb hbox hg) | ((with_reducible refine gate_callee (f := 52) rfl ?_); refine gl_ (some 10) Try.func52 #[.slice A0 l0.length c0] rfl ?_; (with_reducible refine (spec_SchemaLeaves.calls k _ _ l0 t171 _ ?side1 ?side2 A3.out).mono ?_); (case side1 => repeat (first | exact (Kd.C_below HR0.out HB.out) | (with_reducible refine Kd.C_alloc ?_ _) | (with_reducible refine Kd.C_drewN ?_ _) | (with_reducible refine Kd.C_drew ?_))); (case side2 => exact HC0.out); rintro e w17 ⟨v172, rfl, ho0, hb⟩; refine ⟨_, rfl, ?_⟩; have HO173 := Aside0.mk (Kd.R_lower ho0 (below_size (below_later HB.out))); replace BK170 := bkb BK170 hb; replace HB := bst HB hb; (try clear hb); (try clear ho0); obtain ⟨Ao18, co18, eo18⟩ := Kd.R_slice HO173.out; subst eo18) | ((with_reducible refine gate_callee (f := 34) rfl ?_); refine gl_ (some 15) Try.func34 #[.int .i64 a1, .int .i64 0, .int .i64 (wrap64 ((t171.length : Int) - 1))] rfl ?_; (with_reducible refine (spec_l1In.calls a1 0 (wrap64 ((t171.length : Int) - 1)) false _ A4.out).mono ?_); rintro e w' ⟨rfl, ⟨nd, rfl⟩⟩; refine ⟨_, rfl, ?_⟩; (try (rw [drewN_self w17]; generalize hq_ : World.drewN w17 _ = w17; have n0_ : Aside0 (Kd.R (Kd.int .i64) 3 w17 w.heap.size (fun _ => True) (.slice Ao18 t171.length co18) t171) := ⟨by rw [← hq_]; exact (R_later HO173.out)⟩; have n1_ : Aside0 (w17.heap[gb170]? = some (.cells #[.int .i64 0, .int .i64 0, .int .i64 0] 70 (0, 0))) := ⟨by rw [← hq_]; exact (blk_later BK170.out)⟩; have n2_ : Aside0 (Below w.heap.size w w17) := ⟨by rw [← hq_]; exact (below_later HB.out)⟩; clear HO173 BK170 HB hq_; have HO173 := n0_; have BK170 := n1_; have HB := n2_; clear n0_ n1_ n2_)); obtain ⟨hcz19_0, hcz19_1, hcz19_2, hfz19_0, hfz19_1, hfz19_2⟩ := cl3 BK170))
    refine bodyPost_ret (results_ct rfl _ _ gb170 70 #[.int .i64 0, .int .i64 0, .int .i64 0] (0, 0) _ rfl (by (with_reducible repeat (first | refine blk_drewN ?_ _ | refine blk_drew ?_ | refine blk_alloc ?_ _)); refine blk_put (cs := #[.int .i64 0, .int .i64 0, .int .i64 0]) ?_ 2 _ rfl; (with_reducible repeat (first | refine blk_drewN ?_ _ | refine blk_drew ?_ | refine blk_alloc ?_ _)); refine blk_put (cs := #[.int .i64 0, .int .i64 0, .int .i64 0]) ?_ 1 _ rfl; (with_reducible repeat (first | refine blk_drewN ?_ _ | refine blk_drew ?_ | refine blk_alloc ?_ _)); refine blk_put (cs := #[.int .i64 0, .int .i64 0, .int .i64 0]) ?_ 0 _ rfl; (with_reducible repeat (first | refine blk_drewN ?_ _ | refine blk_drew ?_ | refine blk_alloc ?_ _)); exact BK170.out) Try.underlying70 rfl (by kernel_rfl)) rfl ?_
    exact fin_ (below_later HB.out)

/-! ### spec_l4Int: function 61 -/
def spec_l4Int.f (a0 : Int) : Option (Bool) := (spec_l1In.f a0 (-2147483648) 2147483647).bind fun t180 => (some t180)
set_option maxHeartbeats 8000000 in
set_option maxRecDepth 100000 in
theorem spec_l4Int.calls (a0 : Int) (r : Bool) (w : World) (h : spec_l4Int.f a0 = some r) :
    Calls Try.prog 61 #[.int .i64 a0] w fun e w' => e = .returned (.bool r) ∧ Drawn0 w w' := by
  have H : ((spec_l1In.f a0 (-2147483648) 2147483647).bind fun t180 => (some t180)) = some r := h
  clear h
  replace H := bnd H
  obtain ⟨t180, A2, H⟩ := H
  obtain rfl := Option.some.inj H
  go_enter Try.func61, Try.ntmps61
  go_wp2_with (first | ((with_reducible refine gate_callee (f := 34) rfl ?_); refine gl_ (some 4) Try.func34 #[.int .i64 a0, .int .i64 (-2147483648), .int .i64 2147483647] rfl ?_; (with_reducible refine (spec_l1In.calls a0 (-2147483648) 2147483647 t180 _ A2.out).mono ?_); rintro e w' ⟨rfl, ⟨nd, rfl⟩⟩; refine ⟨_, rfl, ?_⟩))
  go_ret
  exact ⟨by first | rfl | (simp; done) | (simp [*]; done), by repeat (first | exact Drawn0.refl _ | apply Drawn0.step)⟩

/-! ### spec_ValOk: function 51 -/
def spec_ValOk.j0 : Nat → Int → Bool → Int → ByteArray → Option (Bool)
  | 0, _, _, _, _ => none
  | k + 1, x5, x26, x182000, x182001 => if x26 = true then (some (x182001.toList == ([] : List UInt8))) else (if x5 = 6 then (if x182000 = 0 then (some (decide ((x182001.size : Int) ≤ 40))) else (some false)) else (some false))
def spec_ValOk.f (k : Nat) (a0 : Int) (a1_0 : Int) (a1_1 : ByteArray) : Option (Bool) := if a0 = 0 then ((spec_l1In.f a1_0 0 1).bind fun t182 => (if t182 = true then (some (a1_1.toList == ([] : List UInt8))) else (some false))) else (if a0 = 1 then ((spec_l4Int.f a1_0).bind fun t183 => (if t183 = true then (some (a1_1.toList == ([] : List UInt8))) else (some false))) else (if a0 = 2 then (spec_ValOk.j0 k a0 (a0 == 2) a1_0 a1_1) else (spec_ValOk.j0 k a0 (a0 == 5) a1_0 a1_1)))
set_option maxHeartbeats 8000000 in
set_option maxRecDepth 100000 in
theorem spec_ValOk.calls (k : Nat) (a0 : Int) (a1_0 : Int) (a1_1 : ByteArray) (r : Bool) (w : World) (h : spec_ValOk.f k a0 a1_0 a1_1 = some r) :
    Calls Try.prog 51 #[.int .i64 a0, .agg #[.int .i64 a1_0, .string a1_1]] w fun e w' => e = .returned (.bool r) ∧ Below w.heap.size w w' := by
  have hu59 := Try.underlying59
  have HB := Aside0.mk (Below.refl w.heap.size w)
  have H : (if a0 = 0 then ((spec_l1In.f a1_0 0 1).bind fun t182 => (if t182 = true then (some (a1_1.toList == ([] : List UInt8))) else (some false))) else (if a0 = 1 then ((spec_l4Int.f a1_0).bind fun t183 => (if t183 = true then (some (a1_1.toList == ([] : List UInt8))) else (some false))) else (if a0 = 2 then (spec_ValOk.j0 k a0 (a0 == 2) a1_0 a1_1) else (spec_ValOk.j0 k a0 (a0 == 5) a1_0 a1_1)))) = some r := h
  clear h
  by_cases c3 : a0 = 0
  · rw [if_pos c3] at H
    have c3b0 : (a0 == 0) = true := beq_iff_eq.mpr c3
    have c3b1 : (a0 != 0) = false := bne_eq_false_iff_eq.mpr c3
    clear c3
    replace H := bnd H
    obtain ⟨t182, A4, H⟩ := H
    by_cases c5 : t182 = true
    · subst c5
      replace H := ifp rfl H
      obtain rfl := Option.some.inj H
      go_enter Try.func51, Try.ntmps51
      go_wp2_with (first | ((with_reducible refine gate_dst (N := 3) rfl ?_); (try (refine gate_guard (by rfl) ?_; dsimp only)); refine bx_ 3 #[.int .i64 a1_0, .string a1_1] 59 ?_; intro gb181 hg w6 hbox hb; have BK181 := Aside0.mk (hbox); have GW181 := gwe HB hg; have GE181 := GW181; replace HB := bst HB hb; clear hb hbox hg; obtain ⟨hcz7_0, hcz7_1, hfz7_0, hfz7_1⟩ := cl2 BK181) | ((with_reducible refine gate_callee (f := 34) rfl ?_); refine gl_ (some 10) Try.func34 #[.int .i64 a1_0, .int .i64 0, .int .i64 1] rfl ?_; (with_reducible refine (spec_l1In.calls a1_0 0 1 true _ A4.out).mono ?_); rintro e w' ⟨rfl, ⟨nd, rfl⟩⟩; refine ⟨_, rfl, ?_⟩))
      go_ret
      exact fin_ (below_later HB.out)
    · replace c5 := Bool.eq_false_iff.mpr c5
      subst c5
      replace H := ifn Bool.false_ne_true H
      obtain rfl := Option.some.inj H
      go_enter Try.func51, Try.ntmps51
      go_wp2_with (first | ((with_reducible refine gate_dst (N := 3) rfl ?_); (try (refine gate_guard (by rfl) ?_; dsimp only)); refine bx_ 3 #[.int .i64 a1_0, .string a1_1] 59 ?_; intro gb181 hg w8 hbox hb; have BK181 := Aside0.mk (hbox); have GW181 := gwe HB hg; have GE181 := GW181; replace HB := bst HB hb; clear hb hbox hg; obtain ⟨hcz9_0, hcz9_1, hfz9_0, hfz9_1⟩ := cl2 BK181) | ((with_reducible refine gate_callee (f := 34) rfl ?_); refine gl_ (some 10) Try.func34 #[.int .i64 a1_0, .int .i64 0, .int .i64 1] rfl ?_; (with_reducible refine (spec_l1In.calls a1_0 0 1 false _ A4.out).mono ?_); rintro e w' ⟨rfl, ⟨nd, rfl⟩⟩; refine ⟨_, rfl, ?_⟩))
      go_ret
      exact fin_ (below_later HB.out)
  · rw [if_neg c3] at H
    have c3b0 : (a0 == 0) = false := beq_eq_false_iff_ne.mpr c3
    have c3b1 : (a0 != 0) = true := bne_iff_ne.mpr c3
    by_cases c10 : a0 = 1
    · rw [if_pos c10] at H
      have c10b0 : (a0 == 1) = true := beq_iff_eq.mpr c10
      have c10b1 : (a0 != 1) = false := bne_eq_false_iff_eq.mpr c10
      clear c10
      replace H := bnd H
      obtain ⟨t183, A11, H⟩ := H
      by_cases c12 : t183 = true
      · subst c12
        replace H := ifp rfl H
        obtain rfl := Option.some.inj H
        go_enter Try.func51, Try.ntmps51
        go_wp2_with (first | ((with_reducible refine gate_dst (N := 3) rfl ?_); (try (refine gate_guard (by rfl) ?_; dsimp only)); refine bx_ 3 #[.int .i64 a1_0, .string a1_1] 59 ?_; intro gb181 hg w13 hbox hb; have BK181 := Aside0.mk (hbox); have GW181 := gwe HB hg; have GE181 := GW181; replace HB := bst HB hb; clear hb hbox hg; obtain ⟨hcz14_0, hcz14_1, hfz14_0, hfz14_1⟩ := cl2 BK181) | ((with_reducible refine gate_callee (f := 61) rfl ?_); refine gl_ (some 20) Try.func61 #[.int .i64 a1_0] rfl ?_; (with_reducible refine (spec_l4Int.calls a1_0 true _ A11.out).mono ?_); rintro e w' ⟨rfl, ⟨nd, rfl⟩⟩; refine ⟨_, rfl, ?_⟩))
        go_ret
        exact fin_ (below_later HB.out)
      · replace c12 := Bool.eq_false_iff.mpr c12
        subst c12
        replace H := ifn Bool.false_ne_true H
        obtain rfl := Option.some.inj H
        go_enter Try.func51, Try.ntmps51
        go_wp2_with (first | ((with_reducible refine gate_dst (N := 3) rfl ?_); (try (refine gate_guard (by rfl) ?_; dsimp only)); refine bx_ 3 #[.int .i64 a1_0, .string a1_1] 59 ?_; intro gb181 hg w15 hbox hb; have BK181 := Aside0.mk (hbox); have GW181 := gwe HB hg; have GE181 := GW181; replace HB := bst HB hb; clear hb hbox hg; obtain ⟨hcz16_0, hcz16_1, hfz16_0, hfz16_1⟩ := cl2 BK181) | ((with_reducible refine gate_callee (f := 61) rfl ?_); refine gl_ (some 20) Try.func61 #[.int .i64 a1_0] rfl ?_; (with_reducible refine (spec_l4Int.calls a1_0 false _ A11.out).mono ?_); rintro e w' ⟨rfl, ⟨nd, rfl⟩⟩; refine ⟨_, rfl, ?_⟩))
        go_ret
        exact fin_ (below_later HB.out)
    · rw [if_neg c10] at H
      have c10b0 : (a0 == 1) = false := beq_eq_false_iff_ne.mpr c10
      have c10b1 : (a0 != 1) = true := bne_iff_ne.mpr c10
      have HC17 := Aside0.mk H
      clear H
      go_enter Try.func51, Try.ntmps51
      go_upto_if 26 with (first | ((with_reducible refine gate_dst (N := 3) rfl ?_); (try (refine gate_guard (by rfl) ?_; dsimp only)); refine bx_ 3 #[.int .i64 a1_0, .string a1_1] 59 ?_; intro gb181 hg w18 hbox hb; have BK181 := Aside0.mk (hbox); have GW181 := gwe HB hg; have GE181 := GW181; replace HB := bst HB hb; clear hb hbox hg))
      (try simp only [Act.put, List.setIfInBounds_toArray, List.set_cons_zero, List.set_cons_succ])
      go_cut [26] (fun v26 wc => ∃ (kq : Nat) (x26_16 : Bool), v26 = .bool x26_16 ∧ Aside0 (spec_ValOk.j0 kq a0 x26_16 a1_0 a1_1 = some r) ∧ Aside0 (kq ≤ k) ∧ Aside0 (wc.heap[gb181]? = some (.cells #[.int .i64 a1_0, .string a1_1] 59 (0, 0))) ∧ Aside0 (Below w.heap.size w wc))
      case first =>
        have H := HC17.out
        clear HC17
        by_cases c19 : a0 = 2
        · rw [if_pos c19] at H
          have c19b0 : (a0 == 2) = true := beq_iff_eq.mpr c19
          have c19b1 : (a0 != 2) = false := bne_eq_false_iff_eq.mpr c19
          clear c19
          (first | rw [c19b0] | rw [c19b1] | (simp only [i64_w, i32_w]; rw [c19b0]) | skip)
          have H' := Aside0.mk H
          clear H
          go_wp2
          go_meet
          case rel => exact ⟨_, ((a0 == 2)), sr, H', ⟨by first | omega | exact Nat.le_refl _⟩, ⟨blk_later BK181.out⟩, ⟨below_later HB.out⟩⟩
        · rw [if_neg c19] at H
          have c19b0 : (a0 == 2) = false := beq_eq_false_iff_ne.mpr c19
          have c19b1 : (a0 != 2) = true := bne_iff_ne.mpr c19
          (first | rw [c19b0] | rw [c19b1] | (simp only [i64_w, i32_w]; rw [c19b0]) | skip)
          have H' := Aside0.mk H
          clear H
          go_wp2
          go_meet
          case rel => exact ⟨_, ((a0 == 5)), sr, H', ⟨by first | omega | exact Nat.le_refl _⟩, ⟨blk_later BK181.out⟩, ⟨below_later HB.out⟩⟩
      case rest =>
        clear HC17
        try clear c3
        try clear c3b0
        try clear c3b1
        try clear c10
        try clear c10b0
        try clear c10b1
        obtain ⟨kq, x26_16, rfl, HA, HJ16, BK181, HB⟩ := hcut
        cases kq with
        | zero => exact absurd HA.out (by simp [spec_ValOk.j0])
        | succ kj16 =>
          have H := HA.out
          clear HA
          simp only [spec_ValOk.j0] at H
          by_cases c20 : x26_16 = true
          · subst c20
            replace H := ifp rfl H
            obtain rfl := Option.some.inj H
            obtain ⟨hcz21_0, hcz21_1, hfz21_0, hfz21_1⟩ := cl2 BK181
            go_wp2
            go_ret
            exact fin_ (below_later HB.out)
          · replace c20 := Bool.eq_false_iff.mpr c20
            subst c20
            replace H := ifn Bool.false_ne_true H
            by_cases c22 : a0 = 6
            · rw [if_pos c22] at H
              have c22b0 : (a0 == 6) = true := beq_iff_eq.mpr c22
              have c22b1 : (a0 != 6) = false := bne_eq_false_iff_eq.mpr c22
              clear c22
              by_cases c23 : a1_0 = 0
              · rw [if_pos c23] at H
                have c23b0 : (a1_0 == 0) = true := beq_iff_eq.mpr c23
                have c23b1 : (a1_0 != 0) = false := bne_eq_false_iff_eq.mpr c23
                clear c23
                obtain rfl := Option.some.inj H
                obtain ⟨hcz24_0, hcz24_1, hfz24_0, hfz24_1⟩ := cl2 BK181
                go_wp2
                go_ret
                exact fin_ (below_later HB.out)
              · rw [if_neg c23] at H
                have c23b0 : (a1_0 == 0) = false := beq_eq_false_iff_ne.mpr c23
                have c23b1 : (a1_0 != 0) = true := bne_iff_ne.mpr c23
                obtain rfl := Option.some.inj H
                obtain ⟨hcz25_0, hcz25_1, hfz25_0, hfz25_1⟩ := cl2 BK181
                go_wp2
                go_ret
                exact fin_ (below_later HB.out)
            · rw [if_neg c22] at H
              have c22b0 : (a0 == 6) = false := beq_eq_false_iff_ne.mpr c22
              have c22b1 : (a0 != 6) = true := bne_iff_ne.mpr c22
              obtain rfl := Option.some.inj H
              go_wp2
              go_ret
              exact fin_ (below_later HB.out)

/-! ### spec_l20Plain: function 35 -/
mutual
def spec_l20Plain.j0 : Nat → List (S57) → Int → Bool → Int → Int → Int → ByteArray → Int → Int → Int → Int → Int → ByteArray → Int → Int → Option (Bool)
  | 0, _, _, _, _, _, _, _, _, _, _, _, _, _, _, _ => none
  | k + 1, x0, x14, x15, x185000, x185001, x185002, x185003, x185004, x185005, x186000, x186001, x186002, x186003, x186004, x186005 => if x15 = true then ((spec_LeafOf.f k x0 x185001).bind fun bt186 => (if bt186.2.2.2 = true then (if bt186.2.1 = 0 then ((spec_ValOk.f k bt186.1 x185002 x185003).bind fun t191 => (if t191 = true then (if x185004 = 0 then (some (x185005 == 0)) else (some false)) else (some false))) else (some false)) else (some false))) else (if x14 = 4 then ((spec_LeafOf.f k x0 x185001).bind fun bt192 => (if bt192.2.2.2 = true then (if bt192.2.1 = 0 then (some (x185000 == x186000 && ((x185002 == x186002 && (x185003.toList == x186003.toList)) && (x185004 == x186004 && (x185005 == x186005))))) else (some false)) else (some false))) else (if x14 = 5 then (spec_l20Plain.j1 k x14 (x14 == 5) x185000 x185001 x185002 x185003 x185004 x185005 x186000 x186001 x186002 x186003 x186004 x186005) else (spec_l20Plain.j1 k x14 (x14 == 6) x185000 x185001 x185002 x185003 x185004 x185005 x186000 x186001 x186002 x186003 x186004 x186005)))
def spec_l20Plain.j1 : Nat → Int → Bool → Int → Int → Int → ByteArray → Int → Int → Int → Int → Int → ByteArray → Int → Int → Option (Bool)
  | 0, _, _, _, _, _, _, _, _, _, _, _, _, _, _ => none
  | k + 1, x14, x72, x185000, x185001, x185002, x185003, x185004, x185005, x186000, x186001, x186002, x186003, x186004, x186005 => if x72 = true then (some (x185000 == x186000 && (x185001 == x186001 && ((x185002 == x186002 && (x185003.toList == x186003.toList)))))) else (if x14 = 7 then (some (x185000 == x186000 && (x185001 == x186001 && ((x185002 == x186002 && (x185003.toList == x186003.toList)) && (x185005 == x186005))))) else (some false))
end
def spec_l20Plain.f (k : Nat) (l0 : List (S57)) (a1_0 : Int) (a1_1 : Int) (a1_2 : Int) (a1_3 : ByteArray) (a1_4 : Int) (a1_5 : Int) : Option (Bool) := if a1_0 = 1 then (spec_l20Plain.j0 k l0 a1_0 (a1_0 == 1) a1_0 a1_1 a1_2 a1_3 a1_4 a1_5 a1_0 0 0 (⟨#[]⟩ : ByteArray) 0 0) else (if a1_0 = 2 then (spec_l20Plain.j0 k l0 a1_0 (a1_0 == 2) a1_0 a1_1 a1_2 a1_3 a1_4 a1_5 a1_0 0 0 (⟨#[]⟩ : ByteArray) 0 0) else (spec_l20Plain.j0 k l0 a1_0 (a1_0 == 3) a1_0 a1_1 a1_2 a1_3 a1_4 a1_5 a1_0 0 0 (⟨#[]⟩ : ByteArray) 0 0))
set_option maxHeartbeats 8000000 in
set_option maxRecDepth 100000 in
theorem spec_l20Plain.calls (k : Nat) (A0 : Option Addr) (c0 : Nat) (l0 : List (S57)) (a1_0 : Int) (a1_1 : Int) (a1_2 : Int) (a1_3 : ByteArray) (a1_4 : Int) (a1_5 : Int) (r : Bool) (w : World) (hr0 : Kd.C k57 w A0 l0.length l0) (hc0 : l0.length ≤ c0) (h : spec_l20Plain.f k l0 a1_0 a1_1 a1_2 a1_3 a1_4 a1_5 = some r) :
    Calls Try.prog 35 #[.slice A0 l0.length c0, .agg #[.int .i64 a1_0, .int .i64 a1_1, .int .i64 a1_2, .string a1_3, .int .i64 a1_4, .int .i64 a1_5]] w fun e w' => e = .returned (.bool r) ∧ Below w.heap.size w w' := by
  have hu61 := Try.underlying61
  have hu70 := Try.underlying70
  have hu59 := Try.underlying59
  have HR0 := Aside0.mk hr0
  have HC0 := Aside0.mk hc0
  clear hr0 hc0
  have HB := Aside0.mk (Below.refl w.heap.size w)
  have H : (if a1_0 = 1 then (spec_l20Plain.j0 k l0 a1_0 (a1_0 == 1) a1_0 a1_1 a1_2 a1_3 a1_4 a1_5 a1_0 0 0 (⟨#[]⟩ : ByteArray) 0 0) else (if a1_0 = 2 then (spec_l20Plain.j0 k l0 a1_0 (a1_0 == 2) a1_0 a1_1 a1_2 a1_3 a1_4 a1_5 a1_0 0 0 (⟨#[]⟩ : ByteArray) 0 0) else (spec_l20Plain.j0 k l0 a1_0 (a1_0 == 3) a1_0 a1_1 a1_2 a1_3 a1_4 a1_5 a1_0 0 0 (⟨#[]⟩ : ByteArray) 0 0))) = some r := h
  clear h
  have HC3 := Aside0.mk H
  clear H
  go_enter Try.func35, Try.ntmps35
  go_upto_if 15 with (first | ((with_reducible refine gate_dst (N := 3) rfl ?_); refine bx_ 3 #[.int .i64 a1_0, .int .i64 a1_1, .int .i64 a1_2, .string a1_3, .int .i64 a1_4, .int .i64 a1_5] 61 ?_; intro gb184 hg w4 hbox hb; have BK184 := Aside0.mk (hbox); have GW184 := gwe HB hg; have GE184 := GW184; replace HB := bst HB hb; clear hb hbox hg; obtain ⟨hcz5_0, hcz5_1, hcz5_2, hcz5_3, hcz5_4, hcz5_5, hfz5_0, hfz5_1, hfz5_2, hfz5_3, hfz5_4, hfz5_5⟩ := cl6 BK184) | ((with_reducible refine gate_dst (N := 5) rfl ?_); refine bx_ 5 #[.int .i64 0, .int .i64 0, .int .i64 0, .string (⟨#[]⟩ : ByteArray), .int .i64 0, .int .i64 0] 61 ?_; intro gb185 hg w6 hbox hb; have BK185 := Aside0.mk (hbox); have GW185 := gwe HB hg; have GE185 := GW185; have NB184_185 := nbl BK184 hg; have NB185_184 := nbr (nbl BK184 hg); replace BK184 := bkb BK184 hb; replace HB := bst HB hb; clear hb hbox hg; have hnb7 := NB185_184.out; have hnc7 := NB184_185.out; obtain ⟨hcz8_0, hcz8_1, hcz8_2, hcz8_3, hcz8_4, hcz8_5, hfz8_0, hfz8_1, hfz8_2, hfz8_3, hfz8_4, hfz8_5⟩ := cl6 BK185; obtain ⟨hcz9_0, hcz9_1, hcz9_2, hcz9_3, hcz9_4, hcz9_5, hfz9_0, hfz9_1, hfz9_2, hfz9_3, hfz9_4, hfz9_5⟩ := cl6 BK184))
  (try simp only [Act.put, List.setIfInBounds_toArray, List.set_cons_zero, List.set_cons_succ])
  go_cut [15] (fun v15 wc => ∃ (kq : Nat) (x15_2 : Bool), v15 = .bool x15_2 ∧ Aside0 (spec_l20Plain.j0 kq l0 a1_0 x15_2 a1_0 a1_1 a1_2 a1_3 a1_4 a1_5 a1_0 0 0 (⟨#[]⟩ : ByteArray) 0 0 = some r) ∧ Aside0 (kq ≤ k) ∧ Aside0 (wc.heap[gb184]? = some (.cells #[.int .i64 a1_0, .int .i64 a1_1, .int .i64 a1_2, .string a1_3, .int .i64 a1_4, .int .i64 a1_5] 61 (0, 0))) ∧ Aside0 (wc.heap[gb185]? = some (.cells #[.int .i64 a1_0, .int .i64 0, .int .i64 0, .string (⟨#[]⟩ : ByteArray), .int .i64 0, .int .i64 0] 61 (0, 0))) ∧ Aside0 (Below w.heap.size w wc))
  case first =>
    have H := HC3.out
    clear HC3
    by_cases c10 : a1_0 = 1
    · rw [if_pos c10] at H
      have c10b0 : (a1_0 == 1) = true := beq_iff_eq.mpr c10
      have c10b1 : (a1_0 != 1) = false := bne_eq_false_iff_eq.mpr c10
      clear c10
      (first | rw [c10b0] | rw [c10b1] | (simp only [i64_w, i32_w]; rw [c10b0]) | skip)
      have H' := Aside0.mk H
      clear H
      go_wp2
      go_meet
      case rel => exact ⟨_, ((a1_0 == 1)), sr, H', ⟨by first | omega | exact Nat.le_refl _⟩, ⟨blk_later BK184.out⟩, ⟨blk_later BK185.out⟩, ⟨below_later HB.out⟩⟩
    · rw [if_neg c10] at H
      have c10b0 : (a1_0 == 1) = false := beq_eq_false_iff_ne.mpr c10
      have c10b1 : (a1_0 != 1) = true := bne_iff_ne.mpr c10
      (first | rw [c10b0] | rw [c10b1] | (simp only [i64_w, i32_w]; rw [c10b0]) | skip)
      by_cases c11 : a1_0 = 2
      · rw [if_pos c11] at H
        have c11b0 : (a1_0 == 2) = true := beq_iff_eq.mpr c11
        have c11b1 : (a1_0 != 2) = false := bne_eq_false_iff_eq.mpr c11
        clear c11
        have H' := Aside0.mk H
        clear H
        go_wp2
        go_meet
        case rel => exact ⟨_, ((a1_0 == 2)), sr, H', ⟨by first | omega | exact Nat.le_refl _⟩, ⟨blk_later BK184.out⟩, ⟨blk_later BK185.out⟩, ⟨below_later HB.out⟩⟩
      · rw [if_neg c11] at H
        have c11b0 : (a1_0 == 2) = false := beq_eq_false_iff_ne.mpr c11
        have c11b1 : (a1_0 != 2) = true := bne_iff_ne.mpr c11
        have H' := Aside0.mk H
        clear H
        go_wp2
        go_meet
        case rel => exact ⟨_, ((a1_0 == 3)), sr, H', ⟨by first | omega | exact Nat.le_refl _⟩, ⟨blk_later BK184.out⟩, ⟨blk_later BK185.out⟩, ⟨below_later HB.out⟩⟩
  case rest =>
    clear HC3
    try clear hcz5_0
    try clear hcz5_1
    try clear hcz5_2
    try clear hcz5_3
    try clear hcz5_4
    try clear hcz5_5
    try clear hcz8_0
    try clear hcz8_1
    try clear hcz8_2
    try clear hcz8_3
    try clear hcz8_4
    try clear hcz8_5
    try clear hcz9_0
    try clear hcz9_1
    try clear hcz9_2
    try clear hcz9_3
    try clear hcz9_4
    try clear hcz9_5
    try clear hfz5_0
    try clear hfz5_1
    try clear hfz5_2
    try clear hfz5_3
    try clear hfz5_4
    try clear hfz5_5
    try clear hfz8_0
    try clear hfz8_1
    try clear hfz8_2
    try clear hfz8_3
    try clear hfz8_4
    try clear hfz8_5
    try clear hfz9_0
    try clear hfz9_1
    try clear hfz9_2
    try clear hfz9_3
    try clear hfz9_4
    try clear hfz9_5
    obtain ⟨kq, x15_2, rfl, HA, HJ2, BK184, BK185, HB⟩ := hcut
    cases kq with
    | zero => exact absurd HA.out (by simp [spec_l20Plain.j0])
    | succ kj2 =>
      have H := HA.out
      clear HA
      simp only [spec_l20Plain.j0] at H
      by_cases c12 : x15_2 = true
      · subst c12
        replace H := ifp rfl H
        replace H := Option.bind_eq_some_iff.mp H
        obtain ⟨⟨t186, t187, t188, t189⟩, A130, H⟩ := H
        replace H : (if t189 = true then (if t187 = 0 then ((spec_ValOk.f kj2 t186 a1_2 a1_3).bind fun t191 => (if t191 = true then (if a1_4 = 0 then (some (a1_5 == 0)) else (some false)) else (some false))) else (some false)) else (some false)) = some r := H
        have A13 := Aside0.mk A130
        clear A130
        by_cases c14 : t189 = true
        · subst c14
          replace H := ifp rfl H
          by_cases c15 : t187 = 0
          · rw [if_pos c15] at H
            have c15b0 : (t187 == 0) = true := beq_iff_eq.mpr c15
            have c15b1 : (t187 != 0) = false := bne_eq_false_iff_eq.mpr c15
            clear c15
            replace H := bnd H
            obtain ⟨t191, A16, H⟩ := H
            by_cases c17 : t191 = true
            · subst c17
              replace H := ifp rfl H
              by_cases c18 : a1_4 = 0
              · rw [if_pos c18] at H
                have c18b0 : (a1_4 == 0) = true := beq_iff_eq.mpr c18
                have c18b1 : (a1_4 != 0) = false := bne_eq_false_iff_eq.mpr c18
                clear c18
                obtain rfl := Option.some.inj H
                have hnb19 := NB184_185.out
                have hnc19 := NB185_184.out
                obtain ⟨hcz20_0, hcz20_1, hcz20_2, hcz20_3, hcz20_4, hcz20_5, hfz20_0, hfz20_1, hfz20_2, hfz20_3, hfz20_4, hfz20_5⟩ := cl6 BK184
                go_wp2_with (first | ((with_reducible refine gate_callee (f := 37) rfl ?_); refine gl_ (some 23) Try.func37 #[.slice A0 l0.length c0, .int .i64 a1_1] rfl ?_; (with_reducible refine (spec_LeafOf.calls kj2 _ _ l0 a1_1 t186 t187 t188 true _ ?side1 ?side2 A13.out).mono ?_); (case side1 => repeat (first | exact (Kd.C_below HR0.out HB.out) | (with_reducible refine Kd.C_alloc ?_ _) | (with_reducible refine Kd.C_drewN ?_ _) | (with_reducible refine Kd.C_drew ?_))); (case side2 => exact HC0.out); rintro e w21 ⟨rfl, hb⟩; refine ⟨_, rfl, ?_⟩; replace BK184 := bkb BK184 hb; replace BK185 := bkb BK185 hb; replace HB := bst HB hb; (try clear hb)) | ((with_reducible refine gate_dst (N := 6) rfl ?_); refine bx_ 6 #[.int .i64 0, .int .i64 0, .int .i64 0] 70 ?_; intro gb190 hg w22 hbox hb; have BK190 := Aside0.mk (hbox); have GW190 := gwe HB hg; have GE190 := GW190; have NB184_190 := nbl BK184 hg; have NB190_184 := nbr (nbl BK184 hg); have NB185_190 := nbl BK185 hg; have NB190_185 := nbr (nbl BK185 hg); replace BK184 := bkb BK184 hb; replace BK185 := bkb BK185 hb; replace HB := bst HB hb; clear hb hbox hg; have hnb23 := NB190_184.out; have hnc23 := NB184_190.out; have hnb24 := NB190_185.out; have hnc24 := NB185_190.out; obtain ⟨hcz25_0, hcz25_1, hcz25_2, hfz25_0, hfz25_1, hfz25_2⟩ := cl3 BK190; obtain ⟨hcz26_0, hcz26_1, hcz26_2, hcz26_3, hcz26_4, hcz26_5, hfz26_0, hfz26_1, hfz26_2, hfz26_3, hfz26_4, hfz26_5⟩ := cl6 BK184) | (go_at_call 51; (with_reducible refine (spec_ValOk.calls kj2 t186 a1_2 a1_3 true _ A16.out).mono ?_); rintro e w27 ⟨rfl, hb⟩; replace BK184 := bkb BK184 hb; replace BK185 := bkb BK185 hb; replace BK190 := Aside0.mk (blk_below (g := gb190) (o := .cells #[.int .i64 t186, .int .i64 t187, .int .i64 t188] 70 (0, 0)) (blk_later BK190.out) hb); replace HB := bst HB hb; (try clear hb); obtain ⟨hcz28_0, hcz28_1, hcz28_2, hcz28_3, hcz28_4, hcz28_5, hfz28_0, hfz28_1, hfz28_2, hfz28_3, hfz28_4, hfz28_5⟩ := cl6 BK184))
                go_ret
                exact fin_ (below_later HB.out)
              · rw [if_neg c18] at H
                have c18b0 : (a1_4 == 0) = false := beq_eq_false_iff_ne.mpr c18
                have c18b1 : (a1_4 != 0) = true := bne_iff_ne.mpr c18
                obtain rfl := Option.some.inj H
                have hnb29 := NB184_185.out
                have hnc29 := NB185_184.out
                obtain ⟨hcz30_0, hcz30_1, hcz30_2, hcz30_3, hcz30_4, hcz30_5, hfz30_0, hfz30_1, hfz30_2, hfz30_3, hfz30_4, hfz30_5⟩ := cl6 BK184
                go_wp2_with (first | ((with_reducible refine gate_callee (f := 37) rfl ?_); refine gl_ (some 23) Try.func37 #[.slice A0 l0.length c0, .int .i64 a1_1] rfl ?_; (with_reducible refine (spec_LeafOf.calls kj2 _ _ l0 a1_1 t186 t187 t188 true _ ?side1 ?side2 A13.out).mono ?_); (case side1 => repeat (first | exact (Kd.C_below HR0.out HB.out) | (with_reducible refine Kd.C_alloc ?_ _) | (with_reducible refine Kd.C_drewN ?_ _) | (with_reducible refine Kd.C_drew ?_))); (case side2 => exact HC0.out); rintro e w31 ⟨rfl, hb⟩; refine ⟨_, rfl, ?_⟩; replace BK184 := bkb BK184 hb; replace BK185 := bkb BK185 hb; replace HB := bst HB hb; (try clear hb)) | ((with_reducible refine gate_dst (N := 6) rfl ?_); refine bx_ 6 #[.int .i64 0, .int .i64 0, .int .i64 0] 70 ?_; intro gb190 hg w32 hbox hb; have BK190 := Aside0.mk (hbox); have GW190 := gwe HB hg; have GE190 := GW190; have NB184_190 := nbl BK184 hg; have NB190_184 := nbr (nbl BK184 hg); have NB185_190 := nbl BK185 hg; have NB190_185 := nbr (nbl BK185 hg); replace BK184 := bkb BK184 hb; replace BK185 := bkb BK185 hb; replace HB := bst HB hb; clear hb hbox hg; have hnb33 := NB190_184.out; have hnc33 := NB184_190.out; have hnb34 := NB190_185.out; have hnc34 := NB185_190.out; obtain ⟨hcz35_0, hcz35_1, hcz35_2, hfz35_0, hfz35_1, hfz35_2⟩ := cl3 BK190; obtain ⟨hcz36_0, hcz36_1, hcz36_2, hcz36_3, hcz36_4, hcz36_5, hfz36_0, hfz36_1, hfz36_2, hfz36_3, hfz36_4, hfz36_5⟩ := cl6 BK184) | (go_at_call 51; (with_reducible refine (spec_ValOk.calls kj2 t186 a1_2 a1_3 true _ A16.out).mono ?_); rintro e w37 ⟨rfl, hb⟩; replace BK184 := bkb BK184 hb; replace BK185 := bkb BK185 hb; replace BK190 := Aside0.mk (blk_below (g := gb190) (o := .cells #[.int .i64 t186, .int .i64 t187, .int .i64 t188] 70 (0, 0)) (blk_later BK190.out) hb); replace HB := bst HB hb; (try clear hb); obtain ⟨hcz38_0, hcz38_1, hcz38_2, hcz38_3, hcz38_4, hcz38_5, hfz38_0, hfz38_1, hfz38_2, hfz38_3, hfz38_4, hfz38_5⟩ := cl6 BK184))
                go_ret
                exact fin_ (below_later HB.out)
            · replace c17 := Bool.eq_false_iff.mpr c17
              subst c17
              replace H := ifn Bool.false_ne_true H
              obtain rfl := Option.some.inj H
              have hnb39 := NB184_185.out
              have hnc39 := NB185_184.out
              obtain ⟨hcz40_0, hcz40_1, hcz40_2, hcz40_3, hcz40_4, hcz40_5, hfz40_0, hfz40_1, hfz40_2, hfz40_3, hfz40_4, hfz40_5⟩ := cl6 BK184
              go_wp2_with (first | ((with_reducible refine gate_callee (f := 37) rfl ?_); refine gl_ (some 23) Try.func37 #[.slice A0 l0.length c0, .int .i64 a1_1] rfl ?_; (with_reducible refine (spec_LeafOf.calls kj2 _ _ l0 a1_1 t186 t187 t188 true _ ?side1 ?side2 A13.out).mono ?_); (case side1 => repeat (first | exact (Kd.C_below HR0.out HB.out) | (with_reducible refine Kd.C_alloc ?_ _) | (with_reducible refine Kd.C_drewN ?_ _) | (with_reducible refine Kd.C_drew ?_))); (case side2 => exact HC0.out); rintro e w41 ⟨rfl, hb⟩; refine ⟨_, rfl, ?_⟩; replace BK184 := bkb BK184 hb; replace BK185 := bkb BK185 hb; replace HB := bst HB hb; (try clear hb)) | ((with_reducible refine gate_dst (N := 6) rfl ?_); refine bx_ 6 #[.int .i64 0, .int .i64 0, .int .i64 0] 70 ?_; intro gb190 hg w42 hbox hb; have BK190 := Aside0.mk (hbox); have GW190 := gwe HB hg; have GE190 := GW190; have NB184_190 := nbl BK184 hg; have NB190_184 := nbr (nbl BK184 hg); have NB185_190 := nbl BK185 hg; have NB190_185 := nbr (nbl BK185 hg); replace BK184 := bkb BK184 hb; replace BK185 := bkb BK185 hb; replace HB := bst HB hb; clear hb hbox hg; have hnb43 := NB190_184.out; have hnc43 := NB184_190.out; have hnb44 := NB190_185.out; have hnc44 := NB185_190.out; obtain ⟨hcz45_0, hcz45_1, hcz45_2, hfz45_0, hfz45_1, hfz45_2⟩ := cl3 BK190; obtain ⟨hcz46_0, hcz46_1, hcz46_2, hcz46_3, hcz46_4, hcz46_5, hfz46_0, hfz46_1, hfz46_2, hfz46_3, hfz46_4, hfz46_5⟩ := cl6 BK184) | (go_at_call 51; (with_reducible refine (spec_ValOk.calls kj2 t186 a1_2 a1_3 false _ A16.out).mono ?_); rintro e w47 ⟨rfl, hb⟩; replace BK184 := bkb BK184 hb; replace BK185 := bkb BK185 hb; replace BK190 := Aside0.mk (blk_below (g := gb190) (o := .cells #[.int .i64 t186, .int .i64 t187, .int .i64 t188] 70 (0, 0)) (blk_later BK190.out) hb); replace HB := bst HB hb; (try clear hb)))
              go_ret
              exact fin_ (below_later HB.out)
          · rw [if_neg c15] at H
            have c15b0 : (t187 == 0) = false := beq_eq_false_iff_ne.mpr c15
            have c15b1 : (t187 != 0) = true := bne_iff_ne.mpr c15
            obtain rfl := Option.some.inj H
            have hnb48 := NB184_185.out
            have hnc48 := NB185_184.out
            obtain ⟨hcz49_0, hcz49_1, hcz49_2, hcz49_3, hcz49_4, hcz49_5, hfz49_0, hfz49_1, hfz49_2, hfz49_3, hfz49_4, hfz49_5⟩ := cl6 BK184
            go_wp2_with (first | ((with_reducible refine gate_callee (f := 37) rfl ?_); refine gl_ (some 23) Try.func37 #[.slice A0 l0.length c0, .int .i64 a1_1] rfl ?_; (with_reducible refine (spec_LeafOf.calls kj2 _ _ l0 a1_1 t186 t187 t188 true _ ?side1 ?side2 A13.out).mono ?_); (case side1 => repeat (first | exact (Kd.C_below HR0.out HB.out) | (with_reducible refine Kd.C_alloc ?_ _) | (with_reducible refine Kd.C_drewN ?_ _) | (with_reducible refine Kd.C_drew ?_))); (case side2 => exact HC0.out); rintro e w50 ⟨rfl, hb⟩; refine ⟨_, rfl, ?_⟩; replace BK184 := bkb BK184 hb; replace BK185 := bkb BK185 hb; replace HB := bst HB hb; (try clear hb)) | ((with_reducible refine gate_dst (N := 6) rfl ?_); refine bx_ 6 #[.int .i64 0, .int .i64 0, .int .i64 0] 70 ?_; intro gb190 hg w51 hbox hb; have BK190 := Aside0.mk (hbox); have GW190 := gwe HB hg; have GE190 := GW190; have NB184_190 := nbl BK184 hg; have NB190_184 := nbr (nbl BK184 hg); have NB185_190 := nbl BK185 hg; have NB190_185 := nbr (nbl BK185 hg); replace BK184 := bkb BK184 hb; replace BK185 := bkb BK185 hb; replace HB := bst HB hb; clear hb hbox hg; have hnb52 := NB190_184.out; have hnc52 := NB184_190.out; have hnb53 := NB190_185.out; have hnc53 := NB185_190.out; obtain ⟨hcz54_0, hcz54_1, hcz54_2, hfz54_0, hfz54_1, hfz54_2⟩ := cl3 BK190))
            go_ret
            exact fin_ (below_later HB.out)
        · replace c14 := Bool.eq_false_iff.mpr c14
          subst c14
          replace H := ifn Bool.false_ne_true H
          obtain rfl := Option.some.inj H
          have hnb55 := NB184_185.out
          have hnc55 := NB185_184.out
          obtain ⟨hcz56_0, hcz56_1, hcz56_2, hcz56_3, hcz56_4, hcz56_5, hfz56_0, hfz56_1, hfz56_2, hfz56_3, hfz56_4, hfz56_5⟩ := cl6 BK184
          go_wp2_with (first | ((with_reducible refine gate_callee (f := 37) rfl ?_); refine gl_ (some 23) Try.func37 #[.slice A0 l0.length c0, .int .i64 a1_1] rfl ?_; (with_reducible refine (spec_LeafOf.calls kj2 _ _ l0 a1_1 t186 t187 t188 false _ ?side1 ?side2 A13.out).mono ?_); (case side1 => repeat (first | exact (Kd.C_below HR0.out HB.out) | (with_reducible refine Kd.C_alloc ?_ _) | (with_reducible refine Kd.C_drewN ?_ _) | (with_reducible refine Kd.C_drew ?_))); (case side2 => exact HC0.out); rintro e w57 ⟨rfl, hb⟩; refine ⟨_, rfl, ?_⟩; replace BK184 := bkb BK184 hb; replace BK185 := bkb BK185 hb; replace HB := bst HB hb; (try clear hb)) | ((with_reducible refine gate_dst (N := 6) rfl ?_); refine bx_ 6 #[.int .i64 0, .int .i64 0, .int .i64 0] 70 ?_; intro gb190 hg w58 hbox hb; have BK190 := Aside0.mk (hbox); have GW190 := gwe HB hg; have GE190 := GW190; have NB184_190 := nbl BK184 hg; have NB190_184 := nbr (nbl BK184 hg); have NB185_190 := nbl BK185 hg; have NB190_185 := nbr (nbl BK185 hg); replace BK184 := bkb BK184 hb; replace BK185 := bkb BK185 hb; replace HB := bst HB hb; clear hb hbox hg; have hnb59 := NB190_184.out; have hnc59 := NB184_190.out; have hnb60 := NB190_185.out; have hnc60 := NB185_190.out; obtain ⟨hcz61_0, hcz61_1, hcz61_2, hfz61_0, hfz61_1, hfz61_2⟩ := cl3 BK190))
          go_ret
          exact fin_ (below_later HB.out)
      · replace c12 := Bool.eq_false_iff.mpr c12
        subst c12
        replace H := ifn Bool.false_ne_true H
        by_cases c62 : a1_0 = 4
        · rw [if_pos c62] at H
          have c62b0 : (a1_0 == 4) = true := beq_iff_eq.mpr c62
          have c62b1 : (a1_0 != 4) = false := bne_eq_false_iff_eq.mpr c62
          clear c62
          replace H := Option.bind_eq_some_iff.mp H
          obtain ⟨⟨t192, t193, t194, t195⟩, A630, H⟩ := H
          replace H : (if t195 = true then (if t193 = 0 then (some (a1_0 == a1_0 && ((a1_2 == 0 && (a1_3.toList == (⟨#[]⟩ : ByteArray).toList)) && (a1_4 == 0 && (a1_5 == 0))))) else (some false)) else (some false)) = some r := H
          have A63 := Aside0.mk A630
          clear A630
          by_cases c64 : t195 = true
          · subst c64
            replace H := ifp rfl H
            by_cases c65 : t193 = 0
            · rw [if_pos c65] at H
              have c65b0 : (t193 == 0) = true := beq_iff_eq.mpr c65
              have c65b1 : (t193 != 0) = false := bne_eq_false_iff_eq.mpr c65
              clear c65
              obtain rfl := Option.some.inj H
              have hnb66 := NB184_185.out
              have hnc66 := NB185_184.out
              obtain ⟨hcz67_0, hcz67_1, hcz67_2, hcz67_3, hcz67_4, hcz67_5, hfz67_0, hfz67_1, hfz67_2, hfz67_3, hfz67_4, hfz67_5⟩ := cl6 BK184
              go_wp2_with (first | ((with_reducible refine gate_callee (f := 37) rfl ?_); refine gl_ (some 55) Try.func37 #[.slice A0 l0.length c0, .int .i64 a1_1] rfl ?_; (with_reducible refine (spec_LeafOf.calls kj2 _ _ l0 a1_1 t192 t193 t194 true _ ?side1 ?side2 A63.out).mono ?_); (case side1 => repeat (first | exact (Kd.C_below HR0.out HB.out) | (with_reducible refine Kd.C_alloc ?_ _) | (with_reducible refine Kd.C_drewN ?_ _) | (with_reducible refine Kd.C_drew ?_))); (case side2 => exact HC0.out); rintro e w68 ⟨rfl, hb⟩; refine ⟨_, rfl, ?_⟩; replace BK184 := bkb BK184 hb; replace BK185 := bkb BK185 hb; replace HB := bst HB hb; (try clear hb)) | ((with_reducible refine gate_dst (N := 8) rfl ?_); refine bx_ 8 #[.int .i64 0, .int .i64 0, .int .i64 0] 70 ?_; intro gb196 hg w69 hbox hb; have BK196 := Aside0.mk (hbox); have GW196 := gwe HB hg; have GE196 := GW196; have NB184_196 := nbl BK184 hg; have NB196_184 := nbr (nbl BK184 hg); have NB185_196 := nbl BK185 hg; have NB196_185 := nbr (nbl BK185 hg); replace BK184 := bkb BK184 hb; replace BK185 := bkb BK185 hb; replace HB := bst HB hb; clear hb hbox hg; have hnb70 := NB196_184.out; have hnc70 := NB184_196.out; have hnb71 := NB196_185.out; have hnc71 := NB185_196.out; obtain ⟨hcz72_0, hcz72_1, hcz72_2, hfz72_0, hfz72_1, hfz72_2⟩ := cl3 BK196; obtain ⟨hcz73_0, hcz73_1, hcz73_2, hcz73_3, hcz73_4, hcz73_5, hfz73_0, hfz73_1, hfz73_2, hfz73_3, hfz73_4, hfz73_5⟩ := cl6 BK184; obtain ⟨hcz74_0, hcz74_1, hcz74_2, hcz74_3, hcz74_4, hcz74_5, hfz74_0, hfz74_1, hfz74_2, hfz74_3, hfz74_4, hfz74_5⟩ := cl6 BK185))
              go_ret
              exact fin_ (below_later HB.out)
            · rw [if_neg c65] at H
              have c65b0 : (t193 == 0) = false := beq_eq_false_iff_ne.mpr c65
              have c65b1 : (t193 != 0) = true := bne_iff_ne.mpr c65
              obtain rfl := Option.some.inj H
              have hnb75 := NB184_185.out
              have hnc75 := NB185_184.out
              obtain ⟨hcz76_0, hcz76_1, hcz76_2, hcz76_3, hcz76_4, hcz76_5, hfz76_0, hfz76_1, hfz76_2, hfz76_3, hfz76_4, hfz76_5⟩ := cl6 BK184
              go_wp2_with (first | ((with_reducible refine gate_callee (f := 37) rfl ?_); refine gl_ (some 55) Try.func37 #[.slice A0 l0.length c0, .int .i64 a1_1] rfl ?_; (with_reducible refine (spec_LeafOf.calls kj2 _ _ l0 a1_1 t192 t193 t194 true _ ?side1 ?side2 A63.out).mono ?_); (case side1 => repeat (first | exact (Kd.C_below HR0.out HB.out) | (with_reducible refine Kd.C_alloc ?_ _) | (with_reducible refine Kd.C_drewN ?_ _) | (with_reducible refine Kd.C_drew ?_))); (case side2 => exact HC0.out); rintro e w77 ⟨rfl, hb⟩; refine ⟨_, rfl, ?_⟩; replace BK184 := bkb BK184 hb; replace BK185 := bkb BK185 hb; replace HB := bst HB hb; (try clear hb)) | ((with_reducible refine gate_dst (N := 8) rfl ?_); refine bx_ 8 #[.int .i64 0, .int .i64 0, .int .i64 0] 70 ?_; intro gb196 hg w78 hbox hb; have BK196 := Aside0.mk (hbox); have GW196 := gwe HB hg; have GE196 := GW196; have NB184_196 := nbl BK184 hg; have NB196_184 := nbr (nbl BK184 hg); have NB185_196 := nbl BK185 hg; have NB196_185 := nbr (nbl BK185 hg); replace BK184 := bkb BK184 hb; replace BK185 := bkb BK185 hb; replace HB := bst HB hb; clear hb hbox hg; have hnb79 := NB196_184.out; have hnc79 := NB184_196.out; have hnb80 := NB196_185.out; have hnc80 := NB185_196.out; obtain ⟨hcz81_0, hcz81_1, hcz81_2, hfz81_0, hfz81_1, hfz81_2⟩ := cl3 BK196; obtain ⟨hcz82_0, hcz82_1, hcz82_2, hcz82_3, hcz82_4, hcz82_5, hfz82_0, hfz82_1, hfz82_2, hfz82_3, hfz82_4, hfz82_5⟩ := cl6 BK184; obtain ⟨hcz83_0, hcz83_1, hcz83_2, hcz83_3, hcz83_4, hcz83_5, hfz83_0, hfz83_1, hfz83_2, hfz83_3, hfz83_4, hfz83_5⟩ := cl6 BK185))
              go_ret
              exact fin_ (below_later HB.out)
          · replace c64 := Bool.eq_false_iff.mpr c64
            subst c64
            replace H := ifn Bool.false_ne_true H
            obtain rfl := Option.some.inj H
            have hnb84 := NB184_185.out
            have hnc84 := NB185_184.out
            obtain ⟨hcz85_0, hcz85_1, hcz85_2, hcz85_3, hcz85_4, hcz85_5, hfz85_0, hfz85_1, hfz85_2, hfz85_3, hfz85_4, hfz85_5⟩ := cl6 BK184
            go_wp2_with (first | ((with_reducible refine gate_callee (f := 37) rfl ?_); refine gl_ (some 55) Try.func37 #[.slice A0 l0.length c0, .int .i64 a1_1] rfl ?_; (with_reducible refine (spec_LeafOf.calls kj2 _ _ l0 a1_1 t192 t193 t194 false _ ?side1 ?side2 A63.out).mono ?_); (case side1 => repeat (first | exact (Kd.C_below HR0.out HB.out) | (with_reducible refine Kd.C_alloc ?_ _) | (with_reducible refine Kd.C_drewN ?_ _) | (with_reducible refine Kd.C_drew ?_))); (case side2 => exact HC0.out); rintro e w86 ⟨rfl, hb⟩; refine ⟨_, rfl, ?_⟩; replace BK184 := bkb BK184 hb; replace BK185 := bkb BK185 hb; replace HB := bst HB hb; (try clear hb)) | ((with_reducible refine gate_dst (N := 8) rfl ?_); refine bx_ 8 #[.int .i64 0, .int .i64 0, .int .i64 0] 70 ?_; intro gb196 hg w87 hbox hb; have BK196 := Aside0.mk (hbox); have GW196 := gwe HB hg; have GE196 := GW196; have NB184_196 := nbl BK184 hg; have NB196_184 := nbr (nbl BK184 hg); have NB185_196 := nbl BK185 hg; have NB196_185 := nbr (nbl BK185 hg); replace BK184 := bkb BK184 hb; replace BK185 := bkb BK185 hb; replace HB := bst HB hb; clear hb hbox hg; have hnb88 := NB196_184.out; have hnc88 := NB184_196.out; have hnb89 := NB196_185.out; have hnc89 := NB185_196.out; obtain ⟨hcz90_0, hcz90_1, hcz90_2, hfz90_0, hfz90_1, hfz90_2⟩ := cl3 BK196; obtain ⟨hcz91_0, hcz91_1, hcz91_2, hcz91_3, hcz91_4, hcz91_5, hfz91_0, hfz91_1, hfz91_2, hfz91_3, hfz91_4, hfz91_5⟩ := cl6 BK184; obtain ⟨hcz92_0, hcz92_1, hcz92_2, hcz92_3, hcz92_4, hcz92_5, hfz92_0, hfz92_1, hfz92_2, hfz92_3, hfz92_4, hfz92_5⟩ := cl6 BK185))
            go_ret
            exact fin_ (below_later HB.out)
        · rw [if_neg c62] at H
          have c62b0 : (a1_0 == 4) = false := beq_eq_false_iff_ne.mpr c62
          have c62b1 : (a1_0 != 4) = true := bne_iff_ne.mpr c62
          have HC93 := Aside0.mk H
          clear H
          go_upto_if 72 with (fail)
          go_cut [72] (fun v72 wc => ∃ (kq : Nat) (x72_92 : Bool), v72 = .bool x72_92 ∧ Aside0 (spec_l20Plain.j1 kq a1_0 x72_92 a1_0 a1_1 a1_2 a1_3 a1_4 a1_5 a1_0 0 0 (⟨#[]⟩ : ByteArray) 0 0 = some r) ∧ Aside0 (kq ≤ kj2) ∧ Aside0 (wc.heap[gb184]? = some (.cells #[.int .i64 a1_0, .int .i64 a1_1, .int .i64 a1_2, .string a1_3, .int .i64 a1_4, .int .i64 a1_5] 61 (0, 0))) ∧ Aside0 (wc.heap[gb185]? = some (.cells #[.int .i64 a1_0, .int .i64 0, .int .i64 0, .string (⟨#[]⟩ : ByteArray), .int .i64 0, .int .i64 0] 61 (0, 0))) ∧ Aside0 (Below w.heap.size w wc))
          case first =>
            have H := HC93.out
            clear HC93
            by_cases c94 : a1_0 = 5
            · rw [if_pos c94] at H
              have c94b0 : (a1_0 == 5) = true := beq_iff_eq.mpr c94
              have c94b1 : (a1_0 != 5) = false := bne_eq_false_iff_eq.mpr c94
              clear c94
              (first | rw [c94b0] | rw [c94b1] | (simp only [i64_w, i32_w]; rw [c94b0]) | skip)
              have H' := Aside0.mk H
              clear H
              go_wp2
              go_meet
              case rel => exact ⟨_, ((a1_0 == 5)), sr, H', ⟨by have := HJ2.out; first | omega | exact Nat.le_refl _⟩, ⟨blk_later BK184.out⟩, ⟨blk_later BK185.out⟩, ⟨below_later HB.out⟩⟩
            · rw [if_neg c94] at H
              have c94b0 : (a1_0 == 5) = false := beq_eq_false_iff_ne.mpr c94
              have c94b1 : (a1_0 != 5) = true := bne_iff_ne.mpr c94
              (first | rw [c94b0] | rw [c94b1] | (simp only [i64_w, i32_w]; rw [c94b0]) | skip)
              have H' := Aside0.mk H
              clear H
              go_wp2
              go_meet
              case rel => exact ⟨_, ((a1_0 == 6)), sr, H', ⟨by have := HJ2.out; first | omega | exact Nat.le_refl _⟩, ⟨blk_later BK184.out⟩, ⟨blk_later BK185.out⟩, ⟨below_later HB.out⟩⟩
          case rest =>
            clear HC93
            try clear c12
            try clear c62
            try clear c62b0
            try clear c62b1
            try clear hcz5_0
            try clear hcz5_1
            try clear hcz5_2
            try clear hcz5_3
            try clear hcz5_4
            try clear hcz5_5
            try clear hcz8_0
            try clear hcz8_1
            try clear hcz8_2
            try clear hcz8_3
            try clear hcz8_4
            try clear hcz8_5
            try clear hcz9_0
            try clear hcz9_1
            try clear hcz9_2
            try clear hcz9_3
            try clear hcz9_4
            try clear hcz9_5
            try clear hfz5_0
            try clear hfz5_1
            try clear hfz5_2
            try clear hfz5_3
            try clear hfz5_4
            try clear hfz5_5
            try clear hfz8_0
            try clear hfz8_1
            try clear hfz8_2
            try clear hfz8_3
            try clear hfz8_4
            try clear hfz8_5
            try clear hfz9_0
            try clear hfz9_1
            try clear hfz9_2
            try clear hfz9_3
            try clear hfz9_4
            try clear hfz9_5
            obtain ⟨kq, x72_92, rfl, HA, HJ92, BK184, BK185, HB⟩ := hcut
            cases kq with
            | zero => exact absurd HA.out (by simp [spec_l20Plain.j1])
            | succ kj92 =>
              have H := HA.out
              clear HA
              simp only [spec_l20Plain.j1] at H
              by_cases c95 : x72_92 = true
              · subst c95
                replace H := ifp rfl H
                obtain rfl := Option.some.inj H
                have hnb96 := NB184_185.out
                have hnc96 := NB185_184.out
                obtain ⟨hcz97_0, hcz97_1, hcz97_2, hcz97_3, hcz97_4, hcz97_5, hfz97_0, hfz97_1, hfz97_2, hfz97_3, hfz97_4, hfz97_5⟩ := cl6 BK184
                obtain ⟨hcz98_0, hcz98_1, hcz98_2, hcz98_3, hcz98_4, hcz98_5, hfz98_0, hfz98_1, hfz98_2, hfz98_3, hfz98_4, hfz98_5⟩ := cl6 BK185
                go_wp2
                go_ret
                exact fin_ (below_later HB.out)
              · replace c95 := Bool.eq_false_iff.mpr c95
                subst c95
                replace H := ifn Bool.false_ne_true H
                by_cases c99 : a1_0 = 7
                · rw [if_pos c99] at H
                  have c99b0 : (a1_0 == 7) = true := beq_iff_eq.mpr c99
                  have c99b1 : (a1_0 != 7) = false := bne_eq_false_iff_eq.mpr c99
                  clear c99
                  obtain rfl := Option.some.inj H
                  have hnb100 := NB184_185.out
                  have hnc100 := NB185_184.out
                  obtain ⟨hcz101_0, hcz101_1, hcz101_2, hcz101_3, hcz101_4, hcz101_5, hfz101_0, hfz101_1, hfz101_2, hfz101_3, hfz101_4, hfz101_5⟩ := cl6 BK184
                  obtain ⟨hcz102_0, hcz102_1, hcz102_2, hcz102_3, hcz102_4, hcz102_5, hfz102_0, hfz102_1, hfz102_2, hfz102_3, hfz102_4, hfz102_5⟩ := cl6 BK185
                  go_wp2
                  go_ret
                  exact fin_ (below_later HB.out)
                · rw [if_neg c99] at H
                  have c99b0 : (a1_0 == 7) = false := beq_eq_false_iff_ne.mpr c99
                  have c99b1 : (a1_0 != 7) = true := bne_iff_ne.mpr c99
                  obtain rfl := Option.some.inj H
                  go_wp2
                  go_ret
                  exact fin_ (below_later HB.out)

end Go.Proofs.Ytlioghbcomdghaa.PFnExactPredMay
