/- The machine's side of FnExactStatsFrom, written by wip/tools/hyb.py of this repo: each Go function as a plain Lean function, and the proof that the call comes to just its answer. No condition. -/
import Derived.Test.YtgiljoeekpfpmaaPFnExactStatsFromx0
import Derived.Test.YtgiljoeekpfpmaaPFnExactStatsFromx2
import Derived.Test.YtgiljoeekpfpmaaPFnExactStatsFromx3
namespace Go.Proofs.Ytgiljoeekpfpmaa.PFnExactStatsFrom
open Go.RowKit Go.Proofs.YtgiljoeekpfpmaaW.PrintWords Go.Proofs.YtgiljoeekpfpmaaW.PrintLast Go.Proofs.YtgiljoeekpfpmaaW.PrintMore Go.Proofs.YtgiljoeekpfpmaaW.PrintMore2
attribute [local go_sem] max2_int min2_int max_two min_two max_three min_three max_four min_four   -- for this text's walks alone
set_option linter.unusedVariables false
set_option linter.unusedSimpArgs false

/-! ### spec_BitsRead: function 88 -/
mutual
def spec_BitsRead.j0 : Nat → List Int → Int → Int → Int → List Int → Int → Bool → Option (List Int × Int × Bool)
  | 0, _, _, _, _, _, _, _ => none
  | k + 1, x0, x1, x2, x3, x11, x12, x36 => if x36 = true then (some (x11, 0, false)) else (spec_BitsRead.l0 k x0 x1 x2 x3 x11 x12 0)
def spec_BitsRead.l0 : Nat → List Int → Int → Int → Int → List Int → Int → Int → Option (List Int × Int × Bool)
  | 0, _, _, _, _, _, _, _ => none
  | k + 1, x0, x1, x2, x3, x11, x12, x13 => if x13 < x2 then (spec_BitsRead.l1 k x0 x1 x2 x3 x11 x12 x13 0 0) else (some (x11, wrap64 (x1 + x12), true))
def spec_BitsRead.l1 : Nat → List Int → Int → Int → Int → List Int → Int → Int → Int → Int → Option (List Int × Int × Bool)
  | 0, _, _, _, _, _, _, _, _, _ => none
  | k + 1, x0, x1, x2, x3, x11, x12, x13, x14, x15 => if x15 < x3 then ((spec_l1Bit.f x0 (wrap64 ((wrap64 ((wrap64 (8 * x1)) + (wrap64 (x13 * x3)))) + x15))).bind fun t147 => (if 0 ≤ x15 then (spec_BitsRead.l1 k x0 x1 x2 x3 x11 x12 x13 (Go.bits .or .i64 x14 (shl .i64 t147 x15)) (wrap64 (x15 + 1))) else (none))) else (if x11.length < 17592186044416 then (spec_BitsRead.l0 k x0 x1 x2 x3 (x11 ++ [x14]) x12 (wrap64 (x13 + 1))) else (none))
end
def spec_BitsRead.f (k : Nat) (l0 : List Int) (a1 : Int) (a2 : Int) (a3 : Int) : Option (List Int × Int × Bool) := (some (([] : List Int) : List Int)).bind fun y142 => ((spec_BitsSize.f a2 a3).bind fun t145 => (if t145 < 0 then (spec_BitsRead.j0 k l0 a1 a2 a3 y142 t145 true) else ((spec_l1In.f a1 0 (l0.length : Int)).bind fun t146 => (if t146 = true then (spec_BitsRead.j0 k l0 a1 a2 a3 y142 t145 (decide ((wrap64 ((l0.length : Int) - a1)) < t145))) else (spec_BitsRead.j0 k l0 a1 a2 a3 y142 t145 true)))))
set_option maxHeartbeats 8000000 in
set_option maxRecDepth 100000 in
theorem spec_BitsRead.calls (k : Nat) (A0 : Option Addr) (c0 : Nat) (l0 : List Int) (a1 : Int) (a2 : Int) (a3 : Int) (r1 : List Int) (r2 : Int) (r3 : Bool) (w : World) (hr0 : Kd.C (Kd.int .u8) w A0 l0.length l0) (hc0 : l0.length ≤ c0) (h : spec_BitsRead.f k l0 a1 a2 a3 = some (r1, r2, r3)) :
    Calls Try.prog 88 #[.slice A0 l0.length c0, .int .i64 a1, .int .i64 a2, .int .i64 a3] w fun e w' => ∃ v0_ : Value, e = .returned (.tuple #[v0_, .int .i64 r2, .bool r3]) ∧ Kd.R (Kd.int .i64) 3 w' w.heap.size (fun _ => True) v0_ r1 ∧ Below w.heap.size w w' := by
  have HR0 := Aside0.mk hr0
  have HC0 := Aside0.mk hc0
  clear hr0 hc0
  have HB := Aside0.mk (Below.refl w.heap.size w)
  have H : ((some (([] : List Int) : List Int)).bind fun y142 => ((spec_BitsSize.f a2 a3).bind fun t145 => (if t145 < 0 then (spec_BitsRead.j0 k l0 a1 a2 a3 y142 t145 true) else ((spec_l1In.f a1 0 (l0.length : Int)).bind fun t146 => (if t146 = true then (spec_BitsRead.j0 k l0 a1 a2 a3 y142 t145 (decide ((wrap64 ((l0.length : Int) - a1)) < t145))) else (spec_BitsRead.j0 k l0 a1 a2 a3 y142 t145 true)))))) = some (r1, r2, r3) := h
  clear h
  replace H := bsm H
  obtain ⟨y142, Ny142, H⟩ := H
  replace H := bnd H
  obtain ⟨t145, A5, H⟩ := H
  have HC6 := Aside0.mk H
  clear H
  go_enter Try.func88, Try.ntmps88
  go_upto_region 3 with (first | ((with_reducible refine gate_dst (N := 16) rfl ?_); (try (refine gate_guard (by rfl) ?_; dsimp only)); refine Kd.R_lit (Kd.int .i64) _ 3 ?hg (N := 16) ?hd (xs := ([] : List Int)) (inner := []) (ok := fun _ => True) (okp := fun _ => True) ?hr ?hp (fun _ hk => hk) trivial (Below.refl _ _) (Nat.le_refl _) (by simp) ?_; (case hd => rfl); (case hg => rfl); (case hr => first | (go_simp; done) | (go_simp; rfl)); (case hp => exact (Reps.none _ _)); intro v143 w7 ho8 hb hg_ hnew_; clear hg_ hnew_; (first | rw [← Ny142.out] at ho8 | (simp only [Int.reduceToNat] at ho8; rw [← Ny142.out] at ho8)); have HO144 := Aside0.mk (Kd.R_lower ho8 (below_size (below_later HB.out))); replace HB := bst HB hb; clear hb ho8) | ((with_reducible refine gate_callee (f := 81) rfl ?_); refine gl_ (some 19) Try.func81 #[.int .i64 a2, .int .i64 a3] rfl ?_; (with_reducible refine (spec_BitsSize.calls a2 a3 t145 _ A5.out).mono ?_); rintro e w' ⟨rfl, ⟨nd, rfl⟩⟩; refine ⟨_, rfl, ?_⟩))
  (try simp only [Act.put, List.setIfInBounds_toArray, List.set_cons_zero, List.set_cons_succ])
  go_cut [36] (fun v36 wc => ∃ (kq : Nat) (x36_5 : Bool), v36 = .bool x36_5 ∧ Aside0 (spec_BitsRead.j0 kq l0 a1 a2 a3 y142 t145 x36_5 = some (r1, r2, r3)) ∧ Aside0 (kq ≤ k) ∧ Aside0 (Kd.R (Kd.int .i64) 3 wc w.heap.size (fun _ => True) v143 y142) ∧ Aside0 (Below w.heap.size w wc))
  case first =>
    have H := HC6.out
    clear HC6
    by_cases c9 : t145 < 0
    · rw [if_pos c9] at H
      have c9b0 := decide_eq_true c9
      clear c9
      (first | rw [c9b0] | (simp only [i64_w, i32_w]; rw [c9b0]) | skip)
      have H' := Aside0.mk H
      clear H
      go_wp2
      go_meet
      case rel => exact ⟨_, (true), sr, H', ⟨by first | omega | exact Nat.le_refl _⟩, ⟨R_later HO144.out⟩, ⟨below_later HB.out⟩⟩
    · rw [if_neg c9] at H
      have c9b0 := decide_eq_false c9
      clear c9
      (first | rw [c9b0] | (simp only [i64_w, i32_w]; rw [c9b0]) | skip)
      replace H := bnd H
      obtain ⟨t146, A10, H⟩ := H
      by_cases c11 : t146 = true
      · subst c11
        replace H := ifp rfl H
        have H' := Aside0.mk H
        clear H
        go_wp2_with (first | (go_at_call 24; (with_reducible refine (spec_l1In.calls a1 0 (l0.length : Int) true _ A10.out).mono ?_); rintro e w' ⟨rfl, ⟨nd, rfl⟩⟩))
        go_meet
        case rel => exact ⟨_, (decide ((wrap64 ((l0.length : Int) - a1)) < t145)), sr, H', ⟨by first | omega | exact Nat.le_refl _⟩, ⟨R_later HO144.out⟩, ⟨below_later HB.out⟩⟩
      · replace c11 := Bool.eq_false_iff.mpr c11
        subst c11
        replace H := ifn Bool.false_ne_true H
        have H' := Aside0.mk H
        clear H
        go_wp2_with (first | (go_at_call 24; (with_reducible refine (spec_l1In.calls a1 0 (l0.length : Int) false _ A10.out).mono ?_); rintro e w' ⟨rfl, ⟨nd, rfl⟩⟩))
        go_meet
        case rel => exact ⟨_, (true), sr, H', ⟨by first | omega | exact Nat.le_refl _⟩, ⟨R_later HO144.out⟩, ⟨below_later HB.out⟩⟩
  case rest =>
    clear HC6
    obtain ⟨kq, x36_5, rfl, HA, HJ5, HO_11, HB⟩ := hcut
    cases kq with
    | zero => exact absurd HA.out (by simp [spec_BitsRead.j0])
    | succ kj5 =>
      have H := HA.out
      clear HA
      simp only [spec_BitsRead.j0] at H
      by_cases c12 : x36_5 = true
      · subst c12
        replace H := ifp rfl H
        simp only [Option.some.injEq, Prod.mk.injEq] at H
        obtain ⟨rfl, rfl, rfl⟩ := H
        go_wp2
        go_ret3
        exact ⟨_, by first | rfl | (simp [errW_none, errW_some] <;> rfl) | (simp [*, errW_none, errW_some] <;> rfl), by (with_reducible repeat (first | apply Kd.R_alloc | apply Kd.R_drewN | apply Kd.R_drew)); exact HO_11.out, below_later HB.out⟩
      · replace c12 := Bool.eq_false_iff.mpr c12
        subst c12
        replace H := ifn Bool.false_ne_true H
        have H' := Aside0.mk H
        clear H
        go_wp2
        go_loopg [11, 13] kj5 (fun kq v11 v13 w' => ∃ (x11_2 : List Int) (x13_2 : Int), v13 = .int .i64 x13_2 ∧ Aside0 (spec_BitsRead.l0 kq l0 a1 a2 a3 x11_2 t145 x13_2 = some (r1, r2, r3)) ∧ Aside0 (kq ≤ kj5) ∧ Aside0 (Kd.R (Kd.int .i64) 3 w' w.heap.size (fun _ => True) v11 x11_2) ∧ Aside0 (Below w.heap.size w w'))
        case atStart => exact ⟨(y142), (0), sr, H', ⟨Nat.le_refl _⟩, ⟨R_later HO_11.out⟩, ⟨below_later HB.out⟩⟩
        case round =>
          clear H'
          try clear c12
          obtain ⟨x11_2, x13_2, rfl, HA, HK2, HO_11, HB⟩ := hrel
          cases gk with
          | zero => exact absurd HA.out (by simp [spec_BitsRead.l0])
          | succ k2 =>
            have H := HA.out
            clear HA
            simp only [spec_BitsRead.l0] at H
            by_cases c13 : x13_2 < a2
            · rw [if_pos c13] at H
              have c13b0 := decide_eq_true c13
              clear c13
              have H' := Aside0.mk H
              clear H
              go_wp2
              go_loopg [14, 15] k2 (fun kq v14 v15 w' => ∃ (x14_3 : Int) (x15_3 : Int), v14 = .int .i64 x14_3 ∧ v15 = .int .i64 x15_3 ∧ Aside0 (spec_BitsRead.l1 kq l0 a1 a2 a3 x11_2 t145 x13_2 x14_3 x15_3 = some (r1, r2, r3)) ∧ Aside0 (kq ≤ k2) ∧ Aside0 (Kd.R (Kd.int .i64) 3 w' w.heap.size (fun _ => True) u11 x11_2) ∧ Aside0 (Below w.heap.size w w'))
              case atStart => exact ⟨(0), (0), sr, sr, H', ⟨Nat.le_refl _⟩, ⟨R_later HO_11.out⟩, ⟨below_later HB.out⟩⟩
              case round =>
                clear H'
                try clear c12
                try clear c13
                try clear c13b0
                obtain ⟨x14_3, x15_3, rfl, rfl, HA, HK3, HO_11, HB⟩ := hrel
                cases gk with
                | zero => exact absurd HA.out (by simp [spec_BitsRead.l1])
                | succ k3 =>
                  have H := HA.out
                  clear HA
                  simp only [spec_BitsRead.l1] at H
                  by_cases c14 : x15_3 < a3
                  · rw [if_pos c14] at H
                    have c14b0 := decide_eq_true c14
                    clear c14
                    replace H := bnd H
                    obtain ⟨t147, A15, H⟩ := H
                    replace H := ifs H
                    obtain ⟨c16, H⟩ := H
                    have c16b0 := eq_true c16
                    have c16b1 := decide_eq_true c16
                    clear c16
                    obtain ⟨ji17, hji17⟩ : ∃ j_ : Int, (shl .i64 t147 x15_3) = j_ := ⟨_, rfl⟩
                    replace H : (spec_BitsRead.l1 k3 l0 a1 a2 a3 x11_2 t145 x13_2 (Go.bits .or .i64 x14_3 (ji17)) (wrap64 (x15_3 + 1))) = some (r1, r2, r3) := by first | (rw [hji17] at H; exact H) | (simp only [hji17] at H ⊢; exact H)
                    (try rw [hji17] at A15)
                    have hji17_ : (IntKind.i64.wrap (t147 * 2 ^ min x15_3.toNat 64)) = ji17 := hji17
                    have hji17z : x15_3 ≤ 64 → (IntKind.i64.wrap (t147 * 2 ^ x15_3.toNat)) = ji17 := shl_small hji17
                    have hji17y : (wrap64 (t147 * 2 ^ min x15_3.toNat 64)) = ji17 := (i64_w _).symm.trans hji17_
                    have hji17x : x15_3 ≤ 64 → (wrap64 (t147 * 2 ^ x15_3.toNat)) = ji17 := fun h_ => (i64_w _).symm.trans (hji17z h_)
                    have H' := Aside0.mk H
                    clear H
                    go_wp2_with (first | ((with_reducible refine gate_callee (f := 104) rfl ?_); refine gl_ (some 58) Try.func104 #[.slice A0 l0.length c0, .int .i64 (wrap64 ((wrap64 ((wrap64 (8 * a1)) + (wrap64 (x13_2 * a3)))) + x15_3))] rfl ?_; (with_reducible refine (spec_l1Bit.calls _ _ l0 (wrap64 ((wrap64 ((wrap64 (8 * a1)) + (wrap64 (x13_2 * a3)))) + x15_3)) t147 _ ?side1 ?side2 A15.out).mono ?_); (case side1 => repeat (first | exact (Kd.C_below HR0.out HB.out) | (with_reducible refine Kd.C_alloc ?_ _) | (with_reducible refine Kd.C_drewN ?_ _) | (with_reducible refine Kd.C_drew ?_))); (case side2 => exact HC0.out); rintro e w' ⟨rfl, ⟨nd, rfl⟩⟩; refine ⟨_, rfl, ?_⟩))
                    go_roundg k3
                    case measure => have := HJ5.out; have := HK2.out; have := HK3.out; omega
                    case rel => exact ⟨(Go.bits .or .i64 x14_3 (ji17)), (wrap64 (x15_3 + 1)), (by first | rfl | (simp; done) | (simp only [← hji17] <;> (first | rfl | simp)) | (simp [*]; done)), sr, H', ⟨by have := HJ5.out; have := HK2.out; have := HK3.out; omega⟩, ⟨R_later HO_11.out⟩, ⟨below_later HB.out⟩⟩
                  · rw [if_neg c14] at H
                    have c14b0 := decide_eq_false c14
                    clear c14
                    replace H := ifs H
                    obtain ⟨c18, H⟩ := H
                    have LMc18 := Aside0.mk c18
                    clear c18
                    obtain ⟨y148, hy148⟩ : ∃ y_ : List Int, y_ = (x11_2 ++ [x14_3]) := ⟨_, rfl⟩
                    replace H : (spec_BitsRead.l0 k3 l0 a1 a2 a3 y148 t145 (wrap64 (x13_2 + 1))) = some (r1, r2, r3) := by first | (rw [hy148]; with_reducible exact H) | (rw [hy148]; exact H) | exact H
                    have Ny148 := Aside0.mk hy148
                    clear hy148
                    have H' := Aside0.mk H
                    clear H
                    go_wp2_with (first | ((with_reducible refine gate_builtin (b := .append) (xs := #[.tmp 62, .tmp 64]) rfl ?_); (try (refine gate_guard (by rfl) ?_; dsimp only)); at_builtin; refine Kd.R_append (Kd.int .i64) (w0 := w) w.heap.size rfl (.tmp 62) (.tmp 64) 83 3 (.int .i64 0) 8 rfl Try.underlying83 info3 rfl (by decide) (by omega) u11 x11_2 x14_3 [.int .i64 x14_3] (fun _ => True) (fun _ => False) rfl rfl ?aP (fun _ hk => hk.elim) ?aF ?aO ?aB ?aS ?aL ?_; (case aP => exact rfl); (case aB => exact (below_later HB.out)); (case aF => exact (fun _ _ => trivial)); (case aO => exact (R_later HO_11.out)); (case aS => exact (below_size (below_later HB.out))); (case aL => have := LMc18.out; omega); intro v149 w19 ho hb hg hat; rw [← Ny148.out] at ho; have n0_ := Aside0.mk (hb); have n1_ := Aside0.mk (ho); clear HB; clear HO_11; have HB := n0_; have HO150 := n1_; clear n0_ n1_; clear ho hb hg hat))
                    go_roundg k3
                    case measure => have := HJ5.out; have := HK2.out; have := HK3.out; omega
                    case rel => exact ⟨(y148), (wrap64 (x13_2 + 1)), sr, H', ⟨by have := HJ5.out; have := HK2.out; have := HK3.out; omega⟩, ⟨R_later HO150.out⟩, ⟨below_later HB.out⟩⟩
            · rw [if_neg c13] at H
              have c13b0 := decide_eq_false c13
              clear c13
              simp only [Option.some.injEq, Prod.mk.injEq] at H
              obtain ⟨rfl, rfl, rfl⟩ := H
              go_wp2
              go_ret3
              exact ⟨_, by first | rfl | (simp [errW_none, errW_some] <;> rfl) | (simp [*, errW_none, errW_some] <;> rfl), by (with_reducible repeat (first | apply Kd.R_alloc | apply Kd.R_drewN | apply Kd.R_drew)); exact HO_11.out, below_later HB.out⟩

/-! ### spec_WordGet: function 105 -/
mutual
def spec_WordGet.j0 : Nat → List Int → Int → Int → Bool → Option (Int × Int × Bool)
  | 0, _, _, _, _ => none
  | k + 1, x0, x1, x2, x31 => if x31 = true then (some (0, 0, false)) else (spec_WordGet.l0 k x0 x1 x2 0 0)
def spec_WordGet.l0 : Nat → List Int → Int → Int → Int → Int → Option (Int × Int × Bool)
  | 0, _, _, _, _, _ => none
  | k + 1, x0, x1, x2, x9, x10 => if x10 < x2 then (if 0 ≤ (wrap64 (x1 + x10)) then (if (wrap64 (x1 + x10)) < (x0.length : Int) then (if 0 ≤ (wrap64 (8 * x10)) then (spec_WordGet.l0 k x0 x1 x2 (Go.bits .or .i64 x9 (shl .i64 (wrap64 (rd x0 (wrap64 (x1 + x10)))) (wrap64 (8 * x10)))) (wrap64 (x10 + 1))) else (none)) else (none)) else (none)) else (some (x9, wrap64 (x1 + x2), true))
end
def spec_WordGet.f (k : Nat) (l0 : List Int) (a1 : Int) (a2 : Int) : Option (Int × Int × Bool) := (spec_l1In.f a2 1 8).bind fun t151 => (if t151 = true then (if a1 < 0 then (spec_WordGet.j0 k l0 a1 a2 true) else (if a1 > (l0.length : Int) then (spec_WordGet.j0 k l0 a1 a2 true) else (spec_WordGet.j0 k l0 a1 a2 (decide ((wrap64 ((l0.length : Int) - a1)) < a2))))) else (spec_WordGet.j0 k l0 a1 a2 true))
set_option maxHeartbeats 8000000 in
set_option maxRecDepth 100000 in
theorem spec_WordGet.calls (k : Nat) (A0 : Option Addr) (c0 : Nat) (l0 : List Int) (a1 : Int) (a2 : Int) (r1 : Int) (r2 : Int) (r3 : Bool) (w : World) (hr0 : Kd.C (Kd.int .u8) w A0 l0.length l0) (hc0 : l0.length ≤ c0) (h : spec_WordGet.f k l0 a1 a2 = some (r1, r2, r3)) :
    Calls Try.prog 105 #[.slice A0 l0.length c0, .int .i64 a1, .int .i64 a2] w fun e w' => e = .returned (.tuple #[.int .i64 r1, .int .i64 r2, .bool r3]) ∧ Drawn0 w w' := by
  have HR0 := Aside0.mk hr0
  have HC0 := Aside0.mk hc0
  clear hr0 hc0
  have H : ((spec_l1In.f a2 1 8).bind fun t151 => (if t151 = true then (if a1 < 0 then (spec_WordGet.j0 k l0 a1 a2 true) else (if a1 > (l0.length : Int) then (spec_WordGet.j0 k l0 a1 a2 true) else (spec_WordGet.j0 k l0 a1 a2 (decide ((wrap64 ((l0.length : Int) - a1)) < a2))))) else (spec_WordGet.j0 k l0 a1 a2 true))) = some (r1, r2, r3) := h
  clear h
  have HC4 := Aside0.mk H
  clear H
  go_enter Try.func105, Try.ntmps105
  go_upto_region 1 with (fail)
  go_cut [31] (fun v31 wc => ∃ (kq : Nat) (x31_3 : Bool), v31 = .bool x31_3 ∧ Aside0 (spec_WordGet.j0 kq l0 a1 a2 x31_3 = some (r1, r2, r3)) ∧ Aside0 (kq ≤ k) ∧ Drawn0 w wc)
  case first =>
    have H := HC4.out
    clear HC4
    replace H := bnd H
    obtain ⟨t151, A5, H⟩ := H
    by_cases c6 : t151 = true
    · subst c6
      replace H := ifp rfl H
      by_cases c7 : a1 < 0
      · rw [if_pos c7] at H
        have c7b0 := decide_eq_true c7
        clear c7
        (first | rw [c7b0] | (simp only [i64_w, i32_w]; rw [c7b0]) | skip)
        have H' := Aside0.mk H
        clear H
        go_wp2_with (first | ((with_reducible refine gate_callee (f := 24) rfl ?_); refine gl_ (some 12) Try.func24 #[.int .i64 a2, .int .i64 1, .int .i64 8] rfl ?_; (with_reducible refine (spec_l1In.calls a2 1 8 true _ A5.out).mono ?_); rintro e w' ⟨rfl, ⟨nd, rfl⟩⟩; refine ⟨_, rfl, ?_⟩))
        go_meet
        case rel => exact ⟨_, (true), sr, H', ⟨by first | omega | exact Nat.le_refl _⟩, by repeat (first | exact Drawn0.refl _ | apply Drawn0.step)⟩
      · rw [if_neg c7] at H
        have c7b0 := decide_eq_false c7
        clear c7
        (first | rw [c7b0] | (simp only [i64_w, i32_w]; rw [c7b0]) | skip)
        by_cases c8 : a1 > (l0.length : Int)
        · rw [if_pos c8] at H
          have c8b0 : decide ((l0.length : Int) < a1) = true := decide_eq_true c8
          clear c8
          have H' := Aside0.mk H
          clear H
          go_wp2_with (first | ((with_reducible refine gate_callee (f := 24) rfl ?_); refine gl_ (some 12) Try.func24 #[.int .i64 a2, .int .i64 1, .int .i64 8] rfl ?_; (with_reducible refine (spec_l1In.calls a2 1 8 true _ A5.out).mono ?_); rintro e w' ⟨rfl, ⟨nd, rfl⟩⟩; refine ⟨_, rfl, ?_⟩))
          go_meet
          case rel => exact ⟨_, (true), sr, H', ⟨by first | omega | exact Nat.le_refl _⟩, by repeat (first | exact Drawn0.refl _ | apply Drawn0.step)⟩
        · rw [if_neg c8] at H
          have c8b0 : decide ((l0.length : Int) < a1) = false := decide_eq_false c8
          clear c8
          have H' := Aside0.mk H
          clear H
          go_wp2_with (first | ((with_reducible refine gate_callee (f := 24) rfl ?_); refine gl_ (some 12) Try.func24 #[.int .i64 a2, .int .i64 1, .int .i64 8] rfl ?_; (with_reducible refine (spec_l1In.calls a2 1 8 true _ A5.out).mono ?_); rintro e w' ⟨rfl, ⟨nd, rfl⟩⟩; refine ⟨_, rfl, ?_⟩))
          go_meet
          case rel => exact ⟨_, (decide ((wrap64 ((l0.length : Int) - a1)) < a2)), sr, H', ⟨by first | omega | exact Nat.le_refl _⟩, by repeat (first | exact Drawn0.refl _ | apply Drawn0.step)⟩
    · replace c6 := Bool.eq_false_iff.mpr c6
      subst c6
      replace H := ifn Bool.false_ne_true H
      have H' := Aside0.mk H
      clear H
      go_wp2_with (first | ((with_reducible refine gate_callee (f := 24) rfl ?_); refine gl_ (some 12) Try.func24 #[.int .i64 a2, .int .i64 1, .int .i64 8] rfl ?_; (with_reducible refine (spec_l1In.calls a2 1 8 false _ A5.out).mono ?_); rintro e w' ⟨rfl, ⟨nd, rfl⟩⟩; refine ⟨_, rfl, ?_⟩))
      go_meet
      case rel => exact ⟨_, (true), sr, H', ⟨by first | omega | exact Nat.le_refl _⟩, by repeat (first | exact Drawn0.refl _ | apply Drawn0.step)⟩
  case rest =>
    clear HC4
    obtain ⟨kq, x31_3, rfl, HA, HJ3, ⟨mc3, rfl⟩⟩ := hcut
    cases kq with
    | zero => exact absurd HA.out (by simp [spec_WordGet.j0])
    | succ kj3 =>
      have H := HA.out
      clear HA
      simp only [spec_WordGet.j0] at H
      by_cases c9 : x31_3 = true
      · subst c9
        replace H := ifp rfl H
        simp only [Option.some.injEq, Prod.mk.injEq] at H
        obtain ⟨rfl, rfl, rfl⟩ := H
        go_wp2
        go_ret3
        exact ⟨by first | rfl | (simp; done) | (simp [*]; done), by repeat (first | exact Drawn0.refl _ | apply Drawn0.step)⟩
      · replace c9 := Bool.eq_false_iff.mpr c9
        subst c9
        replace H := ifn Bool.false_ne_true H
        have H' := Aside0.mk H
        clear H
        go_wp2
        go_loopg [9, 10] kj3 (fun kq v9 v10 w' => ∃ (x9_2 : Int) (x10_2 : Int), v9 = .int .i64 x9_2 ∧ v10 = .int .i64 x10_2 ∧ Aside0 (spec_WordGet.l0 kq l0 a1 a2 x9_2 x10_2 = some (r1, r2, r3)) ∧ Aside0 (kq ≤ kj3) ∧ Drawn0 w w')
        case atStart => exact ⟨(0), (0), sr, sr, H', ⟨Nat.le_refl _⟩, by repeat (first | exact Drawn0.refl _ | apply Drawn0.step)⟩
        case round =>
          clear H'
          try clear c9
          obtain ⟨x9_2, x10_2, rfl, rfl, HA, HK2, ⟨m2, rfl⟩⟩ := hrel
          cases gk with
          | zero => exact absurd HA.out (by simp [spec_WordGet.l0])
          | succ k2 =>
            have H := HA.out
            clear HA
            simp only [spec_WordGet.l0] at H
            by_cases c10 : x10_2 < a2
            · rw [if_pos c10] at H
              have c10b0 := decide_eq_true c10
              clear c10
              obtain ⟨ji11, hji11⟩ : ∃ j_ : Int, (wrap64 (a1 + x10_2)) = j_ := ⟨_, rfl⟩
              replace H : (if 0 ≤ (ji11) then (if (ji11) < (l0.length : Int) then (if 0 ≤ (wrap64 (8 * x10_2)) then (spec_WordGet.l0 k2 l0 a1 a2 (Go.bits .or .i64 x9_2 (shl .i64 (wrap64 (rd l0 (ji11))) (wrap64 (8 * x10_2)))) (wrap64 (x10_2 + 1))) else (none)) else (none)) else (none)) = some (r1, r2, r3) := by first | (rw [hji11] at H; exact H) | (simp only [hji11] at H ⊢; exact H)
              have hji11w : (IntKind.i64.wrap (a1 + x10_2)) = ji11 := (i64_w _).trans hji11
              replace H := ifd H
              obtain ⟨c12b0, H⟩ := H
              replace H := ifd H
              obtain ⟨c13b0, H⟩ := H
              obtain ⟨ji14, hji14⟩ : ∃ j_ : Int, (wrap64 (8 * x10_2)) = j_ := ⟨_, rfl⟩
              replace H : (if 0 ≤ (ji14) then (spec_WordGet.l0 k2 l0 a1 a2 (Go.bits .or .i64 x9_2 (shl .i64 (wrap64 (rd l0 (ji11))) (ji14))) (wrap64 (x10_2 + 1))) else (none)) = some (r1, r2, r3) := by first | (rw [hji14] at H; exact H) | (simp only [hji14] at H ⊢; exact H)
              have hji14w : (IntKind.i64.wrap (8 * x10_2)) = ji14 := (i64_w _).trans hji14
              replace H := ifs H
              obtain ⟨c15, H⟩ := H
              have c15b0 := eq_true c15
              have c15b1 := decide_eq_true c15
              clear c15
              obtain ⟨ji16, hji16⟩ : ∃ j_ : Int, (shl .i64 (wrap64 (rd l0 (ji11))) (ji14)) = j_ := ⟨_, rfl⟩
              replace H : (spec_WordGet.l0 k2 l0 a1 a2 (Go.bits .or .i64 x9_2 (ji16)) (wrap64 (x10_2 + 1))) = some (r1, r2, r3) := by first | (rw [hji16] at H; exact H) | (simp only [hji16] at H ⊢; exact H)
              have hji16_ : (IntKind.i64.wrap ((wrap64 (rd l0 (ji11))) * 2 ^ min (ji14).toNat 64)) = ji16 := hji16
              have hji16z : (ji14) ≤ 64 → (IntKind.i64.wrap ((wrap64 (rd l0 (ji11))) * 2 ^ (ji14).toNat)) = ji16 := shl_small hji16
              have hji16y : (wrap64 ((wrap64 (rd l0 (ji11))) * 2 ^ min (ji14).toNat 64)) = ji16 := (i64_w _).symm.trans hji16_
              have hji16x : (ji14) ≤ 64 → (wrap64 ((wrap64 (rd l0 (ji11))) * 2 ^ (ji14).toNat)) = ji16 := fun h_ => (i64_w _).symm.trans (hji16z h_)
              have H' := Aside0.mk H
              clear H
              have p152 : 0 ≤ ((ji11) : Int) := dcd
              have q152 : (ji11) < (l0.length : Int) := dcd
              obtain ⟨ad152, e152, hx152_0⟩ := Kd.at_int HR0.out (ji11) p152 q152
              cases e152
              replace p152 := eq_true p152
              replace q152 := eq_true q152
              go_wp2
              go_roundg k2
              case measure => have := HJ3.out; have := HK2.out; omega
              case rel => exact ⟨(Go.bits .or .i64 x9_2 (ji16)), (wrap64 (x10_2 + 1)), (by first | rfl | (simp; done) | (simp only [← hji16] <;> (first | rfl | simp)) | (simp [*]; done)), sr, H', ⟨by have := HJ3.out; have := HK2.out; omega⟩, by repeat (first | exact Drawn0.refl _ | apply Drawn0.step)⟩
            · rw [if_neg c10] at H
              have c10b0 := decide_eq_false c10
              clear c10
              simp only [Option.some.injEq, Prod.mk.injEq] at H
              obtain ⟨rfl, rfl, rfl⟩ := H
              go_wp2
              go_ret3
              exact ⟨by first | rfl | (simp; done) | (simp [*]; done), by repeat (first | exact Drawn0.refl _ | apply Drawn0.step)⟩

/-! ### spec_l7One: function 89 -/
theorem spec_l7One.cutC {w : World} {A : Option Addr} {l : List Int} {i j : Int} (h : j ≤ (l.length : Int)) (hC : (Kd.int .u8).C w A ((l.take j.toNat).drop i.toNat).length ((l.take j.toNat).drop i.toNat)) : (Kd.int .u8).C w A (j.toNat - i.toNat) ((l.take j.toNat).drop i.toNat) := by
  rw [List.length_drop, List.length_take, Nat.min_eq_left (Int.toNat_le.mpr h)] at hC
  exact hC
def spec_l7One.f (k : Nat) (a0 : Int) (l1 : List Int) (a2 : Int) : Option (Int × ByteArray × Int × Bool) := if a0 = 1 then ((spec_WordGet.f k l1 a2 4).bind fun bt154 => (if bt154.1 > 2147483647 then (some (wrap64 (bt154.1 - 4294967296), (⟨#[]⟩ : ByteArray), bt154.2.1, bt154.2.2)) else (some (bt154.1, (⟨#[]⟩ : ByteArray), bt154.2.1, bt154.2.2)))) else (if a0 = 6 then ((spec_WordGet.f k l1 a2 4).bind fun bt157 => (if bt157.2.2 = true then (if bt157.1 > 40 then (some (0, (⟨#[]⟩ : ByteArray), 0, false)) else (if bt157.1 > (wrap64 ((l1.length : Int) - bt157.2.1)) then (some (0, (⟨#[]⟩ : ByteArray), 0, false)) else (if 0 ≤ bt157.2.1 then (if bt157.2.1 ≤ (wrap64 (bt157.2.1 + bt157.1)) then (if (wrap64 (bt157.2.1 + bt157.1)) ≤ (l1.length : Int) then (some (0, strOfNums ((l1.take ((wrap64 (bt157.2.1 + bt157.1)) : Int).toNat).drop (bt157.2.1 : Int).toNat), wrap64 (bt157.2.1 + bt157.1), true)) else (none)) else (none)) else (none)))) else (some (0, (⟨#[]⟩ : ByteArray), 0, false)))) else ((spec_WordGet.f k l1 a2 8).bind fun bt161 => (some (bt161.1, (⟨#[]⟩ : ByteArray), bt161.2.1, bt161.2.2))))
set_option maxHeartbeats 8000000 in
set_option maxRecDepth 100000 in
theorem spec_l7One.calls (k : Nat) (a0 : Int) (A1 : Option Addr) (c1 : Nat) (l1 : List Int) (a2 : Int) (r1 : Int) (r2 : ByteArray) (r3 : Int) (r4 : Bool) (w : World) (hr1 : Kd.C (Kd.int .u8) w A1 l1.length l1) (hc1 : l1.length ≤ c1) (h : spec_l7One.f k a0 l1 a2 = some (r1, r2, r3, r4)) :
    Calls Try.prog 89 #[.int .i64 a0, .slice A1 l1.length c1, .int .i64 a2] w fun e w' => e = .returned (.tuple #[.agg #[.int .i64 r1, .string r2], .int .i64 r3, .bool r4]) ∧ Below w.heap.size w w' := by
  have hu27 := Try.underlying27
  have HR1 := Aside0.mk hr1
  have HC1 := Aside0.mk hc1
  clear hr1 hc1
  have HB := Aside0.mk (Below.refl w.heap.size w)
  have H : (if a0 = 1 then ((spec_WordGet.f k l1 a2 4).bind fun bt154 => (if bt154.1 > 2147483647 then (some (wrap64 (bt154.1 - 4294967296), (⟨#[]⟩ : ByteArray), bt154.2.1, bt154.2.2)) else (some (bt154.1, (⟨#[]⟩ : ByteArray), bt154.2.1, bt154.2.2)))) else (if a0 = 6 then ((spec_WordGet.f k l1 a2 4).bind fun bt157 => (if bt157.2.2 = true then (if bt157.1 > 40 then (some (0, (⟨#[]⟩ : ByteArray), 0, false)) else (if bt157.1 > (wrap64 ((l1.length : Int) - bt157.2.1)) then (some (0, (⟨#[]⟩ : ByteArray), 0, false)) else (if 0 ≤ bt157.2.1 then (if bt157.2.1 ≤ (wrap64 (bt157.2.1 + bt157.1)) then (if (wrap64 (bt157.2.1 + bt157.1)) ≤ (l1.length : Int) then (some (0, strOfNums ((l1.take ((wrap64 (bt157.2.1 + bt157.1)) : Int).toNat).drop (bt157.2.1 : Int).toNat), wrap64 (bt157.2.1 + bt157.1), true)) else (none)) else (none)) else (none)))) else (some (0, (⟨#[]⟩ : ByteArray), 0, false)))) else ((spec_WordGet.f k l1 a2 8).bind fun bt161 => (some (bt161.1, (⟨#[]⟩ : ByteArray), bt161.2.1, bt161.2.2))))) = some (r1, r2, r3, r4) := h
  clear h
  by_cases c4 : a0 = 1
  · rw [if_pos c4] at H
    have c4b0 : (a0 == 1) = true := beq_iff_eq.mpr c4
    have c4b1 : (a0 != 1) = false := bne_eq_false_iff_eq.mpr c4
    clear c4
    replace H := Option.bind_eq_some_iff.mp H
    obtain ⟨⟨t154, t155, t156⟩, A50, H⟩ := H
    replace H : (if t154 > 2147483647 then (some (wrap64 (t154 - 4294967296), (⟨#[]⟩ : ByteArray), t155, t156)) else (some (t154, (⟨#[]⟩ : ByteArray), t155, t156))) = some (r1, r2, r3, r4) := H
    have A5 := Aside0.mk A50
    clear A50
    by_cases c6 : t154 > 2147483647
    · rw [if_pos c6] at H
      have c6b0 : decide (2147483647 < t154) = true := decide_eq_true c6
      clear c6
      simp only [Option.some.injEq, Prod.mk.injEq] at H
      obtain ⟨rfl, rfl, rfl, rfl⟩ := H
      go_enter Try.func89, Try.ntmps89
      go_wp2_with (first | ((with_reducible refine gate_dst (N := 6) rfl ?_); (try (refine gate_guard (by rfl) ?_; dsimp only)); refine bx_ 6 #[.int .i64 0, .string (⟨#[]⟩ : ByteArray)] 27 ?_; intro gb153 hg w7 hbox hb; have BK153 := Aside0.mk (hbox); have GW153 := gwe HB hg; have GE153 := GW153; replace HB := bst HB hb; clear hb hbox hg) | ((with_reducible refine gate_callee (f := 105) rfl ?_); refine gl_ (some 24) Try.func105 #[.slice A1 l1.length c1, .int .i64 a2, .int .i64 4] rfl ?_; (with_reducible refine (spec_WordGet.calls k _ _ l1 a2 4 t154 t155 t156 _ ?side1 ?side2 A5.out).mono ?_); (case side1 => repeat (first | exact (Kd.C_below HR1.out HB.out) | (with_reducible refine Kd.C_alloc ?_ _) | (with_reducible refine Kd.C_drewN ?_ _) | (with_reducible refine Kd.C_drew ?_))); (case side2 => exact HC1.out); rintro e w' ⟨rfl, ⟨nd, rfl⟩⟩; refine ⟨_, rfl, ?_⟩; (try (rw [drewN_self w7]; generalize hq_ : World.drewN w7 _ = w7; have n0_ : Aside0 (w7.heap[gb153]? = some (.cells #[.int .i64 0, .string (⟨#[]⟩ : ByteArray)] 27 (0, 0))) := ⟨by rw [← hq_]; exact (blk_later BK153.out)⟩; have n1_ : Aside0 (Below w.heap.size w w7) := ⟨by rw [← hq_]; exact (below_later HB.out)⟩; clear BK153 HB hq_; have BK153 := n0_; have HB := n1_; clear n0_ n1_)); obtain ⟨hcz8_0, hcz8_1, hfz8_0, hfz8_1⟩ := cl2 BK153))
      refine bodyPost_ret (results_ctt rfl _ _ gb153 27 #[.int .i64 (wrap64 (t154 - 4294967296)), .string (⟨#[]⟩ : ByteArray)] (0, 0) _ rfl (by (with_reducible repeat (first | refine blk_drewN ?_ _ | refine blk_drew ?_ | refine blk_alloc ?_ _)); refine blk_put (cs := #[.int .i64 (wrap64 (t154 - 4294967296)), .string (⟨#[]⟩ : ByteArray)]) ?_ 1 _ rfl; (with_reducible repeat (first | refine blk_drewN ?_ _ | refine blk_drew ?_ | refine blk_alloc ?_ _)); refine blk_put (cs := #[.int .i64 0, .string (⟨#[]⟩ : ByteArray)]) ?_ 0 _ rfl; (with_reducible repeat (first | refine blk_drewN ?_ _ | refine blk_drew ?_ | refine blk_alloc ?_ _)); exact BK153.out) Try.underlying27 rfl (by kernel_rfl)) rfl ?_
      exact fin_ (below_later HB.out)
    · rw [if_neg c6] at H
      have c6b0 : decide (2147483647 < t154) = false := decide_eq_false c6
      clear c6
      simp only [Option.some.injEq, Prod.mk.injEq] at H
      obtain ⟨rfl, rfl, rfl, rfl⟩ := H
      go_enter Try.func89, Try.ntmps89
      go_wp2_with (first | ((with_reducible refine gate_dst (N := 6) rfl ?_); (try (refine gate_guard (by rfl) ?_; dsimp only)); refine bx_ 6 #[.int .i64 0, .string (⟨#[]⟩ : ByteArray)] 27 ?_; intro gb153 hg w9 hbox hb; have BK153 := Aside0.mk (hbox); have GW153 := gwe HB hg; have GE153 := GW153; replace HB := bst HB hb; clear hb hbox hg) | ((with_reducible refine gate_callee (f := 105) rfl ?_); refine gl_ (some 24) Try.func105 #[.slice A1 l1.length c1, .int .i64 a2, .int .i64 4] rfl ?_; (with_reducible refine (spec_WordGet.calls k _ _ l1 a2 4 t154 t155 t156 _ ?side1 ?side2 A5.out).mono ?_); (case side1 => repeat (first | exact (Kd.C_below HR1.out HB.out) | (with_reducible refine Kd.C_alloc ?_ _) | (with_reducible refine Kd.C_drewN ?_ _) | (with_reducible refine Kd.C_drew ?_))); (case side2 => exact HC1.out); rintro e w' ⟨rfl, ⟨nd, rfl⟩⟩; refine ⟨_, rfl, ?_⟩; (try (rw [drewN_self w9]; generalize hq_ : World.drewN w9 _ = w9; have n0_ : Aside0 (w9.heap[gb153]? = some (.cells #[.int .i64 0, .string (⟨#[]⟩ : ByteArray)] 27 (0, 0))) := ⟨by rw [← hq_]; exact (blk_later BK153.out)⟩; have n1_ : Aside0 (Below w.heap.size w w9) := ⟨by rw [← hq_]; exact (below_later HB.out)⟩; clear BK153 HB hq_; have BK153 := n0_; have HB := n1_; clear n0_ n1_)); obtain ⟨hcz10_0, hcz10_1, hfz10_0, hfz10_1⟩ := cl2 BK153))
      refine bodyPost_ret (results_ctt rfl _ _ gb153 27 #[.int .i64 t154, .string (⟨#[]⟩ : ByteArray)] (0, 0) _ rfl (by (with_reducible repeat (first | refine blk_drewN ?_ _ | refine blk_drew ?_ | refine blk_alloc ?_ _)); refine blk_put (cs := #[.int .i64 t154, .string (⟨#[]⟩ : ByteArray)]) ?_ 1 _ rfl; (with_reducible repeat (first | refine blk_drewN ?_ _ | refine blk_drew ?_ | refine blk_alloc ?_ _)); refine blk_put (cs := #[.int .i64 0, .string (⟨#[]⟩ : ByteArray)]) ?_ 0 _ rfl; (with_reducible repeat (first | refine blk_drewN ?_ _ | refine blk_drew ?_ | refine blk_alloc ?_ _)); exact BK153.out) Try.underlying27 rfl (by kernel_rfl)) rfl ?_
      exact fin_ (below_later HB.out)
  · rw [if_neg c4] at H
    have c4b0 : (a0 == 1) = false := beq_eq_false_iff_ne.mpr c4
    have c4b1 : (a0 != 1) = true := bne_iff_ne.mpr c4
    by_cases c11 : a0 = 6
    · rw [if_pos c11] at H
      have c11b0 : (a0 == 6) = true := beq_iff_eq.mpr c11
      have c11b1 : (a0 != 6) = false := bne_eq_false_iff_eq.mpr c11
      clear c11
      replace H := Option.bind_eq_some_iff.mp H
      obtain ⟨⟨t157, t158, t159⟩, A120, H⟩ := H
      replace H : (if t159 = true then (if t157 > 40 then (some (0, (⟨#[]⟩ : ByteArray), 0, false)) else (if t157 > (wrap64 ((l1.length : Int) - t158)) then (some (0, (⟨#[]⟩ : ByteArray), 0, false)) else (if 0 ≤ t158 then (if t158 ≤ (wrap64 (t158 + t157)) then (if (wrap64 (t158 + t157)) ≤ (l1.length : Int) then (some (0, strOfNums ((l1.take ((wrap64 (t158 + t157)) : Int).toNat).drop (t158 : Int).toNat), wrap64 (t158 + t157), true)) else (none)) else (none)) else (none)))) else (some (0, (⟨#[]⟩ : ByteArray), 0, false))) = some (r1, r2, r3, r4) := H
      have A12 := Aside0.mk A120
      clear A120
      by_cases c13 : t159 = true
      · subst c13
        replace H := ifp rfl H
        by_cases c14 : t157 > 40
        · rw [if_pos c14] at H
          have c14b0 : decide (40 < t157) = true := decide_eq_true c14
          clear c14
          simp only [Option.some.injEq, Prod.mk.injEq] at H
          obtain ⟨rfl, rfl, rfl, rfl⟩ := H
          go_enter Try.func89, Try.ntmps89
          go_wp2_with (first | ((with_reducible refine gate_dst (N := 6) rfl ?_); (try (refine gate_guard (by rfl) ?_; dsimp only)); refine bx_ 6 #[.int .i64 0, .string (⟨#[]⟩ : ByteArray)] 27 ?_; intro gb153 hg w15 hbox hb; have BK153 := Aside0.mk (hbox); have GW153 := gwe HB hg; have GE153 := GW153; replace HB := bst HB hb; clear hb hbox hg) | ((with_reducible refine gate_callee (f := 105) rfl ?_); refine gl_ (some 41) Try.func105 #[.slice A1 l1.length c1, .int .i64 a2, .int .i64 4] rfl ?_; (with_reducible refine (spec_WordGet.calls k _ _ l1 a2 4 t157 t158 true _ ?side1 ?side2 A12.out).mono ?_); (case side1 => repeat (first | exact (Kd.C_below HR1.out HB.out) | (with_reducible refine Kd.C_alloc ?_ _) | (with_reducible refine Kd.C_drewN ?_ _) | (with_reducible refine Kd.C_drew ?_))); (case side2 => exact HC1.out); rintro e w' ⟨rfl, ⟨nd, rfl⟩⟩; refine ⟨_, rfl, ?_⟩; (try (rw [drewN_self w15]; generalize hq_ : World.drewN w15 _ = w15; have n0_ : Aside0 (w15.heap[gb153]? = some (.cells #[.int .i64 0, .string (⟨#[]⟩ : ByteArray)] 27 (0, 0))) := ⟨by rw [← hq_]; exact (blk_later BK153.out)⟩; have n1_ : Aside0 (Below w.heap.size w w15) := ⟨by rw [← hq_]; exact (below_later HB.out)⟩; clear BK153 HB hq_; have BK153 := n0_; have HB := n1_; clear n0_ n1_)); obtain ⟨hcz16_0, hcz16_1, hfz16_0, hfz16_1⟩ := cl2 BK153))
          refine bodyPost_ret (results_ctt rfl _ _ gb153 27 #[.int .i64 0, .string (⟨#[]⟩ : ByteArray)] (0, 0) _ rfl (by (with_reducible repeat (first | refine blk_drewN ?_ _ | refine blk_drew ?_ | refine blk_alloc ?_ _)); refine blk_put (cs := #[.int .i64 0, .string (⟨#[]⟩ : ByteArray)]) ?_ 1 _ rfl; (with_reducible repeat (first | refine blk_drewN ?_ _ | refine blk_drew ?_ | refine blk_alloc ?_ _)); refine blk_put (cs := #[.int .i64 0, .string (⟨#[]⟩ : ByteArray)]) ?_ 0 _ rfl; (with_reducible repeat (first | refine blk_drewN ?_ _ | refine blk_drew ?_ | refine blk_alloc ?_ _)); exact BK153.out) Try.underlying27 rfl (by kernel_rfl)) rfl ?_
          exact fin_ (below_later HB.out)
        · rw [if_neg c14] at H
          have c14b0 : decide (40 < t157) = false := decide_eq_false c14
          clear c14
          by_cases c17 : t157 > (wrap64 ((l1.length : Int) - t158))
          · rw [if_pos c17] at H
            have c17b0 : decide ((wrap64 ((l1.length : Int) - t158)) < t157) = true := decide_eq_true c17
            clear c17
            simp only [Option.some.injEq, Prod.mk.injEq] at H
            obtain ⟨rfl, rfl, rfl, rfl⟩ := H
            go_enter Try.func89, Try.ntmps89
            go_wp2_with (first | ((with_reducible refine gate_dst (N := 6) rfl ?_); (try (refine gate_guard (by rfl) ?_; dsimp only)); refine bx_ 6 #[.int .i64 0, .string (⟨#[]⟩ : ByteArray)] 27 ?_; intro gb153 hg w18 hbox hb; have BK153 := Aside0.mk (hbox); have GW153 := gwe HB hg; have GE153 := GW153; replace HB := bst HB hb; clear hb hbox hg) | ((with_reducible refine gate_callee (f := 105) rfl ?_); refine gl_ (some 41) Try.func105 #[.slice A1 l1.length c1, .int .i64 a2, .int .i64 4] rfl ?_; (with_reducible refine (spec_WordGet.calls k _ _ l1 a2 4 t157 t158 true _ ?side1 ?side2 A12.out).mono ?_); (case side1 => repeat (first | exact (Kd.C_below HR1.out HB.out) | (with_reducible refine Kd.C_alloc ?_ _) | (with_reducible refine Kd.C_drewN ?_ _) | (with_reducible refine Kd.C_drew ?_))); (case side2 => exact HC1.out); rintro e w' ⟨rfl, ⟨nd, rfl⟩⟩; refine ⟨_, rfl, ?_⟩; (try (rw [drewN_self w18]; generalize hq_ : World.drewN w18 _ = w18; have n0_ : Aside0 (w18.heap[gb153]? = some (.cells #[.int .i64 0, .string (⟨#[]⟩ : ByteArray)] 27 (0, 0))) := ⟨by rw [← hq_]; exact (blk_later BK153.out)⟩; have n1_ : Aside0 (Below w.heap.size w w18) := ⟨by rw [← hq_]; exact (below_later HB.out)⟩; clear BK153 HB hq_; have BK153 := n0_; have HB := n1_; clear n0_ n1_)); obtain ⟨hcz19_0, hcz19_1, hfz19_0, hfz19_1⟩ := cl2 BK153))
            refine bodyPost_ret (results_ctt rfl _ _ gb153 27 #[.int .i64 0, .string (⟨#[]⟩ : ByteArray)] (0, 0) _ rfl (by (with_reducible repeat (first | refine blk_drewN ?_ _ | refine blk_drew ?_ | refine blk_alloc ?_ _)); refine blk_put (cs := #[.int .i64 0, .string (⟨#[]⟩ : ByteArray)]) ?_ 1 _ rfl; (with_reducible repeat (first | refine blk_drewN ?_ _ | refine blk_drew ?_ | refine blk_alloc ?_ _)); refine blk_put (cs := #[.int .i64 0, .string (⟨#[]⟩ : ByteArray)]) ?_ 0 _ rfl; (with_reducible repeat (first | refine blk_drewN ?_ _ | refine blk_drew ?_ | refine blk_alloc ?_ _)); exact BK153.out) Try.underlying27 rfl (by kernel_rfl)) rfl ?_
            exact fin_ (below_later HB.out)
          · rw [if_neg c17] at H
            have c17b0 : decide ((wrap64 ((l1.length : Int) - t158)) < t157) = false := decide_eq_false c17
            clear c17
            replace H := ifs H
            obtain ⟨c20, H⟩ := H
            have c20b0 := eq_true c20
            have c20b1 := decide_eq_true c20
            clear c20
            replace H := ifs H
            obtain ⟨c21, H⟩ := H
            have c21b0 := eq_true c21
            have c21b1 := decide_eq_true c21
            replace H := ifs H
            obtain ⟨c22, H⟩ := H
            have c22b0 := eq_true c22
            have c22b1 := decide_eq_true c22
            simp only [Option.some.injEq, Prod.mk.injEq] at H
            obtain ⟨rfl, rfl, rfl, rfl⟩ := H
            go_enter Try.func89, Try.ntmps89
            go_wp2_with (first | ((with_reducible refine gate_dst (N := 6) rfl ?_); (try (refine gate_guard (by rfl) ?_; dsimp only)); refine bx_ 6 #[.int .i64 0, .string (⟨#[]⟩ : ByteArray)] 27 ?_; intro gb153 hg w23 hbox hb; have BK153 := Aside0.mk (hbox); have GW153 := gwe HB hg; have GE153 := GW153; replace HB := bst HB hb; clear hb hbox hg) | ((with_reducible refine gate_callee (f := 105) rfl ?_); refine gl_ (some 41) Try.func105 #[.slice A1 l1.length c1, .int .i64 a2, .int .i64 4] rfl ?_; (with_reducible refine (spec_WordGet.calls k _ _ l1 a2 4 t157 t158 true _ ?side1 ?side2 A12.out).mono ?_); (case side1 => repeat (first | exact (Kd.C_below HR1.out HB.out) | (with_reducible refine Kd.C_alloc ?_ _) | (with_reducible refine Kd.C_drewN ?_ _) | (with_reducible refine Kd.C_drew ?_))); (case side2 => exact HC1.out); rintro e w' ⟨rfl, ⟨nd, rfl⟩⟩; refine ⟨_, rfl, ?_⟩; (try (rw [drewN_self w23]; generalize hq_ : World.drewN w23 _ = w23; have n0_ : Aside0 (w23.heap[gb153]? = some (.cells #[.int .i64 0, .string (⟨#[]⟩ : ByteArray)] 27 (0, 0))) := ⟨by rw [← hq_]; exact (blk_later BK153.out)⟩; have n1_ : Aside0 (Below w.heap.size w w23) := ⟨by rw [← hq_]; exact (below_later HB.out)⟩; clear BK153 HB hq_; have BK153 := n0_; have HB := n1_; clear n0_ n1_)); obtain ⟨i024, hi024, _, hsz24, _⟩ := info_parts info5; obtain ⟨A24, hcut24, hA24, hC24⟩ := print_mid_of (P := Try.prog) (Value.int .u8) 0 41 5 .i64 .i64 Try.underlying41 hi024 hsz24 A1 c1 l1 t158 (wrap64 (t158 + t157)) (dcd) (by first | omega | exact dcd) (dcd) HC1.out; have HR160 := Aside0.mk (Kd.C_of_reads (h1 := fun _ => rfl) (hA24 _ (Kd.reads_of_C HR1.out))); have HC160 := Aside0.mk hC24; clear hA24 hC24 hi024 hsz24; have hcv25 := fun nd_ : Nat => Kd.C_string (P := Try.prog) (A := A24) (c := (c1 - t158.toNat)) Try.underlying41 Try.underlying5 Try.underlying9 (spec_l7One.cutC (dcd) (Kd.C_below HR160.out (pw_below_drewN HB.out nd_))); have hcv25z := Kd.C_string (P := Try.prog) (A := A24) (c := (c1 - t158.toNat)) Try.underlying41 Try.underlying5 Try.underlying9 (spec_l7One.cutC (dcd) (Kd.C_below HR160.out HB.out)); obtain ⟨hcz26_0, hcz26_1, hfz26_0, hfz26_1⟩ := cl2 BK153))
            refine bodyPost_ret (results_ctt rfl _ _ gb153 27 #[.int .i64 0, .string (strOfNums ((l1.take ((wrap64 (t158 + t157)) : Int).toNat).drop (t158 : Int).toNat))] (0, 0) _ rfl (by (with_reducible repeat (first | refine blk_drewN ?_ _ | refine blk_drew ?_ | refine blk_alloc ?_ _)); refine blk_put (cs := #[.int .i64 0, .string (⟨#[]⟩ : ByteArray)]) ?_ 1 _ rfl; (with_reducible repeat (first | refine blk_drewN ?_ _ | refine blk_drew ?_ | refine blk_alloc ?_ _)); refine blk_put (cs := #[.int .i64 0, .string (⟨#[]⟩ : ByteArray)]) ?_ 0 _ rfl; (with_reducible repeat (first | refine blk_drewN ?_ _ | refine blk_drew ?_ | refine blk_alloc ?_ _)); exact BK153.out) Try.underlying27 rfl (by kernel_rfl)) rfl ?_
            exact fin_ (below_later HB.out)
      · replace c13 := Bool.eq_false_iff.mpr c13
        subst c13
        replace H := ifn Bool.false_ne_true H
        simp only [Option.some.injEq, Prod.mk.injEq] at H
        obtain ⟨rfl, rfl, rfl, rfl⟩ := H
        go_enter Try.func89, Try.ntmps89
        go_wp2_with (first | ((with_reducible refine gate_dst (N := 6) rfl ?_); (try (refine gate_guard (by rfl) ?_; dsimp only)); refine bx_ 6 #[.int .i64 0, .string (⟨#[]⟩ : ByteArray)] 27 ?_; intro gb153 hg w27 hbox hb; have BK153 := Aside0.mk (hbox); have GW153 := gwe HB hg; have GE153 := GW153; replace HB := bst HB hb; clear hb hbox hg) | ((with_reducible refine gate_callee (f := 105) rfl ?_); refine gl_ (some 41) Try.func105 #[.slice A1 l1.length c1, .int .i64 a2, .int .i64 4] rfl ?_; (with_reducible refine (spec_WordGet.calls k _ _ l1 a2 4 t157 t158 false _ ?side1 ?side2 A12.out).mono ?_); (case side1 => repeat (first | exact (Kd.C_below HR1.out HB.out) | (with_reducible refine Kd.C_alloc ?_ _) | (with_reducible refine Kd.C_drewN ?_ _) | (with_reducible refine Kd.C_drew ?_))); (case side2 => exact HC1.out); rintro e w' ⟨rfl, ⟨nd, rfl⟩⟩; refine ⟨_, rfl, ?_⟩; (try (rw [drewN_self w27]; generalize hq_ : World.drewN w27 _ = w27; have n0_ : Aside0 (w27.heap[gb153]? = some (.cells #[.int .i64 0, .string (⟨#[]⟩ : ByteArray)] 27 (0, 0))) := ⟨by rw [← hq_]; exact (blk_later BK153.out)⟩; have n1_ : Aside0 (Below w.heap.size w w27) := ⟨by rw [← hq_]; exact (below_later HB.out)⟩; clear BK153 HB hq_; have BK153 := n0_; have HB := n1_; clear n0_ n1_)); obtain ⟨hcz28_0, hcz28_1, hfz28_0, hfz28_1⟩ := cl2 BK153))
        refine bodyPost_ret (results_ctt rfl _ _ gb153 27 #[.int .i64 0, .string (⟨#[]⟩ : ByteArray)] (0, 0) _ rfl (by (with_reducible repeat (first | refine blk_drewN ?_ _ | refine blk_drew ?_ | refine blk_alloc ?_ _)); refine blk_put (cs := #[.int .i64 0, .string (⟨#[]⟩ : ByteArray)]) ?_ 1 _ rfl; (with_reducible repeat (first | refine blk_drewN ?_ _ | refine blk_drew ?_ | refine blk_alloc ?_ _)); refine blk_put (cs := #[.int .i64 0, .string (⟨#[]⟩ : ByteArray)]) ?_ 0 _ rfl; (with_reducible repeat (first | refine blk_drewN ?_ _ | refine blk_drew ?_ | refine blk_alloc ?_ _)); exact BK153.out) Try.underlying27 rfl (by kernel_rfl)) rfl ?_
        exact fin_ (below_later HB.out)
    · rw [if_neg c11] at H
      have c11b0 : (a0 == 6) = false := beq_eq_false_iff_ne.mpr c11
      have c11b1 : (a0 != 6) = true := bne_iff_ne.mpr c11
      replace H := Option.bind_eq_some_iff.mp H
      obtain ⟨⟨t161, t162, t163⟩, A290, H⟩ := H
      replace H : (some (t161, (⟨#[]⟩ : ByteArray), t162, t163)) = some (r1, r2, r3, r4) := H
      have A29 := Aside0.mk A290
      clear A290
      simp only [Option.some.injEq, Prod.mk.injEq] at H
      obtain ⟨rfl, rfl, rfl, rfl⟩ := H
      go_enter Try.func89, Try.ntmps89
      go_wp2_with (first | ((with_reducible refine gate_dst (N := 6) rfl ?_); (try (refine gate_guard (by rfl) ?_; dsimp only)); refine bx_ 6 #[.int .i64 0, .string (⟨#[]⟩ : ByteArray)] 27 ?_; intro gb153 hg w30 hbox hb; have BK153 := Aside0.mk (hbox); have GW153 := gwe HB hg; have GE153 := GW153; replace HB := bst HB hb; clear hb hbox hg) | ((with_reducible refine gate_callee (f := 105) rfl ?_); refine gl_ (some 74) Try.func105 #[.slice A1 l1.length c1, .int .i64 a2, .int .i64 8] rfl ?_; (with_reducible refine (spec_WordGet.calls k _ _ l1 a2 8 t161 t162 t163 _ ?side1 ?side2 A29.out).mono ?_); (case side1 => repeat (first | exact (Kd.C_below HR1.out HB.out) | (with_reducible refine Kd.C_alloc ?_ _) | (with_reducible refine Kd.C_drewN ?_ _) | (with_reducible refine Kd.C_drew ?_))); (case side2 => exact HC1.out); rintro e w' ⟨rfl, ⟨nd, rfl⟩⟩; refine ⟨_, rfl, ?_⟩; (try (rw [drewN_self w30]; generalize hq_ : World.drewN w30 _ = w30; have n0_ : Aside0 (w30.heap[gb153]? = some (.cells #[.int .i64 0, .string (⟨#[]⟩ : ByteArray)] 27 (0, 0))) := ⟨by rw [← hq_]; exact (blk_later BK153.out)⟩; have n1_ : Aside0 (Below w.heap.size w w30) := ⟨by rw [← hq_]; exact (below_later HB.out)⟩; clear BK153 HB hq_; have BK153 := n0_; have HB := n1_; clear n0_ n1_)); obtain ⟨hcz31_0, hcz31_1, hfz31_0, hfz31_1⟩ := cl2 BK153))
      refine bodyPost_ret (results_ctt rfl _ _ gb153 27 #[.int .i64 t161, .string (⟨#[]⟩ : ByteArray)] (0, 0) _ rfl (by (with_reducible repeat (first | refine blk_drewN ?_ _ | refine blk_drew ?_ | refine blk_alloc ?_ _)); refine blk_put (cs := #[.int .i64 t161, .string (⟨#[]⟩ : ByteArray)]) ?_ 1 _ rfl; (with_reducible repeat (first | refine blk_drewN ?_ _ | refine blk_drew ?_ | refine blk_alloc ?_ _)); refine blk_put (cs := #[.int .i64 0, .string (⟨#[]⟩ : ByteArray)]) ?_ 0 _ rfl; (with_reducible repeat (first | refine blk_drewN ?_ _ | refine blk_drew ?_ | refine blk_alloc ?_ _)); exact BK153.out) Try.underlying27 rfl (by kernel_rfl)) rfl ?_
      exact fin_ (below_later HB.out)

/-! ### spec_PlainRead: function 71 -/
mutual
def spec_PlainRead.j0 : Nat → Int → List Int → Int → Int → List (S27) → Bool → Option ((List (S27)) × Int × Bool)
  | 0, _, _, _, _, _, _ => none
  | k + 1, x0, x1, x2, x3, x11, x35 => if x35 = true then (some (x11, 0, false)) else (if x0 = 0 then ((spec_BitsRead.f k x1 x2 x3 1).bind fun bt170 => (spec_PlainRead.l0 k x11 bt170.1 bt170.2.1 bt170.2.2 0)) else (spec_PlainRead.l1 k x0 x1 x2 x3 x11 0))
def spec_PlainRead.l0 : Nat → List (S27) → List Int → Int → Bool → Int → Option ((List (S27)) × Int × Bool)
  | 0, _, _, _, _, _ => none
  | k + 1, x11, x12, x13, x14, x15 => if x15 < (x12.length : Int) then (if 0 ≤ x15 then (if x11.length < 5864062014805 then (spec_PlainRead.l0 k (x11 ++ [(⟨rd x12 x15, (⟨#[]⟩ : ByteArray)⟩ : S27)]) x12 x13 x14 (wrap64 (x15 + 1))) else (none)) else (none)) else (some (x11, x13, x14))
def spec_PlainRead.l1 : Nat → Int → List Int → Int → Int → List (S27) → Int → Option ((List (S27)) × Int × Bool)
  | 0, _, _, _, _, _, _ => none
  | k + 1, x0, x1, x2, x3, x11, x16 => if x16 < x3 then ((spec_l7One.f k x0 x1 x2).bind fun bt179 => (if bt179.2.2.2 = true then (if x11.length < 5864062014805 then (spec_PlainRead.l1 k x0 x1 bt179.2.2.1 x3 (x11 ++ [(⟨bt179.1, bt179.2.1⟩ : S27)]) (wrap64 (x16 + 1))) else (none)) else (some ((([] : List (S27))), 0, false)))) else (some (x11, x2, true))
end
def spec_PlainRead.f (k : Nat) (a0 : Int) (l1 : List Int) (a2 : Int) (a3 : Int) : Option ((List (S27)) × Int × Bool) := (some (([] : List (S27)) : List (S27))).bind fun y164 => ((spec_l5Type.f a0).bind fun t167 => (if t167 = true then ((spec_l1In.f a3 0 2000).bind fun t168 => (if t168 = true then ((spec_l1In.f a2 0 (l1.length : Int)).bind fun t169 => (spec_PlainRead.j0 k a0 l1 a2 a3 y164 (!t169))) else (spec_PlainRead.j0 k a0 l1 a2 a3 y164 true))) else (spec_PlainRead.j0 k a0 l1 a2 a3 y164 true)))
set_option maxHeartbeats 8000000 in
set_option maxRecDepth 100000 in
theorem spec_PlainRead.calls (k : Nat) (a0 : Int) (A1 : Option Addr) (c1 : Nat) (l1 : List Int) (a2 : Int) (a3 : Int) (r1 : List (S27)) (r2 : Int) (r3 : Bool) (w : World) (hr1 : Kd.C (Kd.int .u8) w A1 l1.length l1) (hc1 : l1.length ≤ c1) (h : spec_PlainRead.f k a0 l1 a2 a3 = some (r1, r2, r3)) :
    Calls Try.prog 71 #[.int .i64 a0, .slice A1 l1.length c1, .int .i64 a2, .int .i64 a3] w fun e w' => ∃ v0_ : Value, e = .returned (.tuple #[v0_, .int .i64 r2, .bool r3]) ∧ Kd.R k27 27 w' w.heap.size (fun _ => True) v0_ r1 ∧ Below w.heap.size w w' := by
  have hu27 := Try.underlying27
  have HR1 := Aside0.mk hr1
  have HC1 := Aside0.mk hc1
  clear hr1 hc1
  have HB := Aside0.mk (Below.refl w.heap.size w)
  have H : ((some (([] : List (S27)) : List (S27))).bind fun y164 => ((spec_l5Type.f a0).bind fun t167 => (if t167 = true then ((spec_l1In.f a3 0 2000).bind fun t168 => (if t168 = true then ((spec_l1In.f a2 0 (l1.length : Int)).bind fun t169 => (spec_PlainRead.j0 k a0 l1 a2 a3 y164 (!t169))) else (spec_PlainRead.j0 k a0 l1 a2 a3 y164 true))) else (spec_PlainRead.j0 k a0 l1 a2 a3 y164 true)))) = some (r1, r2, r3) := h
  clear h
  replace H := bsm H
  obtain ⟨y164, Ny164, H⟩ := H
  have HC5 := Aside0.mk H
  clear H
  go_enter Try.func71, Try.ntmps71
  go_upto_region 2 with (first | ((with_reducible refine gate_dst (N := 20) rfl ?_); (try (refine gate_guard (by rfl) ?_; dsimp only)); refine Kd.R_lit k27 _ 27 ?hg (N := 20) ?hd (xs := ([] : List (S27))) (inner := []) (ok := fun _ => True) (okp := fun _ => True) ?hr ?hp (fun _ hk => hk) trivial (Below.refl _ _) (Nat.le_refl _) (by simp) ?_; (case hd => rfl); (case hg => rfl); (case hr => first | (go_simp; done) | (go_simp; rfl)); (case hp => exact (Reps.none _ _)); intro v165 w6 ho7 hb hg_ hnew_; clear hg_ hnew_; (first | rw [← Ny164.out] at ho7 | (simp only [Int.reduceToNat] at ho7; rw [← Ny164.out] at ho7)); have HO166 := Aside0.mk (Kd.R_lower ho7 (below_size (below_later HB.out))); replace HB := bst HB hb; clear hb ho7))
  (try simp only [Act.put, List.setIfInBounds_toArray, List.set_cons_zero, List.set_cons_succ])
  go_cut [35] (fun v35 wc => ∃ (kq : Nat) (x35_4 : Bool), v35 = .bool x35_4 ∧ Aside0 (spec_PlainRead.j0 kq a0 l1 a2 a3 y164 x35_4 = some (r1, r2, r3)) ∧ Aside0 (kq ≤ k) ∧ Aside0 (Kd.R k27 27 wc w.heap.size (fun _ => True) v165 y164) ∧ Aside0 (Below w.heap.size w wc))
  case first =>
    have H := HC5.out
    clear HC5
    replace H := bnd H
    obtain ⟨t167, A8, H⟩ := H
    by_cases c9 : t167 = true
    · subst c9
      replace H := ifp rfl H
      replace H := bnd H
      obtain ⟨t168, A10, H⟩ := H
      by_cases c11 : t168 = true
      · subst c11
        replace H := ifp rfl H
        replace H := bnd H
        obtain ⟨t169, A12, H⟩ := H
        have H' := Aside0.mk H
        clear H
        go_wp2_with (first | ((with_reducible refine gate_callee (f := 41) rfl ?_); refine gl_ (some 22) Try.func41 #[.int .i64 a0] rfl ?_; (with_reducible refine (spec_l5Type.calls a0 true _ A8.out).mono ?_); rintro e w' ⟨rfl, ⟨nd, rfl⟩⟩; refine ⟨_, rfl, ?_⟩) | (go_at_call 24; (with_reducible refine (spec_l1In.calls a3 0 2000 true _ A10.out).mono ?_); rintro e w' ⟨rfl, ⟨nd, rfl⟩⟩) | (go_at_call 24; (with_reducible refine (spec_l1In.calls a2 0 (l1.length : Int) t169 _ A12.out).mono ?_); rintro e w' ⟨rfl, ⟨nd, rfl⟩⟩))
        go_meet
        case rel => exact ⟨_, (!t169), sr, H', ⟨by first | omega | exact Nat.le_refl _⟩, ⟨R_later HO166.out⟩, ⟨below_later HB.out⟩⟩
      · replace c11 := Bool.eq_false_iff.mpr c11
        subst c11
        replace H := ifn Bool.false_ne_true H
        have H' := Aside0.mk H
        clear H
        go_wp2_with (first | ((with_reducible refine gate_callee (f := 41) rfl ?_); refine gl_ (some 22) Try.func41 #[.int .i64 a0] rfl ?_; (with_reducible refine (spec_l5Type.calls a0 true _ A8.out).mono ?_); rintro e w' ⟨rfl, ⟨nd, rfl⟩⟩; refine ⟨_, rfl, ?_⟩) | (go_at_call 24; (with_reducible refine (spec_l1In.calls a3 0 2000 false _ A10.out).mono ?_); rintro e w' ⟨rfl, ⟨nd, rfl⟩⟩))
        go_meet
        case rel => exact ⟨_, (true), sr, H', ⟨by first | omega | exact Nat.le_refl _⟩, ⟨R_later HO166.out⟩, ⟨below_later HB.out⟩⟩
    · replace c9 := Bool.eq_false_iff.mpr c9
      subst c9
      replace H := ifn Bool.false_ne_true H
      have H' := Aside0.mk H
      clear H
      go_wp2_with (first | ((with_reducible refine gate_callee (f := 41) rfl ?_); refine gl_ (some 22) Try.func41 #[.int .i64 a0] rfl ?_; (with_reducible refine (spec_l5Type.calls a0 false _ A8.out).mono ?_); rintro e w' ⟨rfl, ⟨nd, rfl⟩⟩; refine ⟨_, rfl, ?_⟩))
      go_meet
      case rel => exact ⟨_, (true), sr, H', ⟨by first | omega | exact Nat.le_refl _⟩, ⟨R_later HO166.out⟩, ⟨below_later HB.out⟩⟩
  case rest =>
    clear HC5
    try clear c1
    obtain ⟨kq, x35_4, rfl, HA, HJ4, HO_11, HB⟩ := hcut
    cases kq with
    | zero => exact absurd HA.out (by simp [spec_PlainRead.j0])
    | succ kj4 =>
      have H := HA.out
      clear HA
      simp only [spec_PlainRead.j0] at H
      by_cases c13 : x35_4 = true
      · subst c13
        replace H := ifp rfl H
        simp only [Option.some.injEq, Prod.mk.injEq] at H
        obtain ⟨rfl, rfl, rfl⟩ := H
        go_wp2
        go_ret3
        exact ⟨_, by first | rfl | (simp [errW_none, errW_some] <;> rfl) | (simp [*, errW_none, errW_some] <;> rfl), by (with_reducible repeat (first | apply Kd.R_alloc | apply Kd.R_drewN | apply Kd.R_drew)); exact HO_11.out, below_later HB.out⟩
      · replace c13 := Bool.eq_false_iff.mpr c13
        subst c13
        replace H := ifn Bool.false_ne_true H
        by_cases c14 : a0 = 0
        · rw [if_pos c14] at H
          have c14b0 : (a0 == 0) = true := beq_iff_eq.mpr c14
          have c14b1 : (a0 != 0) = false := bne_eq_false_iff_eq.mpr c14
          clear c14
          replace H := Option.bind_eq_some_iff.mp H
          obtain ⟨⟨t170, t171, t172⟩, A150, H⟩ := H
          replace H : (spec_PlainRead.l0 kj4 y164 t170 t171 t172 0) = some (r1, r2, r3) := H
          have A15 := Aside0.mk A150
          clear A150
          have H' := Aside0.mk H
          clear H
          go_wp2_with (first | ((with_reducible refine gate_callee (f := 88) rfl ?_); refine gl_ (some 43) Try.func88 #[.slice A1 l1.length c1, .int .i64 a2, .int .i64 a3, .int .i64 1] rfl ?_; (with_reducible refine (spec_BitsRead.calls kj4 _ _ l1 a2 a3 1 t170 t171 t172 _ ?side1 ?side2 A15.out).mono ?_); (case side1 => repeat (first | exact (Kd.C_below HR1.out HB.out) | (with_reducible refine Kd.C_alloc ?_ _) | (with_reducible refine Kd.C_drewN ?_ _) | (with_reducible refine Kd.C_drew ?_))); (case side2 => exact HC1.out); rintro e w16 ⟨v173, rfl, ho0, hb⟩; refine ⟨_, rfl, ?_⟩; have HO174 := Aside0.mk (Kd.R_lower ho0 (below_size (below_later HB.out))); replace HO_11 := Aside0.mk (Kd.R_below (R_later HO_11.out) hb); replace HB := bst HB hb; (try clear hb); (try clear ho0)))
          go_loopg [11, 15] kj4 (fun kq v11 v15 w' => ∃ (x11_2 : List (S27)) (x15_2 : Int), v15 = .int .i64 x15_2 ∧ Aside0 (spec_PlainRead.l0 kq x11_2 t170 t171 t172 x15_2 = some (r1, r2, r3)) ∧ Aside0 (kq ≤ kj4) ∧ Aside0 (Kd.R k27 27 w' w.heap.size (fun _ => True) v11 x11_2) ∧ Aside0 (Kd.R (Kd.int .i64) 3 w' w.heap.size (fun _ => True) v173 t170) ∧ Aside0 (Below w.heap.size w w'))
          case atStart => exact ⟨(y164), (0), sr, H', ⟨Nat.le_refl _⟩, ⟨R_later HO_11.out⟩, ⟨R_later HO174.out⟩, ⟨below_later HB.out⟩⟩
          case round =>
            clear H'
            try clear c1
            try clear c13
            try clear c14
            try clear c14b0
            try clear c14b1
            obtain ⟨x11_2, x15_2, rfl, HA, HK2, HO_11, HO_12, HB⟩ := hrel
            cases gk with
            | zero => exact absurd HA.out (by simp [spec_PlainRead.l0])
            | succ k2 =>
              have H := HA.out
              clear HA
              simp only [spec_PlainRead.l0] at H
              by_cases c17 : x15_2 < (t170.length : Int)
              · rw [if_pos c17] at H
                have c17b0 := decide_eq_true c17
                clear c17
                replace H := ifd H
                obtain ⟨c18b0, H⟩ := H
                replace H := ifs H
                obtain ⟨c19, H⟩ := H
                have LMc19 := Aside0.mk c19
                clear c19
                obtain ⟨y176, hy176⟩ : ∃ y_ : List (S27), y_ = (x11_2 ++ [(⟨rd t170 x15_2, (⟨#[]⟩ : ByteArray)⟩ : S27)]) := ⟨_, rfl⟩
                replace H : (spec_PlainRead.l0 k2 y176 t170 t171 t172 (wrap64 (x15_2 + 1))) = some (r1, r2, r3) := by first | (rw [hy176]; with_reducible exact H) | (rw [hy176]; exact H) | exact H
                have Ny176 := Aside0.mk hy176
                clear hy176
                have H' := Aside0.mk H
                clear H
                obtain ⟨Ao20, co20, eo20⟩ := Kd.R_slice HO_12.out
                subst eo20
                have p175 : 0 ≤ (x15_2 : Int) := dcd
                have q175 : x15_2 < (t170.length : Int) := dcd
                obtain ⟨ad175, e175, hx175_0⟩ := Kd.at_int (Kd.R_reads' HO_12.out).2.2 x15_2 p175 q175
                cases e175
                replace p175 := eq_true p175
                replace q175 := eq_true q175
                go_wp2_with (first | ((with_reducible refine gate_builtin (b := .append) (xs := #[.tmp 53, .tmp 59]) rfl ?_); (try (refine gate_guard (by rfl) ?_; dsimp only)); at_builtin; refine Kd.R_append k27 (w0 := w) w.heap.size rfl (.tmp 53) (.tmp 59) 44 27 (.agg #[(.int .i64 0), (.string ⟨#[]⟩)]) 24 rfl Try.underlying44 info27 rfl (by decide) (by omega) u11 x11_2 (⟨rd t170 x15_2, (⟨#[]⟩ : ByteArray)⟩ : S27) [.int .i64 (rd t170 x15_2), .string (⟨#[]⟩ : ByteArray)] (fun _ => True) (fun _ => False) rfl rfl ?aP (fun _ hk => hk.elim) ?aF ?aO ?aB ?aS ?aL ?_; (case aP => exact k27_mkM _ _ _ (⟨rd t170 x15_2, (⟨#[]⟩ : ByteArray)⟩ : S27)); (case aB => exact (below_later HB.out)); (case aF => exact (fun _ _ => trivial)); (case aO => exact (R_later HO_11.out)); (case aS => exact (below_size (below_later HB.out))); (case aL => have := LMc19.out; omega); intro v177 w21 ho hb hg hat; rw [← Ny176.out] at ho; have n0_ := Aside0.mk (Kd.R_over' (R_later HO_12.out) (Kd.R_typed (R_later HO_11.out)) (by decide) hg); have n1_ := Aside0.mk (hb); have n2_ := Aside0.mk (ho); clear HO_12; clear HB; clear HO_11; have HO_12 := n0_; have HB := n1_; have HO178 := n2_; clear n0_ n1_ n2_; clear ho hb hg hat))
                go_roundg k2
                case measure => have := HJ4.out; have := HK2.out; omega
                case rel => exact ⟨(y176), (wrap64 (x15_2 + 1)), sr, H', ⟨by have := HJ4.out; have := HK2.out; omega⟩, ⟨R_later HO178.out⟩, ⟨R_later HO_12.out⟩, ⟨below_later HB.out⟩⟩
              · rw [if_neg c17] at H
                have c17b0 := decide_eq_false c17
                clear c17
                simp only [Option.some.injEq, Prod.mk.injEq] at H
                obtain ⟨rfl, rfl, rfl⟩ := H
                obtain ⟨Ao22, co22, eo22⟩ := Kd.R_slice HO_12.out
                subst eo22
                go_wp2
                go_ret3
                exact ⟨_, by first | rfl | (simp [errW_none, errW_some] <;> rfl) | (simp [*, errW_none, errW_some] <;> rfl), by (with_reducible repeat (first | apply Kd.R_alloc | apply Kd.R_drewN | apply Kd.R_drew)); exact HO_11.out, below_later HB.out⟩
        · rw [if_neg c14] at H
          have c14b0 : (a0 == 0) = false := beq_eq_false_iff_ne.mpr c14
          have c14b1 : (a0 != 0) = true := bne_iff_ne.mpr c14
          have H' := Aside0.mk H
          clear H
          go_wp2
          go_loopg [2, 11, 16] kj4 (fun kq v2 v11 v16 w' => ∃ (x2_2 : Int) (x11_2 : List (S27)) (x16_2 : Int), v2 = .int .i64 x2_2 ∧ v16 = .int .i64 x16_2 ∧ Aside0 (spec_PlainRead.l1 kq a0 l1 x2_2 a3 x11_2 x16_2 = some (r1, r2, r3)) ∧ Aside0 (kq ≤ kj4) ∧ Aside0 (Kd.R k27 27 w' w.heap.size (fun _ => True) v11 x11_2) ∧ Aside0 (Below w.heap.size w w'))
          case atStart => exact ⟨(a2), (y164), (0), sr, sr, H', ⟨Nat.le_refl _⟩, ⟨R_later HO_11.out⟩, ⟨below_later HB.out⟩⟩
          case round =>
            clear H'
            try clear c1
            try clear c13
            try clear c14
            try clear c14b0
            try clear c14b1
            obtain ⟨x2_2, x11_2, x16_2, rfl, rfl, HA, HK2, HO_11, HB⟩ := hrel
            cases gk with
            | zero => exact absurd HA.out (by simp [spec_PlainRead.l1])
            | succ k2 =>
              have H := HA.out
              clear HA
              simp only [spec_PlainRead.l1] at H
              by_cases c23 : x16_2 < a3
              · rw [if_pos c23] at H
                have c23b0 := decide_eq_true c23
                clear c23
                replace H := Option.bind_eq_some_iff.mp H
                obtain ⟨⟨t179, t180, t181, t182⟩, A240, H⟩ := H
                replace H : (if t182 = true then (if x11_2.length < 5864062014805 then (spec_PlainRead.l1 k2 a0 l1 t181 a3 (x11_2 ++ [(⟨t179, t180⟩ : S27)]) (wrap64 (x16_2 + 1))) else (none)) else (some ((([] : List (S27))), 0, false))) = some (r1, r2, r3) := H
                have A24 := Aside0.mk A240
                clear A240
                by_cases c25 : t182 = true
                · subst c25
                  replace H := ifp rfl H
                  replace H := ifs H
                  obtain ⟨c26, H⟩ := H
                  have LMc26 := Aside0.mk c26
                  clear c26
                  obtain ⟨y184, hy184⟩ : ∃ y_ : List (S27), y_ = (x11_2 ++ [(⟨t179, t180⟩ : S27)]) := ⟨_, rfl⟩
                  replace H : (spec_PlainRead.l1 k2 a0 l1 t181 a3 y184 (wrap64 (x16_2 + 1))) = some (r1, r2, r3) := by first | (rw [hy184]; with_reducible exact H) | (rw [hy184]; exact H) | exact H
                  have Ny184 := Aside0.mk hy184
                  clear hy184
                  have H' := Aside0.mk H
                  clear H
                  go_wp2_with (first | ((with_reducible refine gate_callee (f := 89) rfl ?_); refine gl_ (some 73) Try.func89 #[.int .i64 a0, .slice A1 l1.length c1, .int .i64 x2_2] rfl ?_; (with_reducible refine (spec_l7One.calls k2 a0 _ _ l1 x2_2 t179 t180 t181 true _ ?side1 ?side2 A24.out).mono ?_); (case side1 => repeat (first | exact (Kd.C_below HR1.out HB.out) | (with_reducible refine Kd.C_alloc ?_ _) | (with_reducible refine Kd.C_drewN ?_ _) | (with_reducible refine Kd.C_drew ?_))); (case side2 => exact HC1.out); rintro e w27 ⟨rfl, hb⟩; refine ⟨_, rfl, ?_⟩; replace HO_11 := Aside0.mk (Kd.R_below (R_later HO_11.out) hb); replace HB := bst HB hb; (try clear hb); (try clear hk)) | ((with_reducible refine gate_dst (N := 17) rfl ?_); (try (refine gate_guard (by rfl) ?_; dsimp only)); refine bx_ 17 #[.int .i64 0, .string (⟨#[]⟩ : ByteArray)] 27 ?_; intro gb183 hg w28 hbox hb; have BK183 := Aside0.mk (hbox); have GW183 := gwe HB hg; have GE183 := GW183; replace HO_11 := Aside0.mk (Kd.R_below (Kd.R_elderB (R_later HO_11.out) gb183 (Nat.le_of_eq hg.symm)) hb); replace HB := bst HB hb; clear hb hbox hg; obtain ⟨hcz29_0, hcz29_1, hfz29_0, hfz29_1⟩ := cl2 BK183) | ((with_reducible refine gate_builtin (b := .append) (xs := #[.tmp 80, .tmp 82]) rfl ?_); (try (refine gate_guard (by rfl) ?_; dsimp only)); at_builtin; refine Kd.R_append k27 (w0 := w) w.heap.size rfl (.tmp 80) (.tmp 82) 44 27 (.agg #[(.int .i64 0), (.string ⟨#[]⟩)]) 24 rfl Try.underlying44 info27 rfl (by decide) (by omega) u11 x11_2 (⟨t179, t180⟩ : S27) [.int .i64 t179, .string t180] (fun k_ => k_ ≠ gb183) (fun _ => False) rfl (by first | (go_simp; done) | (go_simp; rfl)) ?aP (fun _ hk => hk.elim) ?aF ?aO ?aB ?aS ?aL ?_; (case aP => exact k27_mkM _ _ _ (⟨t179, t180⟩ : S27)); (case aB => exact (below_later HB.out)); (case aF => exact (fun k_ hk => Kd.freshB (g := gb183) (o := .cells #[.int .i64 t179, .string t180] 27 (0, 0)) (blk_later BK183.out) k_ hk)); (case aO => exact (by (with_reducible repeat (first | apply Kd.R_alloc | apply Kd.R_drewN | apply Kd.R_drew)); exact Kd.R_mono (Kd.R_far (p := ⟨gb183, 1, none⟩) (Kd.R_far (p := ⟨gb183, 0, none⟩) (Kd.R_mono HO_11.out (fun k_ hk => (⟨hk, hk.2⟩ : _ ∧ k_ ≠ gb183))) (fun _ hk => hk.2) (.int .i64 t179)) (fun _ hk => hk.2) (.string t180)) (fun _ hk => hk.1.2))); (case aS => exact (below_size (below_later HB.out))); (case aL => have := LMc26.out; omega); intro v185 w30 ho hb hg hat; rw [← Ny184.out] at ho; have n0_ := Aside0.mk (blk_grown (g := gb183) (o := .cells #[.int .i64 t179, .string t180] 27 (0, 0)) (blk_later BK183.out) hg (Kd.R_away HO_11.out (fun _ hk => hk.2))); have n1_ := Aside0.mk (hb); have n2_ := Aside0.mk (ho); clear BK183; clear HB; clear HO_11; have BK183 := n0_; have HB := n1_; have HO186 := n2_; clear n0_ n1_ n2_; clear ho hb hg hat))
                  go_roundg k2
                  case measure => have := HJ4.out; have := HK2.out; omega
                  case rel => exact ⟨(t181), (y184), (wrap64 (x16_2 + 1)), sr, sr, H', ⟨by have := HJ4.out; have := HK2.out; omega⟩, ⟨R_later (Kd.R_mono HO186.out (fun _ hk => trivial))⟩, ⟨below_later HB.out⟩⟩
                · replace c25 := Bool.eq_false_iff.mpr c25
                  subst c25
                  replace H := ifn Bool.false_ne_true H
                  obtain ⟨y187, hy187⟩ : ∃ y_ : List (S27), y_ = (([] : List (S27))) := ⟨_, rfl⟩
                  replace H : (some (y187, 0, false)) = some (r1, r2, r3) := by first | (rw [hy187]; with_reducible exact H) | (rw [hy187]; exact H) | exact H
                  have Ny187 := Aside0.mk hy187
                  clear hy187
                  simp only [Option.some.injEq, Prod.mk.injEq] at H
                  obtain ⟨rfl, rfl, rfl⟩ := H
                  go_wp2_with (first | ((with_reducible refine gate_callee (f := 89) rfl ?_); refine gl_ (some 73) Try.func89 #[.int .i64 a0, .slice A1 l1.length c1, .int .i64 x2_2] rfl ?_; (with_reducible refine (spec_l7One.calls k2 a0 _ _ l1 x2_2 t179 t180 t181 false _ ?side1 ?side2 A24.out).mono ?_); (case side1 => repeat (first | exact (Kd.C_below HR1.out HB.out) | (with_reducible refine Kd.C_alloc ?_ _) | (with_reducible refine Kd.C_drewN ?_ _) | (with_reducible refine Kd.C_drew ?_))); (case side2 => exact HC1.out); rintro e w31 ⟨rfl, hb⟩; refine ⟨_, rfl, ?_⟩; replace HO_11 := Aside0.mk (Kd.R_below (R_later HO_11.out) hb); replace HB := bst HB hb; (try clear hb); (try clear hk)) | ((with_reducible refine gate_dst (N := 17) rfl ?_); (try (refine gate_guard (by rfl) ?_; dsimp only)); refine bx_ 17 #[.int .i64 0, .string (⟨#[]⟩ : ByteArray)] 27 ?_; intro gb183 hg w32 hbox hb; have BK183 := Aside0.mk (hbox); have GW183 := gwe HB hg; have GE183 := GW183; replace HO_11 := Aside0.mk (Kd.R_below (Kd.R_elderB (R_later HO_11.out) gb183 (Nat.le_of_eq hg.symm)) hb); replace HB := bst HB hb; clear hb hbox hg; obtain ⟨hcz33_0, hcz33_1, hfz33_0, hfz33_1⟩ := cl2 BK183) | ((with_reducible refine gate_dst (N := 79) rfl ?_); (try (refine gate_guard (by rfl) ?_; dsimp only)); refine Kd.R_lit k27 _ 27 ?hg (N := 79) ?hd (xs := ([] : List (S27))) (inner := []) (ok := fun _ => True) (okp := fun _ => True) ?hr ?hp (fun _ hk => hk) trivial (Below.refl _ _) (Nat.le_refl _) (by simp) ?_; (case hd => rfl); (case hg => rfl); (case hr => first | (go_simp; done) | (go_simp; rfl)); (case hp => exact (Reps.none _ _)); intro v188 w34 ho35 hb hg_ hnew_; clear hg_ hnew_; (first | rw [← Ny187.out] at ho35 | (simp only [Int.reduceToNat] at ho35; rw [← Ny187.out] at ho35)); have HO189 := Aside0.mk (Kd.R_lower (Kd.R_newB (Kd.R_new' ho35 (Kd.R_lt (by (with_reducible repeat (first | apply Kd.R_alloc | apply Kd.R_drewN | apply Kd.R_drew)); exact (Kd.R_mono (Kd.R_far (p := ⟨gb183, 1, none⟩) (Kd.R_far (p := ⟨gb183, 0, none⟩) (Kd.R_mono HO_11.out (fun k_ hk => (⟨hk, hk.2⟩ : _ ∧ k_ ≠ gb183))) (fun _ hk => hk.2) (.int .i64 t179)) (fun _ hk => hk.2) (.string t180)) (fun _ h_ => h_.1))))) (g := gb183) (o := .cells #[.int .i64 t179, .string t180] 27 (0, 0)) (blk_later BK183.out)) (below_size (below_later HB.out))); replace HO_11 := Aside0.mk (Kd.R_elder' (by (with_reducible repeat (first | apply Kd.R_alloc | apply Kd.R_drewN | apply Kd.R_drew)); exact (Kd.R_mono (Kd.R_far (p := ⟨gb183, 1, none⟩) (Kd.R_far (p := ⟨gb183, 0, none⟩) (Kd.R_mono HO_11.out (fun k_ hk => (⟨hk, hk.2⟩ : _ ∧ k_ ≠ gb183))) (fun _ hk => hk.2) (.int .i64 t179)) (fun _ hk => hk.2) (.string t180)) (fun _ h_ => h_.1))) (Kd.R_base ho35) hb); replace BK183 := Aside0.mk (blk_below (g := gb183) (o := .cells #[.int .i64 t179, .string t180] 27 (0, 0)) (blk_later BK183.out) hb); replace HB := bst HB hb; clear hb ho35))
                  go_ret3
                  exact ⟨_, by first | rfl | (simp [errW_none, errW_some] <;> rfl) | (simp [*, errW_none, errW_some] <;> rfl), by (with_reducible repeat (first | apply Kd.R_alloc | apply Kd.R_drewN | apply Kd.R_drew)); exact Kd.R_mono HO189.out (fun _ hk => trivial), below_later HB.out⟩
              · rw [if_neg c23] at H
                have c23b0 := decide_eq_false c23
                clear c23
                simp only [Option.some.injEq, Prod.mk.injEq] at H
                obtain ⟨rfl, rfl, rfl⟩ := H
                go_wp2
                go_ret3
                exact ⟨_, by first | rfl | (simp [errW_none, errW_some] <;> rfl) | (simp [*, errW_none, errW_some] <;> rfl), by (with_reducible repeat (first | apply Kd.R_alloc | apply Kd.R_drewN | apply Kd.R_drew)); exact HO_11.out, below_later HB.out⟩

/-! ### spec_ValOk: function 72 -/
def spec_ValOk.j0 : Nat → Int → Bool → Int → ByteArray → Option (Bool)
  | 0, _, _, _, _ => none
  | k + 1, x5, x26, x191000, x191001 => if x26 = true then (some (x191001.toList == ([] : List UInt8))) else (if x5 = 6 then (if x191000 = 0 then (some (decide ((x191001.size : Int) ≤ 40))) else (some false)) else (some false))
def spec_ValOk.f (k : Nat) (a0 : Int) (a1_0 : Int) (a1_1 : ByteArray) : Option (Bool) := if a0 = 0 then ((spec_l1In.f a1_0 0 1).bind fun t191 => (if t191 = true then (some (a1_1.toList == ([] : List UInt8))) else (some false))) else (if a0 = 1 then ((spec_l4Int.f a1_0).bind fun t192 => (if t192 = true then (some (a1_1.toList == ([] : List UInt8))) else (some false))) else (if a0 = 2 then (spec_ValOk.j0 k a0 (a0 == 2) a1_0 a1_1) else (spec_ValOk.j0 k a0 (a0 == 5) a1_0 a1_1)))
set_option maxHeartbeats 8000000 in
set_option maxRecDepth 100000 in
theorem spec_ValOk.calls (k : Nat) (a0 : Int) (a1_0 : Int) (a1_1 : ByteArray) (r : Bool) (w : World) (h : spec_ValOk.f k a0 a1_0 a1_1 = some r) :
    Calls Try.prog 72 #[.int .i64 a0, .agg #[.int .i64 a1_0, .string a1_1]] w fun e w' => e = .returned (.bool r) ∧ Below w.heap.size w w' := by
  have hu27 := Try.underlying27
  have HB := Aside0.mk (Below.refl w.heap.size w)
  have H : (if a0 = 0 then ((spec_l1In.f a1_0 0 1).bind fun t191 => (if t191 = true then (some (a1_1.toList == ([] : List UInt8))) else (some false))) else (if a0 = 1 then ((spec_l4Int.f a1_0).bind fun t192 => (if t192 = true then (some (a1_1.toList == ([] : List UInt8))) else (some false))) else (if a0 = 2 then (spec_ValOk.j0 k a0 (a0 == 2) a1_0 a1_1) else (spec_ValOk.j0 k a0 (a0 == 5) a1_0 a1_1)))) = some r := h
  clear h
  by_cases c3 : a0 = 0
  · rw [if_pos c3] at H
    have c3b0 : (a0 == 0) = true := beq_iff_eq.mpr c3
    have c3b1 : (a0 != 0) = false := bne_eq_false_iff_eq.mpr c3
    clear c3
    replace H := bnd H
    obtain ⟨t191, A4, H⟩ := H
    by_cases c5 : t191 = true
    · subst c5
      replace H := ifp rfl H
      obtain rfl := Option.some.inj H
      go_enter Try.func72, Try.ntmps72
      go_wp2_with (first | ((with_reducible refine gate_dst (N := 3) rfl ?_); (try (refine gate_guard (by rfl) ?_; dsimp only)); refine bx_ 3 #[.int .i64 a1_0, .string a1_1] 27 ?_; intro gb190 hg w6 hbox hb; have BK190 := Aside0.mk (hbox); have GW190 := gwe HB hg; have GE190 := GW190; replace HB := bst HB hb; clear hb hbox hg; obtain ⟨hcz7_0, hcz7_1, hfz7_0, hfz7_1⟩ := cl2 BK190) | ((with_reducible refine gate_callee (f := 24) rfl ?_); refine gl_ (some 10) Try.func24 #[.int .i64 a1_0, .int .i64 0, .int .i64 1] rfl ?_; (with_reducible refine (spec_l1In.calls a1_0 0 1 true _ A4.out).mono ?_); rintro e w' ⟨rfl, ⟨nd, rfl⟩⟩; refine ⟨_, rfl, ?_⟩))
      go_ret
      exact fin_ (below_later HB.out)
    · replace c5 := Bool.eq_false_iff.mpr c5
      subst c5
      replace H := ifn Bool.false_ne_true H
      obtain rfl := Option.some.inj H
      go_enter Try.func72, Try.ntmps72
      go_wp2_with (first | ((with_reducible refine gate_dst (N := 3) rfl ?_); (try (refine gate_guard (by rfl) ?_; dsimp only)); refine bx_ 3 #[.int .i64 a1_0, .string a1_1] 27 ?_; intro gb190 hg w8 hbox hb; have BK190 := Aside0.mk (hbox); have GW190 := gwe HB hg; have GE190 := GW190; replace HB := bst HB hb; clear hb hbox hg; obtain ⟨hcz9_0, hcz9_1, hfz9_0, hfz9_1⟩ := cl2 BK190) | ((with_reducible refine gate_callee (f := 24) rfl ?_); refine gl_ (some 10) Try.func24 #[.int .i64 a1_0, .int .i64 0, .int .i64 1] rfl ?_; (with_reducible refine (spec_l1In.calls a1_0 0 1 false _ A4.out).mono ?_); rintro e w' ⟨rfl, ⟨nd, rfl⟩⟩; refine ⟨_, rfl, ?_⟩))
      go_ret
      exact fin_ (below_later HB.out)
  · rw [if_neg c3] at H
    have c3b0 : (a0 == 0) = false := beq_eq_false_iff_ne.mpr c3
    have c3b1 : (a0 != 0) = true := bne_iff_ne.mpr c3
    by_cases c10 : a0 = 1
    · rw [if_pos c10] at H
      have c10b0 : (a0 == 1) = true := beq_iff_eq.mpr c10
      have c10b1 : (a0 != 1) = false := bne_eq_false_iff_eq.mpr c10
      clear c10
      replace H := bnd H
      obtain ⟨t192, A11, H⟩ := H
      by_cases c12 : t192 = true
      · subst c12
        replace H := ifp rfl H
        obtain rfl := Option.some.inj H
        go_enter Try.func72, Try.ntmps72
        go_wp2_with (first | ((with_reducible refine gate_dst (N := 3) rfl ?_); (try (refine gate_guard (by rfl) ?_; dsimp only)); refine bx_ 3 #[.int .i64 a1_0, .string a1_1] 27 ?_; intro gb190 hg w13 hbox hb; have BK190 := Aside0.mk (hbox); have GW190 := gwe HB hg; have GE190 := GW190; replace HB := bst HB hb; clear hb hbox hg; obtain ⟨hcz14_0, hcz14_1, hfz14_0, hfz14_1⟩ := cl2 BK190) | ((with_reducible refine gate_callee (f := 86) rfl ?_); refine gl_ (some 20) Try.func86 #[.int .i64 a1_0] rfl ?_; (with_reducible refine (spec_l4Int.calls a1_0 true _ A11.out).mono ?_); rintro e w' ⟨rfl, ⟨nd, rfl⟩⟩; refine ⟨_, rfl, ?_⟩))
        go_ret
        exact fin_ (below_later HB.out)
      · replace c12 := Bool.eq_false_iff.mpr c12
        subst c12
        replace H := ifn Bool.false_ne_true H
        obtain rfl := Option.some.inj H
        go_enter Try.func72, Try.ntmps72
        go_wp2_with (first | ((with_reducible refine gate_dst (N := 3) rfl ?_); (try (refine gate_guard (by rfl) ?_; dsimp only)); refine bx_ 3 #[.int .i64 a1_0, .string a1_1] 27 ?_; intro gb190 hg w15 hbox hb; have BK190 := Aside0.mk (hbox); have GW190 := gwe HB hg; have GE190 := GW190; replace HB := bst HB hb; clear hb hbox hg; obtain ⟨hcz16_0, hcz16_1, hfz16_0, hfz16_1⟩ := cl2 BK190) | ((with_reducible refine gate_callee (f := 86) rfl ?_); refine gl_ (some 20) Try.func86 #[.int .i64 a1_0] rfl ?_; (with_reducible refine (spec_l4Int.calls a1_0 false _ A11.out).mono ?_); rintro e w' ⟨rfl, ⟨nd, rfl⟩⟩; refine ⟨_, rfl, ?_⟩))
        go_ret
        exact fin_ (below_later HB.out)
    · rw [if_neg c10] at H
      have c10b0 : (a0 == 1) = false := beq_eq_false_iff_ne.mpr c10
      have c10b1 : (a0 != 1) = true := bne_iff_ne.mpr c10
      have HC17 := Aside0.mk H
      clear H
      go_enter Try.func72, Try.ntmps72
      go_upto_if 26 with (first | ((with_reducible refine gate_dst (N := 3) rfl ?_); (try (refine gate_guard (by rfl) ?_; dsimp only)); refine bx_ 3 #[.int .i64 a1_0, .string a1_1] 27 ?_; intro gb190 hg w18 hbox hb; have BK190 := Aside0.mk (hbox); have GW190 := gwe HB hg; have GE190 := GW190; replace HB := bst HB hb; clear hb hbox hg))
      (try simp only [Act.put, List.setIfInBounds_toArray, List.set_cons_zero, List.set_cons_succ])
      go_cut [26] (fun v26 wc => ∃ (kq : Nat) (x26_16 : Bool), v26 = .bool x26_16 ∧ Aside0 (spec_ValOk.j0 kq a0 x26_16 a1_0 a1_1 = some r) ∧ Aside0 (kq ≤ k) ∧ Aside0 (wc.heap[gb190]? = some (.cells #[.int .i64 a1_0, .string a1_1] 27 (0, 0))) ∧ Aside0 (Below w.heap.size w wc))
      case first =>
        have H := HC17.out
        clear HC17
        by_cases c19 : a0 = 2
        · rw [if_pos c19] at H
          have c19b0 : (a0 == 2) = true := beq_iff_eq.mpr c19
          have c19b1 : (a0 != 2) = false := bne_eq_false_iff_eq.mpr c19
          clear c19
          (first | rw [c19b0] | rw [c19b1] | (simp only [i64_w, i32_w]; rw [c19b0]) | skip)
          have H' := Aside0.mk H
          clear H
          go_wp2
          go_meet
          case rel => exact ⟨_, ((a0 == 2)), sr, H', ⟨by first | omega | exact Nat.le_refl _⟩, ⟨blk_later BK190.out⟩, ⟨below_later HB.out⟩⟩
        · rw [if_neg c19] at H
          have c19b0 : (a0 == 2) = false := beq_eq_false_iff_ne.mpr c19
          have c19b1 : (a0 != 2) = true := bne_iff_ne.mpr c19
          (first | rw [c19b0] | rw [c19b1] | (simp only [i64_w, i32_w]; rw [c19b0]) | skip)
          have H' := Aside0.mk H
          clear H
          go_wp2
          go_meet
          case rel => exact ⟨_, ((a0 == 5)), sr, H', ⟨by first | omega | exact Nat.le_refl _⟩, ⟨blk_later BK190.out⟩, ⟨below_later HB.out⟩⟩
      case rest =>
        clear HC17
        try clear c3
        try clear c3b0
        try clear c3b1
        try clear c10
        try clear c10b0
        try clear c10b1
        obtain ⟨kq, x26_16, rfl, HA, HJ16, BK190, HB⟩ := hcut
        cases kq with
        | zero => exact absurd HA.out (by simp [spec_ValOk.j0])
        | succ kj16 =>
          have H := HA.out
          clear HA
          simp only [spec_ValOk.j0] at H
          by_cases c20 : x26_16 = true
          · subst c20
            replace H := ifp rfl H
            obtain rfl := Option.some.inj H
            obtain ⟨hcz21_0, hcz21_1, hfz21_0, hfz21_1⟩ := cl2 BK190
            go_wp2
            go_ret
            exact fin_ (below_later HB.out)
          · replace c20 := Bool.eq_false_iff.mpr c20
            subst c20
            replace H := ifn Bool.false_ne_true H
            by_cases c22 : a0 = 6
            · rw [if_pos c22] at H
              have c22b0 : (a0 == 6) = true := beq_iff_eq.mpr c22
              have c22b1 : (a0 != 6) = false := bne_eq_false_iff_eq.mpr c22
              clear c22
              by_cases c23 : a1_0 = 0
              · rw [if_pos c23] at H
                have c23b0 : (a1_0 == 0) = true := beq_iff_eq.mpr c23
                have c23b1 : (a1_0 != 0) = false := bne_eq_false_iff_eq.mpr c23
                clear c23
                obtain rfl := Option.some.inj H
                obtain ⟨hcz24_0, hcz24_1, hfz24_0, hfz24_1⟩ := cl2 BK190
                go_wp2
                go_ret
                exact fin_ (below_later HB.out)
              · rw [if_neg c23] at H
                have c23b0 : (a1_0 == 0) = false := beq_eq_false_iff_ne.mpr c23
                have c23b1 : (a1_0 != 0) = true := bne_iff_ne.mpr c23
                obtain rfl := Option.some.inj H
                obtain ⟨hcz25_0, hcz25_1, hfz25_0, hfz25_1⟩ := cl2 BK190
                go_wp2
                go_ret
                exact fin_ (below_later HB.out)
            · rw [if_neg c22] at H
              have c22b0 : (a0 == 6) = false := beq_eq_false_iff_ne.mpr c22
              have c22b1 : (a0 != 6) = true := bne_iff_ne.mpr c22
              obtain rfl := Option.some.inj H
              go_wp2
              go_ret
              exact fin_ (below_later HB.out)

end Go.Proofs.Ytgiljoeekpfpmaa.PFnExactStatsFrom
