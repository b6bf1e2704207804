/- The machine's side of FnStats: each Go function, and what its call comes to. No condition. -/
import Derived.Test.YtnlgodcbnlbdkaaPFnStatsx0
import Derived.Test.YtnlgodcbnlbdkaaPFnStatsx3
namespace Go.Proofs.Ytnlgodcbnlbdkaa.PFnStats
open Go.RowKit Go.Proofs.YtnlgodcbnlbdkaaW.PrintWords Go.Proofs.YtnlgodcbnlbdkaaW.PrintLast Go.Proofs.YtnlgodcbnlbdkaaW.PrintMore Go.Proofs.YtnlgodcbnlbdkaaW.PrintMore2
attribute [local go_sem] max2_int min2_int max_two min_two max_three min_three max_four min_four
set_option linter.unusedVariables false
set_option linter.unusedSimpArgs false
set_option maxHeartbeats 8000000
set_option maxRecDepth 100000

/-! ### spec_l5Name: function 80 -/
def spec_l5Name.l0 : Nat → ByteArray → Int → Option (Bool)
  | 0, _, _ => none
  | k + 1, x0, x3 => if x3 < (x0.size : Int) then (if 0 ≤ x3 then (if (bt x0 x3) < 97 then (some false) else (if (bt x0 x3) > 122 then (some false) else (spec_l5Name.l0 k x0 (wrap64 (x3 + 1))))) else (none)) else (some true)
def spec_l5Name.f (k : Nat) (a0 : ByteArray) : Option (Bool) := (spec_l1In.f (a0.size : Int) 1 20).bind fun t159 => (if t159 = true then (spec_l5Name.l0 k a0 0) else (some false))
theorem spec_l5Name.calls {k : Nat} {a0 : ByteArray} {r : Bool} {w : World} (h : spec_l5Name.f k a0 = some r) :
    Calls Try.prog 80 #[.string a0] w fun e w' => e = .returned (.bool r) ∧ Drawn0 w w' := by
 have H := h; clear h; unfold spec_l5Name.f at H
 replace H := bnd H; obtain ⟨t159, A2, H⟩ := H
 replace H := ibt H; obtain ⟨rfl, H⟩ | ⟨rfl, H⟩ := H
 rotate_left
 · obtain rfl := Option.some.inj H
   go_enter Try.func80, Try.ntmps80
   go_wp2_with (first | ((with_reducible refine gc 55 rfl ?_); refine gc1 (some 6) Try.func55 rfl (spec_l1In.calls A2.out) ?_; rintro w' ⟨nd, rfl⟩))
   go_ret
   exact ⟨sr, drl⟩
 have H' := am H; clear H
 go_enter Try.func80, Try.ntmps80
 go_wp2_with (first | ((with_reducible refine gc 55 rfl ?_); refine gc1 (some 6) Try.func55 rfl (spec_l1In.calls A2.out) ?_; rintro w' ⟨nd, rfl⟩))
 go_loopg [3] k (fun kq v3 w' => ∃ (x3_1 : Int), v3 = .int .i64 x3_1 ∧ Aside0 (spec_l5Name.l0 kq a0 x3_1 = some r) ∧ Aside0 (kq ≤ k) ∧ Drawn0 w w')
 case atStart => exact ⟨(0), sr, H', ⟨Nat.le_refl _⟩, by repeat (first | exact Drawn0.refl _ | apply Drawn0.step)⟩
 clear H'
 try clear c3
 obtain ⟨x3_1, rfl, HA, HK1, ⟨m1, rfl⟩⟩ := hrel
 cases gk with
 | zero => exact absurd HA.out (by simp [spec_l5Name.l0])
 | succ k1 => ?_
 have H := HA.out
 clear HA
 simp only [spec_l5Name.l0] at H
 replace H := idc H; obtain ⟨c4b0, H⟩ | ⟨c4b0, H⟩ := H
 rotate_left
 · obtain rfl := Option.some.inj H
   go_wp2
   go_ret
   exact ⟨sr, drl⟩
 replace H := ifd H; obtain ⟨c5b0, H⟩ := H
 replace H := idc H; obtain ⟨c7b0, H⟩ | ⟨c7b0, H⟩ := H
 · obtain rfl := Option.some.inj H
   have p6 : 0 ≤ (x3_1 : Int) := dcd
   have q6 : x3_1 < (a0.size : Int) := dcd
   have hx6 := bt_at a0 x3_1
   replace p6 := eq_true p6
   replace q6 := eq_true q6
   go_wp2
   go_ret
   exact ⟨sr, drl⟩
 replace H := igt H; obtain ⟨c9b0, H⟩ | ⟨c9b0, H⟩ := H
 · obtain rfl := Option.some.inj H
   have p6 : 0 ≤ (x3_1 : Int) := dcd
   have q6 : x3_1 < (a0.size : Int) := dcd
   have hx6 := bt_at a0 x3_1
   replace p6 := eq_true p6
   replace q6 := eq_true q6
   have p8 : 0 ≤ (x3_1 : Int) := dcd
   have q8 : x3_1 < (a0.size : Int) := dcd
   have hx8 := bt_at a0 x3_1
   replace p8 := eq_true p8
   replace q8 := eq_true q8
   go_wp2
   go_ret
   exact ⟨sr, drl⟩
 have H' := am H; clear H
 have p6 : 0 ≤ (x3_1 : Int) := dcd
 have q6 : x3_1 < (a0.size : Int) := dcd
 have hx6 := bt_at a0 x3_1
 replace p6 := eq_true p6
 replace q6 := eq_true q6
 have p8 : 0 ≤ (x3_1 : Int) := dcd
 have q8 : x3_1 < (a0.size : Int) := dcd
 have hx8 := bt_at a0 x3_1
 replace p8 := eq_true p8
 replace q8 := eq_true q8
 go_wp2
 go_roundg k1
 case measure => have := HK1.out; omega
 case rel => exact ⟨(wrap64 (x3_1 + 1)), sr, H', ⟨by have := HK1.out; omega⟩, by repeat (first | exact Drawn0.refl _ | apply Drawn0.step)⟩
/-! ### spec_l5Check: function 63 -/
mutual
def spec_l5Check.j0 : Nat → List (S94) → Int → Int → Bool → Option (Int)
  | 0, _, _, _, _ => none
  | k + 1, x0, x1, x2, x19 => if x19 = true then (some (-1)) else (if 0 ≤ x1 then (if x1 < (x0.length : Int) then (if x1 = 0 then (if ((rd_T94 x0 x1).f0).toList = ([] : List UInt8) then (if ((rd_T94 x0 x1).f2) = 0 then (if ((rd_T94 x0 x1).f1) = 7 then (if x1 > 0 then ((spec_l5Name.f k ((rd_T94 x0 x1).f0)).bind fun t162 => (if t162 = true then ((spec_l1In.f ((rd_T94 x0 x1).f2) 0 2).bind fun t163 => (spec_l5Check.j1 k x0 x1 x2 (!t163) ((rd_T94 x0 x1).f0) ((rd_T94 x0 x1).f1) ((rd_T94 x0 x1).f2) ((rd_T94 x0 x1).f3))) else (spec_l5Check.j1 k x0 x1 x2 true ((rd_T94 x0 x1).f0) ((rd_T94 x0 x1).f1) ((rd_T94 x0 x1).f2) ((rd_T94 x0 x1).f3)))) else ((spec_l1In.f ((rd_T94 x0 x1).f2) 0 2).bind fun t164 => (spec_l5Check.j1 k x0 x1 x2 (!t164) ((rd_T94 x0 x1).f0) ((rd_T94 x0 x1).f1) ((rd_T94 x0 x1).f2) ((rd_T94 x0 x1).f3)))) else (spec_l5Check.j1 k x0 x1 x2 true ((rd_T94 x0 x1).f0) ((rd_T94 x0 x1).f1) ((rd_T94 x0 x1).f2) ((rd_T94 x0 x1).f3))) else (spec_l5Check.j1 k x0 x1 x2 true ((rd_T94 x0 x1).f0) ((rd_T94 x0 x1).f1) ((rd_T94 x0 x1).f2) ((rd_T94 x0 x1).f3))) else (spec_l5Check.j1 k x0 x1 x2 true ((rd_T94 x0 x1).f0) ((rd_T94 x0 x1).f1) ((rd_T94 x0 x1).f2) ((rd_T94 x0 x1).f3))) else (if x1 > 0 then ((spec_l5Name.f k ((rd_T94 x0 x1).f0)).bind fun t165 => (if t165 = true then ((spec_l1In.f ((rd_T94 x0 x1).f2) 0 2).bind fun t166 => (spec_l5Check.j1 k x0 x1 x2 (!t166) ((rd_T94 x0 x1).f0) ((rd_T94 x0 x1).f1) ((rd_T94 x0 x1).f2) ((rd_T94 x0 x1).f3))) else (spec_l5Check.j1 k x0 x1 x2 true ((rd_T94 x0 x1).f0) ((rd_T94 x0 x1).f1) ((rd_T94 x0 x1).f2) ((rd_T94 x0 x1).f3)))) else ((spec_l1In.f ((rd_T94 x0 x1).f2) 0 2).bind fun t167 => (spec_l5Check.j1 k x0 x1 x2 (!t167) ((rd_T94 x0 x1).f0) ((rd_T94 x0 x1).f1) ((rd_T94 x0 x1).f2) ((rd_T94 x0 x1).f3))))) else (none)) else (none))
def spec_l5Check.j1 : Nat → List (S94) → Int → Int → Bool → ByteArray → Int → Int → Int → Option (Int)
  | 0, _, _, _, _, _, _, _, _ => none
  | k + 1, x0, x1, x2, x56, x162000, x162001, x162002, x162003 => if x56 = true then (some (-1)) else (if x162001 = 7 then (if x162003 < 1 then (some (-1)) else (spec_l5Check.l0 k x0 x2 (wrap64 (x1 + 1)) (([] : List ByteArray)) 0 x162000 x162001 x162002 x162003)) else ((spec_l5Type.f x162001).bind fun t168 => (if t168 = true then (if x162003 = 0 then (some (wrap64 (x1 + 1))) else (some (-1))) else (some (-1)))))
def spec_l5Check.l0 : Nat → List (S94) → Int → Int → List ByteArray → Int → ByteArray → Int → Int → Int → Option (Int)
  | 0, _, _, _, _, _, _, _, _, _ => none
  | k + 1, x0, x2, x8, x9, x10, x162000, x162001, x162002, x162003 => if x10 < x162003 then (if x8 ≥ (x0.length : Int) then (some (-1)) else (spec_l5Check.l1 k x0 x2 x8 x9 x10 0 x162000 x162001 x162002 x162003)) else (some x8)
def spec_l5Check.l1 : Nat → List (S94) → Int → Int → List ByteArray → Int → Int → ByteArray → Int → Int → Int → Option (Int)
  | 0, _, _, _, _, _, _, _, _, _, _ => none
  | k + 1, x0, x2, x8, x9, x10, x11, x162000, x162001, x162002, x162003 => if x11 < (x9.length : Int) then (if 0 ≤ x11 then (if 0 ≤ x8 then (if x8 < (x0.length : Int) then (if (rdOf ByteArray.empty x9 x11).toList = ((rd_T94 x0 x8).f0).toList then (some (-1)) else (spec_l5Check.l1 k x0 x2 x8 x9 x10 (wrap64 (x11 + 1)) x162000 x162001 x162002 x162003)) else (none)) else (none)) else (none)) else (if 0 ≤ x8 then (if x8 < (x0.length : Int) then (if x9.length < 8796093022208 then ((spec_l5Check.f k x0 x8 (wrap64 (x2 + 1))).bind fun t178 => (if t178 < 0 then (some (-1)) else (spec_l5Check.l0 k x0 x2 t178 (x9 ++ [(rd_T94 x0 x8).f0]) (wrap64 (x10 + 1)) x162000 x162001 x162002 x162003))) else (none)) else (none)) else (none))
def spec_l5Check.f : Nat → List (S94) → Int → Int → Option (Int)
  | 0, _, _, _ => none
  | k + 1, l0, a1, a2 => if a1 ≥ (l0.length : Int) then (spec_l5Check.j0 k l0 a1 a2 true) else (spec_l5Check.j0 k l0 a1 a2 (decide (a2 > 6)))
end
theorem spec_l5Check.calls (k : Nat) : ∀ (A0 : Option Addr) (c0 : Nat) (l0 : List (S94)) (a1 : Int) (a2 : Int) (r : Int) (w : World) (hr0 : Kd.C k94 w A0 l0.length l0) (hc0 : l0.length ≤ c0) (h : spec_l5Check.f k l0 a1 a2 = some r),
    Calls Try.prog 63 #[.slice A0 l0.length c0, .int .i64 a1, .int .i64 a2] w fun e w' => e = .returned (.int .i64 r) ∧ Below w.heap.size w w' := by
 induction k using Nat.strongRecOn with
 | _ k ih =>
 intro A0 c0 l0 a1 a2 r w hr0 hc0 h
 cases k with
 | zero => exact absurd h (by simp [spec_l5Check.f])
 | succ k =>
 simp only [spec_l5Check.f] at h
 have hu94 := Try.underlying94
 have HR0 := am hr0
 have HC0 := am hc0
 clear hr0 hc0
 have HB := am (Below.refl w.heap.size w)
 have H := h; clear h; unfold spec_l5Check.f at H
 have HC4 := am H
 clear H
 go_enter Try.func63, Try.ntmps63
 go_upto_region 1 with (fail)
 repeat (go_quiet (fail); go_upto_region 1 with (fail))
 go_cut [19] (fun v19 wc => ∃ (kq : Nat) (x19_3 : Bool), v19 = .bool x19_3 ∧ Aside0 (spec_l5Check.j0 kq l0 a1 a2 x19_3 = some r) ∧ Aside0 (kq ≤ k) ∧ Aside0 (Below w.heap.size w wc))
 case first =>
  have H := HC4.out
  clear HC4
  replace H := ige H; obtain ⟨c5b0, H⟩ | ⟨c5b0, H⟩ := H
  · (first | rw [c5b0] | (simp only [i64_w, i32_w]; rw [c5b0]) | skip)
    have H' := am H; clear H
    go_wp2
    repeat (go_quiet (fail); try go_wp2)
    go_meet
    case rel => exact ⟨_, (true), sr, H', ⟨by first | omega | exact Nat.le_refl _⟩, ⟨bL HB⟩⟩
  (first | rw [c5b0] | (simp only [i64_w, i32_w]; rw [c5b0]) | skip)
  have H' := am H; clear H
  go_wp2
  repeat (go_quiet (fail); try go_wp2)
  go_meet
  case rel => exact ⟨_, (decide (a2 > 6)), sr, H', ⟨by first | omega | exact Nat.le_refl _⟩, ⟨bL HB⟩⟩
 clear HC4
 obtain ⟨kq, x19_3, rfl, HA, HJ3, HB⟩ := hcut
 cases kq with
 | zero => exact absurd HA.out (by simp [spec_l5Check.j0])
 | succ kj3 => ?_
 have H := HA.out
 clear HA
 simp only [spec_l5Check.j0] at H
 replace H := ibt H; obtain ⟨rfl, H⟩ | ⟨rfl, H⟩ := H
 · obtain rfl := Option.some.inj H
   go_wp2
   repeat (go_quiet (fail); try go_wp2)
   go_ret
   exact fin_ (bL HB)
 replace H := if_dd H; obtain ⟨c7b0, c8b0, H⟩ := H
 have HC9 := am H
 clear H
 obtain ⟨p160, q160, ad160, e160, hx160_0, hx160_1, hx160_2, hx160_3⟩ := at_T94b HB HR0 a1; cases e160
 go_upto_region 4 with (first | ((with_reducible refine gd 7 rfl ?_); refine bxw 7 rfl #[.string ⟨#[]⟩, .int .i64 0, .int .i64 0, .int .i64 0] 94 HB ?_; clear HB; intro gb161 w10 BK161 GW161 GE161 HB; obtain ⟨hcz11_0, hcz11_1, hcz11_2, hcz11_3, hfz11_0, hfz11_1, hfz11_2, hfz11_3⟩ := cl4 BK161))
 repeat (go_quiet (fail); go_upto_region 4 with (first | ((with_reducible refine gd 7 rfl ?_); refine bxw 7 rfl #[.string ⟨#[]⟩, .int .i64 0, .int .i64 0, .int .i64 0] 94 HB ?_; clear HB; intro gb161 w10 BK161 GW161 GE161 HB; obtain ⟨hcz11_0, hcz11_1, hcz11_2, hcz11_3, hfz11_0, hfz11_1, hfz11_2, hfz11_3⟩ := cl4 BK161)))
 (try simp only [Act.put, List.setIfInBounds_toArray, List.set_cons_zero, List.set_cons_succ])
 go_cut [56] (fun v56 wc => ∃ (kq : Nat) (x56_8 : Bool), v56 = .bool x56_8 ∧ Aside0 (spec_l5Check.j1 kq l0 a1 a2 x56_8 ((rd_T94 l0 a1).f0) ((rd_T94 l0 a1).f1) ((rd_T94 l0 a1).f2) ((rd_T94 l0 a1).f3) = some r) ∧ Aside0 (kq ≤ kj3) ∧ Aside0 (wc.heap[gb161]? = some (.cells #[.string ((rd_T94 l0 a1).f0), .int .i64 ((rd_T94 l0 a1).f1), .int .i64 ((rd_T94 l0 a1).f2), .int .i64 ((rd_T94 l0 a1).f3)] 94 (0, 0))) ∧ Aside0 (Below w.heap.size w wc))
 case first =>
  have H := HC9.out
  clear HC9
  replace H := ieq H; obtain ⟨c12b0, c12b1, H⟩ | ⟨c12, c12b0, c12b1, H⟩ := H
  rotate_left
  · (first | rw [c12b0] | rw [c12b1] | (simp only [i64_w, i32_w]; rw [c12b0]) | skip)
    replace H := igt H; obtain ⟨c27b0, H⟩ | ⟨c27b0, H⟩ := H
    rotate_left
    · replace H := bnd H; obtain ⟨t167, A33, H⟩ := H
      have H' := am H; clear H
      obtain ⟨_, _, _, _, _, _, _, _⟩ := cl4 BK161
      iterate 6 (try go_wp2_with (first | (go_at_call 55; (with_reducible refine (spec_l1In.calls A33.out).mono ?_); rintro e w' ⟨rfl, ⟨nd, rfl⟩⟩; (try exact dn2))); try go_quiet (first | (go_at_call 55; (with_reducible refine (spec_l1In.calls A33.out).mono ?_); rintro e w' ⟨rfl, ⟨nd, rfl⟩⟩; (try exact dn2))))
      go_meet
      case rel => exact ⟨_, (!t167), sr, H', ⟨by have := HJ3.out; first | omega | exact Nat.le_refl _⟩, ⟨kL BK161⟩, ⟨bL HB⟩⟩
    replace H := bnd H; obtain ⟨t165, A28, H⟩ := H
    replace H := ibt H; obtain ⟨rfl, H⟩ | ⟨rfl, H⟩ := H
    rotate_left
    · have H' := am H; clear H
      obtain ⟨_, _, _, _, _, _, _, _⟩ := cl4 BK161
      iterate 6 (try go_wp2_with (first | (go_at_call 80; (with_reducible refine (spec_l5Name.calls A28.out).mono ?_); rintro e w' ⟨rfl, ⟨nd, rfl⟩⟩; (try exact dn2))); try go_quiet (first | (go_at_call 80; (with_reducible refine (spec_l5Name.calls A28.out).mono ?_); rintro e w' ⟨rfl, ⟨nd, rfl⟩⟩; (try exact dn2))))
      go_meet
      case rel => exact ⟨_, (true), sr, H', ⟨by have := HJ3.out; first | omega | exact Nat.le_refl _⟩, ⟨kL BK161⟩, ⟨bL HB⟩⟩
    replace H := bnd H; obtain ⟨t166, A30, H⟩ := H
    have H' := am H; clear H
    obtain ⟨_, _, _, _, _, _, _, _⟩ := cl4 BK161
    iterate 6 (try go_wp2_with (first | (go_at_call 80; (with_reducible refine (spec_l5Name.calls A28.out).mono ?_); rintro e w' ⟨rfl, ⟨nd, rfl⟩⟩; (try exact dn2)) | (go_at_call 55; (with_reducible refine (spec_l1In.calls A30.out).mono ?_); rintro e w' ⟨rfl, ⟨nd, rfl⟩⟩; (try exact dn2))); try go_quiet (first | (go_at_call 80; (with_reducible refine (spec_l5Name.calls A28.out).mono ?_); rintro e w' ⟨rfl, ⟨nd, rfl⟩⟩; (try exact dn2)) | (go_at_call 55; (with_reducible refine (spec_l1In.calls A30.out).mono ?_); rintro e w' ⟨rfl, ⟨nd, rfl⟩⟩; (try exact dn2))))
    go_meet
    case rel => exact ⟨_, (!t166), sr, H', ⟨by have := HJ3.out; first | omega | exact Nat.le_refl _⟩, ⟨kL BK161⟩, ⟨bL HB⟩⟩
  (first | rw [c12b0] | rw [c12b1] | (simp only [i64_w, i32_w]; rw [c12b0]) | skip)
  by_cases c13 : ((rd_T94 l0 a1).f0).toList = ([] : List UInt8)
  rotate_left
  · rw [if_neg c13] at H
    have c13b0 : (((rd_T94 l0 a1).f0).toList == ([] : List UInt8)) = false := beq_eq_false_iff_ne.mpr c13
    try have c13b7 : ((rd_T94 l0 a1).f0).toList.isEmpty = false := by simpa using c13
    have c13b1 : (((rd_T94 l0 a1).f0).toList != ([] : List UInt8)) = true := bne_iff_ne.mpr c13
    have H' := am H; clear H
    obtain ⟨_, _, _, _, _, _, _, _⟩ := cl4 BK161
    go_wp2
    repeat (go_quiet (fail); try go_wp2)
    go_meet
    case rel => exact ⟨_, (true), sr, H', ⟨by have := HJ3.out; first | omega | exact Nat.le_refl _⟩, ⟨kL BK161⟩, ⟨bL HB⟩⟩
  rw [if_pos c13] at H
  have c13b0 : (((rd_T94 l0 a1).f0).toList == ([] : List UInt8)) = true := beq_iff_eq.mpr c13
  try have c13b7 : ((rd_T94 l0 a1).f0).toList.isEmpty = true := by simpa using c13
  have c13b1 : (((rd_T94 l0 a1).f0).toList != ([] : List UInt8)) = false := bne_eq_false_iff_eq.mpr c13
  clear c13
  replace H := ieq H; obtain ⟨c14b0, c14b1, H⟩ | ⟨c14, c14b0, c14b1, H⟩ := H
  rotate_left
  · have H' := am H; clear H
    obtain ⟨_, _, _, _, _, _, _, _⟩ := cl4 BK161
    go_wp2
    repeat (go_quiet (fail); try go_wp2)
    go_meet
    case rel => exact ⟨_, (true), sr, H', ⟨by have := HJ3.out; first | omega | exact Nat.le_refl _⟩, ⟨kL BK161⟩, ⟨bL HB⟩⟩
  replace H := ieq H; obtain ⟨c15b0, c15b1, H⟩ | ⟨c15, c15b0, c15b1, H⟩ := H
  rotate_left
  · have H' := am H; clear H
    obtain ⟨_, _, _, _, _, _, _, _⟩ := cl4 BK161
    go_wp2
    repeat (go_quiet (fail); try go_wp2)
    go_meet
    case rel => exact ⟨_, (true), sr, H', ⟨by have := HJ3.out; first | omega | exact Nat.le_refl _⟩, ⟨kL BK161⟩, ⟨bL HB⟩⟩
  replace H := igt H; obtain ⟨c16b0, H⟩ | ⟨c16b0, H⟩ := H
  rotate_left
  · replace H := bnd H; obtain ⟨t164, A22, H⟩ := H
    have H' := am H; clear H
    obtain ⟨_, _, _, _, _, _, _, _⟩ := cl4 BK161
    iterate 6 (try go_wp2_with (first | (go_at_call 55; (with_reducible refine (spec_l1In.calls A22.out).mono ?_); rintro e w' ⟨rfl, ⟨nd, rfl⟩⟩; (try exact dn2))); try go_quiet (first | (go_at_call 55; (with_reducible refine (spec_l1In.calls A22.out).mono ?_); rintro e w' ⟨rfl, ⟨nd, rfl⟩⟩; (try exact dn2))))
    go_meet
    case rel => exact ⟨_, (!t164), sr, H', ⟨by have := HJ3.out; first | omega | exact Nat.le_refl _⟩, ⟨kL BK161⟩, ⟨bL HB⟩⟩
  replace H := bnd H; obtain ⟨t162, A17, H⟩ := H
  replace H := ibt H; obtain ⟨rfl, H⟩ | ⟨rfl, H⟩ := H
  rotate_left
  · have H' := am H; clear H
    obtain ⟨_, _, _, _, _, _, _, _⟩ := cl4 BK161
    iterate 6 (try go_wp2_with (first | (go_at_call 80; (with_reducible refine (spec_l5Name.calls A17.out).mono ?_); rintro e w' ⟨rfl, ⟨nd, rfl⟩⟩; (try exact dn2))); try go_quiet (first | (go_at_call 80; (with_reducible refine (spec_l5Name.calls A17.out).mono ?_); rintro e w' ⟨rfl, ⟨nd, rfl⟩⟩; (try exact dn2))))
    go_meet
    case rel => exact ⟨_, (true), sr, H', ⟨by have := HJ3.out; first | omega | exact Nat.le_refl _⟩, ⟨kL BK161⟩, ⟨bL HB⟩⟩
  replace H := bnd H; obtain ⟨t163, A19, H⟩ := H
  have H' := am H; clear H
  obtain ⟨_, _, _, _, _, _, _, _⟩ := cl4 BK161
  iterate 6 (try go_wp2_with (first | (go_at_call 80; (with_reducible refine (spec_l5Name.calls A17.out).mono ?_); rintro e w' ⟨rfl, ⟨nd, rfl⟩⟩; (try exact dn2)) | (go_at_call 55; (with_reducible refine (spec_l1In.calls A19.out).mono ?_); rintro e w' ⟨rfl, ⟨nd, rfl⟩⟩; (try exact dn2))); try go_quiet (first | (go_at_call 80; (with_reducible refine (spec_l5Name.calls A17.out).mono ?_); rintro e w' ⟨rfl, ⟨nd, rfl⟩⟩; (try exact dn2)) | (go_at_call 55; (with_reducible refine (spec_l1In.calls A19.out).mono ?_); rintro e w' ⟨rfl, ⟨nd, rfl⟩⟩; (try exact dn2))))
  go_meet
  case rel => exact ⟨_, (!t163), sr, H', ⟨by have := HJ3.out; first | omega | exact Nat.le_refl _⟩, ⟨kL BK161⟩, ⟨bL HB⟩⟩
 clear HC9
 try clear c6 c7b0 c8b0 hcz11_0 hcz11_1 hcz11_2 hcz11_3 hfz11_0 hfz11_1 hfz11_2 hfz11_3 hx160_0 hx160_1 hx160_2 hx160_3 p160 q160
 obtain ⟨kq, x56_8, rfl, HA, HJ8, BK161, HB⟩ := hcut
 cases kq with
 | zero => exact absurd HA.out (by simp [spec_l5Check.j1])
 | succ kj8 => ?_
 have H := HA.out
 clear HA
 simp only [spec_l5Check.j1] at H
 replace H := ibt H; obtain ⟨rfl, H⟩ | ⟨rfl, H⟩ := H
 · obtain rfl := Option.some.inj H
   go_wp2
   repeat (go_quiet (fail); try go_wp2)
   go_ret
   exact fin_ (bL HB)
 replace H := ieq H; obtain ⟨c36b0, c36b1, H⟩ | ⟨c36, c36b0, c36b1, H⟩ := H
 rotate_left
 · replace H := bnd H; obtain ⟨t168, A65, H⟩ := H
   replace H := ibt H; obtain ⟨rfl, H⟩ | ⟨rfl, H⟩ := H
   rotate_left
   · obtain rfl := Option.some.inj H
     obtain ⟨_, _, _, _, _, _, _, _⟩ := cl4 BK161
     iterate 6 (try go_wp2_with (first | (go_at_call 57; (with_reducible refine (spec_l5Type.calls A65.out).mono ?_); rintro e w' ⟨rfl, ⟨nd, rfl⟩⟩; (try exact dn2))); try go_quiet (first | (go_at_call 57; (with_reducible refine (spec_l5Type.calls A65.out).mono ?_); rintro e w' ⟨rfl, ⟨nd, rfl⟩⟩; (try exact dn2))))
     go_ret
     exact fin_ (bL HB)
   replace H := ieq H; obtain ⟨c67b0, c67b1, H⟩ | ⟨c67, c67b0, c67b1, H⟩ := H
   · obtain rfl := Option.some.inj H
     obtain ⟨_, _, _, _, _, _, _, _⟩ := cl4 BK161
     iterate 6 (try go_wp2_with (first | (go_at_call 57; (with_reducible refine (spec_l5Type.calls A65.out).mono ?_); rintro e w' ⟨rfl, ⟨nd, rfl⟩⟩; (try exact dn2))); try go_quiet (first | (go_at_call 57; (with_reducible refine (spec_l5Type.calls A65.out).mono ?_); rintro e w' ⟨rfl, ⟨nd, rfl⟩⟩; (try exact dn2))))
     go_ret
     exact fin_ (bL HB)
   obtain rfl := Option.some.inj H
   obtain ⟨_, _, _, _, _, _, _, _⟩ := cl4 BK161
   iterate 6 (try go_wp2_with (first | (go_at_call 57; (with_reducible refine (spec_l5Type.calls A65.out).mono ?_); rintro e w' ⟨rfl, ⟨nd, rfl⟩⟩; (try exact dn2))); try go_quiet (first | (go_at_call 57; (with_reducible refine (spec_l5Type.calls A65.out).mono ?_); rintro e w' ⟨rfl, ⟨nd, rfl⟩⟩; (try exact dn2))))
   go_ret
   exact fin_ (bL HB)
 replace H := idc H; obtain ⟨c37b0, H⟩ | ⟨c37b0, H⟩ := H
 · obtain rfl := Option.some.inj H
   obtain ⟨_, _, _, _, _, _, _, _⟩ := cl4 BK161
   go_wp2
   repeat (go_quiet (fail); try go_wp2)
   go_ret
   exact fin_ (bL HB)
 obtain ⟨y169, hy169⟩ : ∃ y_ : List ByteArray, y_ = (([] : List ByteArray)) := ⟨_, rfl⟩
 replace H : (spec_l5Check.l0 kj8 l0 a2 (wrap64 (a1 + 1)) y169 0 ((rd_T94 l0 a1).f0) ((rd_T94 l0 a1).f1) ((rd_T94 l0 a1).f2) ((rd_T94 l0 a1).f3)) = some r := by first | (rw [hy169]; with_reducible exact H) | (rw [hy169]; exact H) | exact H
 have Ny169 := am hy169
 clear hy169
 have H' := am H; clear H
 obtain ⟨hcz39_0, hcz39_1, hcz39_2, hcz39_3, hfz39_0, hfz39_1, hfz39_2, hfz39_3⟩ := cl4 BK161
 iterate 6 (try go_wp2_with (first | ((with_reducible refine gd 76 rfl ?_); refine Kd.R_lit Kd.string _ 9 ?hg (N := 76) ?hd (xs := ([] : List ByteArray)) (inner := []) (ok := fun _ => True) (okp := fun _ => True) ?hr ?hp (fun _ hk => hk) trivial (Below.refl _ _) (Nat.le_refl _) (by simp) ?_; (case hd => rfl); (case hg => rfl); (case hr => first | (go_simp; done) | (go_simp; rfl)); (case hp => exact (Reps.none _ _)); intro v170 w40 ho41 hb hg_ hnew_; clear hg_ hnew_; (first | rw [← Ny169.out] at ho41 | (simp only [Int.reduceToNat] at ho41; rw [← Ny169.out] at ho41)); have HO171 := rlb ho41 HB; replace BK161 := bkb BK161 hb; replace HB := bst HB hb; clear hb ho41)); try go_quiet (fail))
 go_loopg [8, 9, 10] kj8 (fun kq v8 v9 v10 w' => ∃ (x8_3 : Int) (x9_3 : List ByteArray) (x10_3 : Int), v8 = .int .i64 x8_3 ∧ v10 = .int .i64 x10_3 ∧ Aside0 (spec_l5Check.l0 kq l0 a2 x8_3 x9_3 x10_3 ((rd_T94 l0 a1).f0) ((rd_T94 l0 a1).f1) ((rd_T94 l0 a1).f2) ((rd_T94 l0 a1).f3) = some r) ∧ Aside0 (kq ≤ kj8) ∧ Aside0 (Kd.R Kd.string 9 w' w.heap.size (fun _ => True) v9 x9_3) ∧ Aside0 (w'.heap[gb161]? = some (.cells #[.string ((rd_T94 l0 a1).f0), .int .i64 ((rd_T94 l0 a1).f1), .int .i64 ((rd_T94 l0 a1).f2), .int .i64 ((rd_T94 l0 a1).f3)] 94 (0, 0))) ∧ Aside0 (Below w.heap.size w w'))
 case atStart => exact ⟨(wrap64 (a1 + 1)), (y169), (0), sr, sr, H', ⟨Nat.le_refl _⟩, ⟨rL HO171⟩, ⟨kL BK161⟩, ⟨bL HB⟩⟩
 clear H'
 try clear c6 c7b0 c8b0 c35 c36 c36b0 c36b1 c37 c37b0 hcz11_0 hcz11_1 hcz11_2 hcz11_3 hcz39_0 hcz39_1 hcz39_2 hcz39_3 hfz11_0 hfz11_1 hfz11_2 hfz11_3 hfz39_0 hfz39_1 hfz39_2 hfz39_3 hx160_0 hx160_1 hx160_2 hx160_3 p160 q160
 obtain ⟨x8_3, x9_3, x10_3, rfl, rfl, HA, HK3, HO_9, BK161, HB⟩ := hrel
 cases gk with
 | zero => exact absurd HA.out (by simp [spec_l5Check.l0])
 | succ k3 => ?_
 have H := HA.out
 clear HA
 simp only [spec_l5Check.l0] at H
 replace H := idc H; obtain ⟨c42b0, H⟩ | ⟨c42b0, H⟩ := H
 rotate_left
 · obtain rfl := Option.some.inj H
   obtain ⟨_, _, _, _, _, _, _, _⟩ := cl4 BK161
   go_wp2
   repeat (go_quiet (fail); try go_wp2)
   go_ret
   exact fin_ (bL HB)
 replace H := ige H; obtain ⟨c43b0, H⟩ | ⟨c43b0, H⟩ := H
 · obtain rfl := Option.some.inj H
   obtain ⟨_, _, _, _, _, _, _, _⟩ := cl4 BK161
   go_wp2
   repeat (go_quiet (fail); try go_wp2)
   go_ret
   exact fin_ (bL HB)
 have H' := am H; clear H
 obtain ⟨hcz45_0, hcz45_1, hcz45_2, hcz45_3, hfz45_0, hfz45_1, hfz45_2, hfz45_3⟩ := cl4 BK161
 go_wp2
 repeat (go_quiet (fail); try go_wp2)
 go_loopg [11] k3 (fun kq v11 w' => ∃ (x11_4 : Int), v11 = .int .i64 x11_4 ∧ Aside0 (spec_l5Check.l1 kq l0 a2 x8_3 x9_3 x10_3 x11_4 ((rd_T94 l0 a1).f0) ((rd_T94 l0 a1).f1) ((rd_T94 l0 a1).f2) ((rd_T94 l0 a1).f3) = some r) ∧ Aside0 (kq ≤ k3) ∧ Aside0 (Kd.R Kd.string 9 w' w.heap.size (fun _ => True) u9 x9_3) ∧ Aside0 (w'.heap[gb161]? = some (.cells #[.string ((rd_T94 l0 a1).f0), .int .i64 ((rd_T94 l0 a1).f1), .int .i64 ((rd_T94 l0 a1).f2), .int .i64 ((rd_T94 l0 a1).f3)] 94 (0, 0))) ∧ Aside0 (Below w.heap.size w w'))
 case atStart => exact ⟨(0), sr, H', ⟨Nat.le_refl _⟩, ⟨rL HO_9⟩, ⟨kL BK161⟩, ⟨bL HB⟩⟩
 clear H'
 try clear c6 c7b0 c8b0 c35 c36 c36b0 c36b1 c37 c37b0 c42 c42b0 c43 c43b0 hcz11_0 hcz11_1 hcz11_2 hcz11_3 hcz39_0 hcz39_1 hcz39_2 hcz39_3 hcz45_0 hcz45_1 hcz45_2 hcz45_3 hfz11_0 hfz11_1 hfz11_2 hfz11_3 hfz39_0 hfz39_1 hfz39_2 hfz39_3 hfz45_0 hfz45_1 hfz45_2 hfz45_3 hx160_0 hx160_1 hx160_2 hx160_3 p160 q160
 obtain ⟨x11_4, rfl, HA, HK4, HO_9, BK161, HB⟩ := hrel
 cases gk with
 | zero => exact absurd HA.out (by simp [spec_l5Check.l1])
 | succ k4 => ?_
 have H := HA.out
 clear HA
 simp only [spec_l5Check.l1] at H
 replace H := idc H; obtain ⟨c46b0, H⟩ | ⟨c46b0, H⟩ := H
 · replace H := if_ddd H; obtain ⟨c47b0, c48b0, c49b0, H⟩ := H
   replace H := ieq H; obtain ⟨c50b0, c50b1, H⟩ | ⟨c50, c50b0, c50b1, H⟩ := H
   · obtain rfl := Option.some.inj H
     obtain ⟨Ao51, co51, eo51⟩ := Kd.R_slice HO_9.out
     subst eo51
     have p172 : 0 ≤ (x11_4 : Int) := dcd
     have q172 : x11_4 < (x9_3.length : Int) := dcd
     obtain ⟨ad172, e172, hx172_0⟩ := Kd.at_string (Kd.R_reads' HO_9.out).2.2 x11_4 p172 q172
     cases e172
     replace p172 := eq_true p172
     replace q172 := eq_true q172
     have p173 : 0 ≤ (x8_3 : Int) := dcd
     have q173 : x8_3 < (l0.length : Int) := dcd
     obtain ⟨ad173, e173, hx173_0, hx173_1, hx173_2, hx173_3⟩ := at_T94 HR0.out x8_3 p173 q173
     obtain rfl : ad160 = ad173 := (by injection e173)
     replace hx173_0 := crd HB hx173_0
     replace hx173_1 := crd HB hx173_1
     replace hx173_2 := crd HB hx173_2
     replace hx173_3 := crd HB hx173_3
     replace p173 := eq_true p173
     replace q173 := eq_true q173
     go_wp2
     repeat (go_quiet (fail); try go_wp2)
     go_ret
     exact fin_ (bL HB)
   have H' := am H; clear H
   obtain ⟨Ao52, co52, eo52⟩ := Kd.R_slice HO_9.out
   subst eo52
   have p172 : 0 ≤ (x11_4 : Int) := dcd
   have q172 : x11_4 < (x9_3.length : Int) := dcd
   obtain ⟨ad172, e172, hx172_0⟩ := Kd.at_string (Kd.R_reads' HO_9.out).2.2 x11_4 p172 q172
   cases e172
   replace p172 := eq_true p172
   replace q172 := eq_true q172
   have p173 : 0 ≤ (x8_3 : Int) := dcd
   have q173 : x8_3 < (l0.length : Int) := dcd
   obtain ⟨ad173, e173, hx173_0, hx173_1, hx173_2, hx173_3⟩ := at_T94 HR0.out x8_3 p173 q173
   obtain rfl : ad160 = ad173 := (by injection e173)
   replace hx173_0 := crd HB hx173_0
   replace hx173_1 := crd HB hx173_1
   replace hx173_2 := crd HB hx173_2
   replace hx173_3 := crd HB hx173_3
   replace p173 := eq_true p173
   replace q173 := eq_true q173
   go_wp2
   repeat (go_quiet (fail); try go_wp2)
   go_roundg k4
   case measure => have := HJ3.out; have := HJ8.out; have := HK3.out; have := HK4.out; omega
   case rel => exact ⟨(wrap64 (x11_4 + 1)), sr, H', ⟨by have := HJ3.out; have := HJ8.out; have := HK3.out; have := HK4.out; omega⟩, ⟨rL HO_9⟩, ⟨kL BK161⟩, ⟨bL HB⟩⟩
 replace H := if_dds H; obtain ⟨c53b0, c54b0, c55, H⟩ := H
 have LMc55 := am c55
 clear c55
 obtain ⟨y175, hy175⟩ : ∃ y_ : List ByteArray, y_ = (x9_3 ++ [(rd_T94 l0 x8_3).f0]) := ⟨_, rfl⟩
 replace H : ((spec_l5Check.f k4 l0 x8_3 (wrap64 (a2 + 1))).bind fun t178 => (if t178 < 0 then (some (-1)) else (spec_l5Check.l0 k4 l0 a2 t178 y175 (wrap64 (x10_3 + 1)) ((rd_T94 l0 a1).f0) ((rd_T94 l0 a1).f1) ((rd_T94 l0 a1).f2) ((rd_T94 l0 a1).f3)))) = some r := by first | (rw [hy175]; with_reducible exact H) | (rw [hy175]; exact H) | exact H
 have Ny175 := am hy175
 clear hy175
 replace H := bnd H; obtain ⟨t178, A56, H⟩ := H
 replace H := idc H; obtain ⟨c57b0, H⟩ | ⟨c57b0, H⟩ := H
 · obtain rfl := Option.some.inj H
   obtain ⟨Ao58, co58, eo58⟩ := Kd.R_slice HO_9.out
   subst eo58
   have p174 : 0 ≤ (x8_3 : Int) := dcd
   have q174 : x8_3 < (l0.length : Int) := dcd
   obtain ⟨ad174, e174, hx174_0, hx174_1, hx174_2, hx174_3⟩ := at_T94 HR0.out x8_3 p174 q174
   obtain rfl : ad160 = ad174 := (by injection e174)
   replace hx174_0 := crd HB hx174_0
   replace hx174_1 := crd HB hx174_1
   replace hx174_2 := crd HB hx174_2
   replace hx174_3 := crd HB hx174_3
   replace p174 := eq_true p174
   replace q174 := eq_true q174
   iterate 6 (try go_wp2_with (first | ((with_reducible refine gate_builtin (b := .append) (xs := #[.tmp 103, .tmp 109]) rfl ?_); at_builtin; refine Kd.R_append Kd.string (w0 := w) w.heap.size rfl (.tmp 103) (.tmp 109) 132 9 (.string ⟨#[]⟩) 16 rfl Try.underlying132 info9 rfl (by decide) (by omega) (.slice Ao58 x9_3.length co58) x9_3 ((rd_T94 l0 x8_3).f0) [.string ((rd_T94 l0 x8_3).f0)] (fun _ => True) (fun _ => False) rfl rfl ?aP (fun _ hk => hk.elim) ?aF ?aO ?aB ?aS ?aL ?_; (case aP => exact rfl); (case aB => exact (bL HB)); (case aF => exact (fun _ _ => trivial)); (case aO => exact (rL HO_9)); (case aS => exact (below_size (bL HB))); (case aL => have := LMc55.out; omega); intro v176 w59 ho hb hg hat; rw [← Ny175.out] at ho; have HO177 := am ho; replace BK161 := bgr BK161 hg HO_9; replace HB := am hb; clear HO_9; clear ho hb hg hat) | (go_at_call 63; (with_reducible refine (ih k4 (by have := HJ3.out; have := HJ8.out; have := HK3.out; have := HK4.out; omega) _ _ l0 x8_3 (wrap64 (a2 + 1)) t178 _ ?side1 ?side2 A56.out).mono ?_); (case side1 => repeat (first | exact (Kd.C_below HR0.out HB.out) | (with_reducible refine Kd.C_alloc ?_ _) | (with_reducible refine Kd.C_drewN ?_ _) | (with_reducible refine Kd.C_drew ?_))); (case side2 => exact HC0.out); rintro e w60 ⟨rfl, hb⟩; replace HO177 := rbe HO177 hb; replace BK161 := bkb BK161 hb; replace HB := bst HB hb; clear hb)); try go_quiet (fail))
   go_ret
   exact fin_ (bL HB)
 have H' := am H; clear H
 obtain ⟨Ao61, co61, eo61⟩ := Kd.R_slice HO_9.out
 subst eo61
 have p174 : 0 ≤ (x8_3 : Int) := dcd
 have q174 : x8_3 < (l0.length : Int) := dcd
 obtain ⟨ad174, e174, hx174_0, hx174_1, hx174_2, hx174_3⟩ := at_T94 HR0.out x8_3 p174 q174
 obtain rfl : ad160 = ad174 := (by injection e174)
 replace hx174_0 := crd HB hx174_0
 replace hx174_1 := crd HB hx174_1
 replace hx174_2 := crd HB hx174_2
 replace hx174_3 := crd HB hx174_3
 replace p174 := eq_true p174
 replace q174 := eq_true q174
 iterate 6 (try go_wp2_with (first | ((with_reducible refine gate_builtin (b := .append) (xs := #[.tmp 103, .tmp 109]) rfl ?_); at_builtin; refine Kd.R_append Kd.string (w0 := w) w.heap.size rfl (.tmp 103) (.tmp 109) 132 9 (.string ⟨#[]⟩) 16 rfl Try.underlying132 info9 rfl (by decide) (by omega) (.slice Ao61 x9_3.length co61) x9_3 ((rd_T94 l0 x8_3).f0) [.string ((rd_T94 l0 x8_3).f0)] (fun _ => True) (fun _ => False) rfl rfl ?aP (fun _ hk => hk.elim) ?aF ?aO ?aB ?aS ?aL ?_; (case aP => exact rfl); (case aB => exact (bL HB)); (case aF => exact (fun _ _ => trivial)); (case aO => exact (rL HO_9)); (case aS => exact (below_size (bL HB))); (case aL => have := LMc55.out; omega); intro v176 w62 ho hb hg hat; rw [← Ny175.out] at ho; have HO177 := am ho; replace BK161 := bgr BK161 hg HO_9; replace HB := am hb; clear HO_9; clear ho hb hg hat) | (go_at_call 63; (with_reducible refine (ih k4 (by have := HJ3.out; have := HJ8.out; have := HK3.out; have := HK4.out; omega) _ _ l0 x8_3 (wrap64 (a2 + 1)) t178 _ ?side1 ?side2 A56.out).mono ?_); (case side1 => repeat (first | exact (Kd.C_below HR0.out HB.out) | (with_reducible refine Kd.C_alloc ?_ _) | (with_reducible refine Kd.C_drewN ?_ _) | (with_reducible refine Kd.C_drew ?_))); (case side2 => exact HC0.out); rintro e w63 ⟨rfl, hb⟩; replace HO177 := rbe HO177 hb; replace BK161 := bkb BK161 hb; replace HB := bst HB hb; clear hb)); try go_quiet (fail))
 go_roundg k4
 case measure => have := HJ3.out; have := HJ8.out; have := HK3.out; have := HK4.out; omega
 case rel => exact ⟨(t178), (y175), (wrap64 (x10_3 + 1)), sr, sr, H', ⟨by have := HJ3.out; have := HJ8.out; have := HK3.out; have := HK4.out; omega⟩, ⟨rL HO177⟩, ⟨kL BK161⟩, ⟨bL HB⟩⟩
/-! ### spec_SchemaOk: function 48 -/
def spec_SchemaOk.f (k : Nat) (l0 : List (S94)) : Option (Bool) := (spec_l1In.f (l0.length : Int) 2 20).bind fun t179 => (if t179 = true then ((spec_l5Check.f k l0 0 1).bind fun t180 => (some (t180 == (l0.length : Int)))) else (some false))
theorem spec_SchemaOk.calls {k : Nat} {A0 : Option Addr} {c0 : Nat} {l0 : List (S94)} {r : Bool} {w : World} (hr0 : Kd.C k94 w A0 l0.length l0) (hc0 : l0.length ≤ c0) (h : spec_SchemaOk.f k l0 = some r) :
    Calls Try.prog 48 #[.slice A0 l0.length c0] w fun e w' => e = .returned (.bool r) ∧ Below w.heap.size w w' := by
 have HR0 := am hr0
 have HC0 := am hc0
 clear hr0 hc0
 have HB := am (Below.refl w.heap.size w)
 have H := h; clear h; unfold spec_SchemaOk.f at H
 replace H := bnd H; obtain ⟨t179, A2, H⟩ := H
 replace H := ibt H; obtain ⟨rfl, H⟩ | ⟨rfl, H⟩ := H
 rotate_left
 · obtain rfl := Option.some.inj H
   go_enter Try.func48, Try.ntmps48
   go_wp2_with (first | ((with_reducible refine gc 55 rfl ?_); refine gc1 (some 5) Try.func55 rfl (spec_l1In.calls A2.out) ?_; rintro w' ⟨nd, rfl⟩))
   go_ret
   exact fin_ (bL HB)
 replace H := bnd H; obtain ⟨t180, A4, H⟩ := H
 obtain rfl := Option.some.inj H
 go_enter Try.func48, Try.ntmps48
 go_wp2_with (first | ((with_reducible refine gc 55 rfl ?_); refine gc1 (some 5) Try.func55 rfl (spec_l1In.calls A2.out) ?_; rintro w' ⟨nd, rfl⟩) | (go_at_call 63; (with_reducible refine (spec_l5Check.calls k _ _ l0 0 1 t180 _ ?side1 ?side2 A4.out).mono ?_); (case side1 => exact C_later HR0.out); (case side2 => exact HC0.out); rintro e w5 ⟨rfl, hb⟩; replace HB := bst HB hb; clear hb))
 go_ret
 exact fin_ (bL HB)
/-! ### spec_l5DrawRight: function 24 -/
def spec_l5DrawRight.l0 : Nat → Int → List Int → Int → Int → Option ((List (S94)) × Int × Int)
  | 0, _, _, _, _ => none
  | k + 1, x3, x1000, x1001, x1002 => if x3 < 9 then ((spec_l1Below.f x1000 x1001 x1002 3).bind fun bt184 => ((spec_l5DrawCol.f k x1000 bt184.2.1 bt184.2.2 (⟨#[]⟩ : ByteArray) (wrap64 (1 + bt184.1)) (([] : List (S94)))).bind fun bt190 => ((spec_SchemaOk.f k bt190.1).bind fun t195 => (if t195 = true then (some (bt190.1, bt190.2.1, bt190.2.2)) else (spec_l5DrawRight.l0 k (wrap64 (x3 + 1)) x1000 bt190.2.1 bt190.2.2))))) else (some ((([(⟨(⟨#[]⟩ : ByteArray), 7, 0, 1⟩ : S94), (⟨(⟨#[97]⟩ : ByteArray), 2, 1, 0⟩ : S94)] : List (S94))), x1001, x1002))
def spec_l5DrawRight.f (k : Nat) (s0_0 : List Int) (s0_1 : Int) (s0_2 : Int) : Option ((List (S94)) × Int × Int) := spec_l5DrawRight.l0 k 0 s0_0 s0_1 s0_2
theorem spec_l5DrawRight.calls {k g : Nat} {s0_0 : List Int} {s0_1 s0_2 : Int} {r1 : List (S94)} {r2 r3 : Int} {w0 w : World} (hI : IsS57 w0 w g s0_0 s0_1 s0_2) (hB : Below w0.heap.size w0 w) (h : spec_l5DrawRight.f k s0_0 s0_1 s0_2 = some (r1, r2, r3)) :
    Calls Try.prog 24 #[.pointer (some ⟨g, 0, none⟩)] w fun e w' => ∃ v0_ : Value, e = .returned (v0_) ∧ Kd.R k94 94 w' w.heap.size (fun _ => True) v0_ r1 ∧ IsS57 w0 w' g s0_0 r2 r3 ∧ Below w0.heap.size w0 w' ∧ KeepBut w w' g none := by
 have hu94 := Try.underlying94
 have HI0 := am hI
 have HGE0 := am (IsS57.ge hI)
 have HK := am (KeepBut.refl w g none)
 have HL := am hB.size
 clear hI
 have HW0 := am hB.size
 have HB := am hB
 clear hB
 have H := h; clear h; unfold spec_l5DrawRight.f at H
 have H' := am H; clear H
 go_enter Try.func24, Try.ntmps24
 go_wp2
 go_loopg [3] k (fun kq v3 w' => ∃ (x3_1 : Int) (x1001_1 : Int) (x1002_1 : Int), v3 = .int .i64 x3_1 ∧ Aside0 (spec_l5DrawRight.l0 kq x3_1 s0_0 x1001_1 x1002_1 = some (r1, r2, r3)) ∧ Aside0 (kq ≤ k) ∧ Aside0 (IsS57 w0 w' g s0_0 x1001_1 x1002_1) ∧ Aside0 (KeepBut w w' g none) ∧ Aside0 (Below w0.heap.size w0 w'))
 case atStart => exact ⟨(0), (s0_1), (s0_2), sr, H', ⟨Nat.le_refl _⟩, ⟨IsS57.l HI0⟩, ⟨pL HK⟩, ⟨bL HB⟩⟩
 clear H'
 obtain ⟨x3_1, x1001_1, x1002_1, rfl, HA, HK1, HI0, HK, HB⟩ := hrel
 cases gk with
 | zero => exact absurd HA.out (by simp [spec_l5DrawRight.l0])
 | succ k1 => ?_
 have H := HA.out
 clear HA
 simp only [spec_l5DrawRight.l0] at H
 replace H := idc H; obtain ⟨c2b0, H⟩ | ⟨c2b0, H⟩ := H
 rotate_left
 · obtain ⟨y181, hy181⟩ : ∃ y_ : List (S94), y_ = (([(⟨(⟨#[]⟩ : ByteArray), 7, 0, 1⟩ : S94), (⟨(⟨#[97]⟩ : ByteArray), 2, 1, 0⟩ : S94)] : List (S94))) := ⟨_, rfl⟩
   replace H : (some (y181, x1001_1, x1002_1)) = some (r1, r2, r3) := by first | (rw [hy181]; with_reducible exact H) | (rw [hy181]; exact H) | exact H
   have Ny181 := am hy181
   clear hy181
   replace H := sj3 H; obtain ⟨rfl, rfl, rfl⟩ := H
   go_wp2_with (first | ((with_reducible refine gd 20 rfl ?_); refine Kd.R_lit k94 _ 94 ?hg (N := 20) ?hd (xs := ([(⟨(⟨#[]⟩ : ByteArray), 7, 0, 1⟩ : S94), (⟨(⟨#[97]⟩ : ByteArray), 2, 1, 0⟩ : S94)] : List (S94))) (inner := [.string ⟨#[]⟩, .int .i64 7, .int .i64 0, .int .i64 1, .string (⟨#[97]⟩ : ByteArray), .int .i64 2, .int .i64 1, .int .i64 0]) (ok := fun _ => True) (okp := fun _ => True) ?hr ?hp (fun _ hk => hk) trivial (Below.refl _ _) (Nat.le_refl _) (by simp) ?_; (case hd => rfl); (case hg => rfl); (case hr => first | (go_simp; done) | (go_simp; rfl)); (case hp => exact (Reps.c4 (show Kd.M k94 _ _ _ (⟨(⟨#[]⟩ : ByteArray), 7, 0, 1⟩ : S94) [.string ⟨#[]⟩, .int .i64 7, .int .i64 0, .int .i64 1] from (k94_mkM _ _ _ (⟨(⟨#[]⟩ : ByteArray), 7, 0, 1⟩ : S94) )) (Reps.c4 (show Kd.M k94 _ _ _ (⟨(⟨#[97]⟩ : ByteArray), 2, 1, 0⟩ : S94) [.string (⟨#[97]⟩ : ByteArray), .int .i64 2, .int .i64 1, .int .i64 0] from (k94_mkM _ _ _ (⟨(⟨#[97]⟩ : ByteArray), 2, 1, 0⟩ : S94) )) (Reps.none _ _)))); intro v182 w21 ho22 hb hg_ hnew_; clear hg_ hnew_; (first | rw [← Ny181.out] at ho22 | (simp only [Int.reduceToNat] at ho22; rw [← Ny181.out] at ho22)); have HO183 := rlk ho22 HK; replace HK := kbe HK hb; replace HB := bst HB hb; replace HI0 := IsS57.be HI0 hb; clear hb ho22))
   go_ret
   exact ⟨_, fin_ ⟨by (with_reducible repeat (first | apply Kd.R_alloc | apply Kd.R_drewN | apply Kd.R_drew)); exact HO183.out, IsS57.l HI0, bL HB, pL HK⟩⟩
 replace H := bnd3 H; obtain ⟨t184, t185, t186, A3, H⟩ := H; dsimp only at H
 obtain ⟨y187, hy187⟩ : ∃ y_ : List (S94), y_ = (([] : List (S94))) := ⟨_, rfl⟩
 replace H : ((spec_l5DrawCol.f k1 s0_0 t185 t186 (⟨#[]⟩ : ByteArray) (wrap64 (1 + t184)) y187).bind fun bt190 => ((spec_SchemaOk.f k1 bt190.1).bind fun t195 => (if t195 = true then (some (bt190.1, bt190.2.1, bt190.2.2)) else (spec_l5DrawRight.l0 k1 (wrap64 (x3_1 + 1)) s0_0 bt190.2.1 bt190.2.2)))) = some (r1, r2, r3) := by first | (rw [hy187]; with_reducible exact H) | (rw [hy187]; exact H) | exact H
 have Ny187 := am hy187
 clear hy187
 replace H := bnd3 H; obtain ⟨t190, t193, t194, A4, H⟩ := H; dsimp only at H
 replace H := bnd H; obtain ⟨t195, A5, H⟩ := H
 replace H := ibt H; obtain ⟨rfl, H⟩ | ⟨rfl, H⟩ := H
 · replace H := sj3 H; obtain ⟨rfl, rfl, rfl⟩ := H
   go_wp2_with (first | ((with_reducible refine gc 27 rfl ?_); refine gcs (some 11) Try.func27 rfl (spec_l1Below.calls (IsS57.l HI0) (bL HB) A3.out) HK ?_; clear HK HB HI0; intro w7 HI0 HB HK hk; clear hk) | ((with_reducible refine gd 13 rfl ?_); refine Kd.R_lit k94 _ 94 ?hg (N := 13) ?hd (xs := ([] : List (S94))) (inner := []) (ok := fun _ => True) (okp := fun _ => True) ?hr ?hp (fun _ hk => hk) trivial (Below.refl _ _) (Nat.le_refl _) (by simp) ?_; (case hd => rfl); (case hg => rfl); (case hr => first | (go_simp; done) | (go_simp; rfl)); (case hp => exact (Reps.none _ _)); intro v188 w8 ho9 hb hg_ hnew_; clear hg_ hnew_; (first | rw [← Ny187.out] at ho9 | (simp only [Int.reduceToNat] at ho9; rw [← Ny187.out] at ho9)); have HO189 := rlk ho9 HK; replace HK := kbe HK hb; replace HB := bst HB hb; replace HI0 := IsS57.be HI0 hb; clear hb ho9; obtain ⟨Ao10, co10, eo10⟩ := Kd.R_slice HO189.out; subst eo10) | ((with_reducible refine gc 47 rfl ?_); refine gc2 (some 14) Try.func47 rfl (spec_l5DrawCol.calls k1 g s0_0 t185 t186 (⟨#[]⟩ : ByteArray) (wrap64 (1 + t184)) (fun k_ => some k_ = (.slice Ao10 y187.length co10 : Value).ownBlock) (.slice Ao10 y187.length co10) y187 t190 t193 t194 w0 _ (IsS57.l HI0) (bL HB) (Kd.R_lower (Kd.R_tight rfl HO189.out) HL.out) A4.out) ?_; rintro v191 w11 ⟨ho0, hi, hb, hkp⟩; have HO192 := am (Kd.R_mono (ok' := fun k_ => True) (Kd.R_raise (d := k94) (b := w0.heap.size) (b' := w.heap.size) (fun _ _ _ _ h_ => h_) ho0 (fun k_ e_ => Or.elim (ho0.1 k_ e_) (fun hs_ => (fun e_ => Kd.R_base HO189.out k_ e_.symm) hs_) (fun hn_ => Nat.le_trans (keep_size (w := w) (g := g) (row := none) (pL HK)) hn_))) (fun k_ hk_ => trivial)); replace HI0 := am hi; replace HK := am (Kept.keepG (pL HK) hkp (fun k_ hs_ => Or.elim hs_ (fun hs_ => (fun e_ => .inr (Kd.R_base HO189.out k_ e_.symm)) hs_) (fun e_ => .inl e_))); replace HB := am hb; clear HO189 hb hkp ho0; obtain ⟨Ao12, co12, eo12⟩ := Kd.R_slice HO192.out; subst eo12) | ((with_reducible refine gc 48 rfl ?_); refine gc1 (some 16) Try.func48 rfl (spec_SchemaOk.calls (C_later (Kd.R_reads' HO192.out).2.2) ((Kd.R_reads' HO192.out).2.1) A5.out) ?_; rintro w13 hb; replace HO192 := rbe HO192 hb; replace HK := kbe HK hb; replace HB := bst HB hb; replace HI0 := IsS57.be HI0 hb; clear hb))
   go_ret
   exact ⟨_, fin_ ⟨by (with_reducible repeat (first | apply Kd.R_alloc | apply Kd.R_drewN | apply Kd.R_drew)); exact HO192.out, IsS57.l HI0, bL HB, pL HK⟩⟩
 have H' := am H; clear H
 go_wp2_with (first | ((with_reducible refine gc 27 rfl ?_); refine gcs (some 11) Try.func27 rfl (spec_l1Below.calls (IsS57.l HI0) (bL HB) A3.out) HK ?_; clear HK HB HI0; intro w14 HI0 HB HK hk; clear hk) | ((with_reducible refine gd 13 rfl ?_); refine Kd.R_lit k94 _ 94 ?hg (N := 13) ?hd (xs := ([] : List (S94))) (inner := []) (ok := fun _ => True) (okp := fun _ => True) ?hr ?hp (fun _ hk => hk) trivial (Below.refl _ _) (Nat.le_refl _) (by simp) ?_; (case hd => rfl); (case hg => rfl); (case hr => first | (go_simp; done) | (go_simp; rfl)); (case hp => exact (Reps.none _ _)); intro v188 w15 ho16 hb hg_ hnew_; clear hg_ hnew_; (first | rw [← Ny187.out] at ho16 | (simp only [Int.reduceToNat] at ho16; rw [← Ny187.out] at ho16)); have HO189 := rlk ho16 HK; replace HK := kbe HK hb; replace HB := bst HB hb; replace HI0 := IsS57.be HI0 hb; clear hb ho16; obtain ⟨Ao17, co17, eo17⟩ := Kd.R_slice HO189.out; subst eo17) | ((with_reducible refine gc 47 rfl ?_); refine gc2 (some 14) Try.func47 rfl (spec_l5DrawCol.calls k1 g s0_0 t185 t186 (⟨#[]⟩ : ByteArray) (wrap64 (1 + t184)) (fun k_ => some k_ = (.slice Ao17 y187.length co17 : Value).ownBlock) (.slice Ao17 y187.length co17) y187 t190 t193 t194 w0 _ (IsS57.l HI0) (bL HB) (Kd.R_lower (Kd.R_tight rfl HO189.out) HL.out) A4.out) ?_; rintro v191 w18 ⟨ho0, hi, hb, hkp⟩; have HO192 := am (Kd.R_mono (ok' := fun k_ => True) (Kd.R_raise (d := k94) (b := w0.heap.size) (b' := w.heap.size) (fun _ _ _ _ h_ => h_) ho0 (fun k_ e_ => Or.elim (ho0.1 k_ e_) (fun hs_ => (fun e_ => Kd.R_base HO189.out k_ e_.symm) hs_) (fun hn_ => Nat.le_trans (keep_size (w := w) (g := g) (row := none) (pL HK)) hn_))) (fun k_ hk_ => trivial)); replace HI0 := am hi; replace HK := am (Kept.keepG (pL HK) hkp (fun k_ hs_ => Or.elim hs_ (fun hs_ => (fun e_ => .inr (Kd.R_base HO189.out k_ e_.symm)) hs_) (fun e_ => .inl e_))); replace HB := am hb; clear HO189 hb hkp ho0; obtain ⟨Ao19, co19, eo19⟩ := Kd.R_slice HO192.out; subst eo19) | ((with_reducible refine gc 48 rfl ?_); refine gc1 (some 16) Try.func48 rfl (spec_SchemaOk.calls (C_later (Kd.R_reads' HO192.out).2.2) ((Kd.R_reads' HO192.out).2.1) A5.out) ?_; rintro w20 hb; replace HO192 := rbe HO192 hb; replace HK := kbe HK hb; replace HB := bst HB hb; replace HI0 := IsS57.be HI0 hb; clear hb))
 go_roundg k1
 case measure => have := HK1.out; omega
 case rel => exact ⟨(wrap64 (x3_1 + 1)), (t193), (t194), sr, H', ⟨by have := HK1.out; omega⟩, ⟨IsS57.l HI0⟩, ⟨pL HK⟩, ⟨bL HB⟩⟩
end Go.Proofs.Ytnlgodcbnlbdkaa.PFnStats
