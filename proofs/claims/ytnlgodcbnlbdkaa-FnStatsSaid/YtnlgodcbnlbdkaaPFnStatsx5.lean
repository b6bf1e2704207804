/- The machine's side of FnStats: each Go function, and what its call comes to. No condition. -/
import Derived.Test.YtnlgodcbnlbdkaaPFnStatsx0
import Derived.Test.YtnlgodcbnlbdkaaPFnStatsx3
namespace Go.Proofs.Ytnlgodcbnlbdkaa.PFnStats
open Go.RowKit Go.Proofs.YtnlgodcbnlbdkaaW.PrintWords Go.Proofs.YtnlgodcbnlbdkaaW.PrintLast Go.Proofs.YtnlgodcbnlbdkaaW.PrintMore Go.Proofs.YtnlgodcbnlbdkaaW.PrintMore2
attribute [local go_sem] max2_int min2_int max_two min_two max_three min_three max_four min_four
set_option linter.unusedVariables false
set_option linter.unusedSimpArgs false
set_option maxHeartbeats 8000000
set_option maxRecDepth 100000

/-! ### spec_l5Leaves: function 49 -/
def spec_l5Leaves.l0 : Nat → List (S94) → List Int → Int → Option (List Int)
  | 0, _, _, _ => none
  | k + 1, x0, x3, x4 => if x4 < (x0.length : Int) then (if 0 ≤ x4 then (if ((rd_T94 x0 x4).f1) = 7 then (spec_l5Leaves.l0 k x0 x3 (wrap64 (x4 + 1))) else (if x3.length < 17592186044416 then (spec_l5Leaves.l0 k x0 (x3 ++ [x4]) (wrap64 (x4 + 1))) else (none))) else (none)) else (some x3)
def spec_l5Leaves.f (k : Nat) (l0 : List (S94)) : Option (List Int) := spec_l5Leaves.l0 k l0 (([] : List Int)) 0
theorem spec_l5Leaves.calls {k : Nat} {A0 : Option Addr} {c0 : Nat} {l0 : List (S94)} {r : List Int} {w : World} (hr0 : Kd.C k94 w A0 l0.length l0) (hc0 : l0.length ≤ c0) (h : spec_l5Leaves.f k l0 = some r) :
    Calls Try.prog 49 #[.slice A0 l0.length c0] w fun e w' => ∃ v0_ : Value, e = .returned (v0_) ∧ Kd.R (Kd.int .i64) 3 w' w.heap.size (fun _ => True) v0_ r ∧ Below w.heap.size w w' := by
 have HR0 := am hr0
 have HC0 := am hc0
 clear hr0 hc0
 have HB := am (Below.refl w.heap.size w)
 have H := h; clear h; unfold spec_l5Leaves.f at H
 obtain ⟨y196, hy196⟩ : ∃ y_ : List Int, y_ = (([] : List Int)) := ⟨_, rfl⟩
 replace H : (spec_l5Leaves.l0 k l0 y196 0) = some r := by first | (rw [hy196]; with_reducible exact H) | (rw [hy196]; exact H) | exact H
 have Ny196 := am hy196
 clear hy196
 have H' := am H; clear H
 go_enter Try.func49, Try.ntmps49
 go_wp2_with (first | ((with_reducible refine gd 5 rfl ?_); refine Kd.R_lit (Kd.int .i64) _ 3 ?hg (N := 5) ?hd (xs := ([] : List Int)) (inner := []) (ok := fun _ => True) (okp := fun _ => True) ?hr ?hp (fun _ hk => hk) trivial (Below.refl _ _) (Nat.le_refl _) (by simp) ?_; (case hd => rfl); (case hg => rfl); (case hr => first | (go_simp; done) | (go_simp; rfl)); (case hp => exact (Reps.none _ _)); intro v197 w2 ho3 hb hg_ hnew_; clear hg_ hnew_; (first | rw [← Ny196.out] at ho3 | (simp only [Int.reduceToNat] at ho3; rw [← Ny196.out] at ho3)); have HO198 := rlb ho3 HB; replace HB := bst HB hb; clear hb ho3))
 go_loopg [3, 4] k (fun kq v3 v4 w' => ∃ (x3_1 : List Int) (x4_1 : Int), v4 = .int .i64 x4_1 ∧ Aside0 (spec_l5Leaves.l0 kq l0 x3_1 x4_1 = some r) ∧ Aside0 (kq ≤ k) ∧ Aside0 (Kd.R (Kd.int .i64) 3 w' w.heap.size (fun _ => True) v3 x3_1) ∧ Aside0 (Below w.heap.size w w'))
 case atStart => exact ⟨(y196), (0), sr, H', ⟨Nat.le_refl _⟩, ⟨rL HO198⟩, ⟨bL HB⟩⟩
 clear H'
 obtain ⟨x3_1, x4_1, rfl, HA, HK1, HO_3, HB⟩ := hrel
 cases gk with
 | zero => exact absurd HA.out (by simp [spec_l5Leaves.l0])
 | succ k1 => ?_
 have H := HA.out
 clear HA
 simp only [spec_l5Leaves.l0] at H
 replace H := idc H; obtain ⟨c4b0, H⟩ | ⟨c4b0, H⟩ := H
 rotate_left
 · obtain rfl := Option.some.inj H
   go_wp2
   go_ret
   exact ⟨_, fin_ ⟨by (with_reducible repeat (first | apply Kd.R_alloc | apply Kd.R_drewN | apply Kd.R_drew)); exact HO_3.out, bL HB⟩⟩
 replace H := ifd H; obtain ⟨c5b0, H⟩ := H
 replace H := ieq H; obtain ⟨c6b0, c6b1, H⟩ | ⟨c6, c6b0, c6b1, H⟩ := H
 · have H' := am H; clear H
   obtain ⟨p199, q199, ad199, e199, hx199_0, hx199_1, hx199_2, hx199_3⟩ := at_T94b HB HR0 x4_1; cases e199
   go_wp2
   go_roundg k1
   case measure => have := HK1.out; omega
   case rel => exact ⟨(x3_1), (wrap64 (x4_1 + 1)), sr, H', ⟨by have := HK1.out; omega⟩, ⟨rL HO_3⟩, ⟨bL HB⟩⟩
 replace H := ifs H; obtain ⟨c7, H⟩ := H
 have LMc7 := am c7
 clear c7
 obtain ⟨y200, hy200⟩ : ∃ y_ : List Int, y_ = (x3_1 ++ [x4_1]) := ⟨_, rfl⟩
 replace H : (spec_l5Leaves.l0 k1 l0 y200 (wrap64 (x4_1 + 1))) = some r := by first | (rw [hy200]; with_reducible exact H) | (rw [hy200]; exact H) | exact H
 have Ny200 := am hy200
 clear hy200
 have H' := am H; clear H
 obtain ⟨p199, q199, ad199, e199, hx199_0, hx199_1, hx199_2, hx199_3⟩ := at_T94b HB HR0 x4_1; cases e199
 go_wp2_with (first | ((with_reducible refine gate_builtin (b := .append) (xs := #[.tmp 18, .tmp 20]) rfl ?_); at_builtin; refine Kd.R_append (Kd.int .i64) (w0 := w) w.heap.size rfl (.tmp 18) (.tmp 20) 71 3 (.int .i64 0) 8 rfl Try.underlying71 info3 rfl (by decide) (by omega) u3 x3_1 x4_1 [.int .i64 x4_1] (fun _ => True) (fun _ => False) rfl rfl ?aP (fun _ hk => hk.elim) ?aF ?aO ?aB ?aS ?aL ?_; (case aP => exact rfl); (case aB => exact (bL HB)); (case aF => exact (fun _ _ => trivial)); (case aO => exact (rL HO_3)); (case aS => exact (below_size (bL HB))); (case aL => have := LMc7.out; omega); intro v201 w8 ho hb hg hat; rw [← Ny200.out] at ho; have HO202 := am ho; replace HB := am hb; clear HO_3; clear ho hb hg hat))
 go_roundg k1
 case measure => have := HK1.out; omega
 case rel => exact ⟨(y200), (wrap64 (x4_1 + 1)), sr, H', ⟨by have := HK1.out; omega⟩, ⟨rL HO202⟩, ⟨bL HB⟩⟩
/-! ### spec_l4Int: function 58 -/
def spec_l4Int.f (a0 : Int) : Option (Bool) := (spec_l1In.f a0 (-2147483648) 2147483647).bind fun t203 => (some t203)
theorem spec_l4Int.calls {a0 : Int} {r : Bool} {w : World} (h : spec_l4Int.f a0 = some r) :
    Calls Try.prog 58 #[.int .i64 a0] w fun e w' => e = .returned (.bool r) ∧ Drawn0 w w' := by
 have H := h; clear h; unfold spec_l4Int.f at H
 replace H := bnd H; obtain ⟨t203, A2, H⟩ := H
 obtain rfl := Option.some.inj H
 go_enter Try.func58, Try.ntmps58
 go_wp2_with (first | ((with_reducible refine gc 55 rfl ?_); refine gc1 (some 4) Try.func55 rfl (spec_l1In.calls A2.out) ?_; rintro w' ⟨nd, rfl⟩))
 go_ret
 exact ⟨sr, drl⟩
/-! ### spec_ValOk: function 35 -/
def spec_ValOk.j0 : Nat → Int → Bool → Int → ByteArray → Option (Bool)
  | 0, _, _, _, _ => none
  | k + 1, x5, x26, x205000, x205001 => if x26 = true then (some (x205001.toList == ([] : List UInt8))) else (if x5 = 6 then (if x205000 = 0 then (some (decide ((x205001.size : Int) ≤ 40))) else (some false)) else (some false))
def spec_ValOk.f (k : Nat) (a0 : Int) (a1_0 : Int) (a1_1 : ByteArray) : Option (Bool) := if a0 = 0 then ((spec_l1In.f a1_0 0 1).bind fun t205 => (if t205 = true then (some (a1_1.toList == ([] : List UInt8))) else (some false))) else (if a0 = 1 then ((spec_l4Int.f a1_0).bind fun t206 => (if t206 = true then (some (a1_1.toList == ([] : List UInt8))) else (some false))) else (if a0 = 2 then (spec_ValOk.j0 k a0 (a0 == 2) a1_0 a1_1) else (spec_ValOk.j0 k a0 (a0 == 5) a1_0 a1_1)))
theorem spec_ValOk.calls {k : Nat} {a0 a1_0 : Int} {a1_1 : ByteArray} {r : Bool} {w : World} (h : spec_ValOk.f k a0 a1_0 a1_1 = some r) :
    Calls Try.prog 35 #[.int .i64 a0, .agg #[.int .i64 a1_0, .string a1_1]] w fun e w' => e = .returned (.bool r) ∧ Below w.heap.size w w' := by
 have hu30 := Try.underlying30
 have HB := am (Below.refl w.heap.size w)
 have H := h; clear h; unfold spec_ValOk.f at H
 replace H := ieq H; obtain ⟨c3b0, c3b1, H⟩ | ⟨c3, c3b0, c3b1, H⟩ := H
 · replace H := bnd H; obtain ⟨t205, A4, H⟩ := H
   replace H := ibt H; obtain ⟨rfl, H⟩ | ⟨rfl, H⟩ := H
   · obtain rfl := Option.some.inj H
     go_enter Try.func35, Try.ntmps35
     go_wp2_with (first | ((with_reducible refine gd 3 rfl ?_); (try refine gg ?_; dsimp only); refine bxw 3 rfl #[.int .i64 a1_0, .string a1_1] 30 HB ?_; clear HB; intro gb204 w6 BK204 GW204 GE204 HB; obtain ⟨_, _, _, _⟩ := cl2 BK204) | ((with_reducible refine gc 55 rfl ?_); refine gc1 (some 10) Try.func55 rfl (spec_l1In.calls A4.out) ?_; rintro w' ⟨nd, rfl⟩))
     go_ret
     exact fin_ (bL HB)
   obtain rfl := Option.some.inj H
   go_enter Try.func35, Try.ntmps35
   go_wp2_with (first | ((with_reducible refine gd 3 rfl ?_); (try refine gg ?_; dsimp only); refine bxw 3 rfl #[.int .i64 a1_0, .string a1_1] 30 HB ?_; clear HB; intro gb204 w8 BK204 GW204 GE204 HB; obtain ⟨_, _, _, _⟩ := cl2 BK204) | ((with_reducible refine gc 55 rfl ?_); refine gc1 (some 10) Try.func55 rfl (spec_l1In.calls A4.out) ?_; rintro w' ⟨nd, rfl⟩))
   go_ret
   exact fin_ (bL HB)
 replace H := ieq H; obtain ⟨c10b0, c10b1, H⟩ | ⟨c10, c10b0, c10b1, H⟩ := H
 · replace H := bnd H; obtain ⟨t206, A11, H⟩ := H
   replace H := ibt H; obtain ⟨rfl, H⟩ | ⟨rfl, H⟩ := H
   · obtain rfl := Option.some.inj H
     go_enter Try.func35, Try.ntmps35
     go_wp2_with (first | ((with_reducible refine gd 3 rfl ?_); (try refine gg ?_; dsimp only); refine bxw 3 rfl #[.int .i64 a1_0, .string a1_1] 30 HB ?_; clear HB; intro gb204 w13 BK204 GW204 GE204 HB; obtain ⟨_, _, _, _⟩ := cl2 BK204) | ((with_reducible refine gc 58 rfl ?_); refine gc1 (some 20) Try.func58 rfl (spec_l4Int.calls A11.out) ?_; rintro w' ⟨nd, rfl⟩))
     go_ret
     exact fin_ (bL HB)
   obtain rfl := Option.some.inj H
   go_enter Try.func35, Try.ntmps35
   go_wp2_with (first | ((with_reducible refine gd 3 rfl ?_); (try refine gg ?_; dsimp only); refine bxw 3 rfl #[.int .i64 a1_0, .string a1_1] 30 HB ?_; clear HB; intro gb204 w15 BK204 GW204 GE204 HB; obtain ⟨_, _, _, _⟩ := cl2 BK204) | ((with_reducible refine gc 58 rfl ?_); refine gc1 (some 20) Try.func58 rfl (spec_l4Int.calls A11.out) ?_; rintro w' ⟨nd, rfl⟩))
   go_ret
   exact fin_ (bL HB)
 have HC17 := am H
 clear H
 go_enter Try.func35, Try.ntmps35
 go_upto_if 26 with (first | ((with_reducible refine gd 3 rfl ?_); (try refine gg ?_; dsimp only); refine bxw 3 rfl #[.int .i64 a1_0, .string a1_1] 30 HB ?_; clear HB; intro gb204 w18 BK204 GW204 GE204 HB))
 (try simp only [Act.put, List.setIfInBounds_toArray, List.set_cons_zero, List.set_cons_succ])
 go_cut [26] (fun v26 wc => ∃ (kq : Nat) (x26_16 : Bool), v26 = .bool x26_16 ∧ Aside0 (spec_ValOk.j0 kq a0 x26_16 a1_0 a1_1 = some r) ∧ Aside0 (kq ≤ k) ∧ Aside0 (wc.heap[gb204]? = some (.cells #[.int .i64 a1_0, .string a1_1] 30 (0, 0))) ∧ Aside0 (Below w.heap.size w wc))
 case first =>
  have H := HC17.out
  clear HC17
  replace H := ieq H; obtain ⟨c19b0, c19b1, H⟩ | ⟨c19, c19b0, c19b1, H⟩ := H
  · (first | rw [c19b0] | rw [c19b1] | (simp only [i64_w, i32_w]; rw [c19b0]) | skip)
    have H' := am H; clear H
    go_wp2
    go_meet
    case rel => exact ⟨_, ((a0 == 2)), sr, H', ⟨by first | omega | exact Nat.le_refl _⟩, ⟨kL BK204⟩, ⟨bL HB⟩⟩
  (first | rw [c19b0] | rw [c19b1] | (simp only [i64_w, i32_w]; rw [c19b0]) | skip)
  have H' := am H; clear H
  go_wp2
  go_meet
  case rel => exact ⟨_, ((a0 == 5)), sr, H', ⟨by first | omega | exact Nat.le_refl _⟩, ⟨kL BK204⟩, ⟨bL HB⟩⟩
 clear HC17
 try clear c3 c3b0 c3b1 c10 c10b0 c10b1
 obtain ⟨kq, x26_16, rfl, HA, HJ16, BK204, HB⟩ := hcut
 cases kq with
 | zero => exact absurd HA.out (by simp [spec_ValOk.j0])
 | succ kj16 => ?_
 have H := HA.out
 clear HA
 simp only [spec_ValOk.j0] at H
 replace H := ibt H; obtain ⟨rfl, H⟩ | ⟨rfl, H⟩ := H
 · obtain rfl := Option.some.inj H
   obtain ⟨_, _, _, _⟩ := cl2 BK204
   go_wp2
   go_ret
   exact fin_ (bL HB)
 replace H := ieq H; obtain ⟨c22b0, c22b1, H⟩ | ⟨c22, c22b0, c22b1, H⟩ := H
 rotate_left
 · obtain rfl := Option.some.inj H
   go_wp2
   go_ret
   exact fin_ (bL HB)
 replace H := ieq H; obtain ⟨c23b0, c23b1, H⟩ | ⟨c23, c23b0, c23b1, H⟩ := H
 · obtain rfl := Option.some.inj H
   obtain ⟨_, _, _, _⟩ := cl2 BK204
   go_wp2
   go_ret
   exact fin_ (bL HB)
 obtain rfl := Option.some.inj H
 obtain ⟨_, _, _, _⟩ := cl2 BK204
 go_wp2
 go_ret
 exact fin_ (bL HB)
/-! ### spec_l5After: function 67 -/
mutual
def spec_l5After.l0 : Nat → List (S94) → Int → Int → Int → Option (Int)
  | 0, _, _, _, _ => none
  | k + 1, x0, x1, x5, x6 => if 0 ≤ x1 then (if x1 < (x0.length : Int) then (if x6 < ((rd_T94 x0 x1).f3) then ((spec_l5After.f k x0 x5).bind fun t208 => (spec_l5After.l0 k x0 x1 t208 (wrap64 (x6 + 1)))) else (some x5)) else (none)) else (none)
def spec_l5After.f : Nat → List (S94) → Int → Option (Int)
  | 0, _, _ => none
  | k + 1, l0, a1 => spec_l5After.l0 k l0 a1 (wrap64 (a1 + 1)) 0
end
theorem spec_l5After.calls (k : Nat) : ∀ (A0 : Option Addr) (c0 : Nat) (l0 : List (S94)) (a1 : Int) (r : Int) (w : World) (hr0 : Kd.C k94 w A0 l0.length l0) (hc0 : l0.length ≤ c0) (h : spec_l5After.f k l0 a1 = some r),
    Calls Try.prog 67 #[.slice A0 l0.length c0, .int .i64 a1] w fun e w' => e = .returned (.int .i64 r) ∧ Drawn0 w w' := by
 induction k using Nat.strongRecOn with
 | _ k ih =>
 intro A0 c0 l0 a1 r w hr0 hc0 h
 cases k with
 | zero => exact absurd h (by simp [spec_l5After.f])
 | succ k =>
 simp only [spec_l5After.f] at h
 have HR0 := am hr0
 have HC0 := am hc0
 clear hr0 hc0
 have H := h; clear h; unfold spec_l5After.f at H
 have H' := am H; clear H
 go_enter Try.func67, Try.ntmps67
 go_wp2
 go_loopg [5, 6] k (fun kq v5 v6 w' => ∃ (x5_1 : Int) (x6_1 : Int), v5 = .int .i64 x5_1 ∧ v6 = .int .i64 x6_1 ∧ Aside0 (spec_l5After.l0 kq l0 a1 x5_1 x6_1 = some r) ∧ Aside0 (kq ≤ k) ∧ Drawn0 w w')
 case atStart => exact ⟨(wrap64 (a1 + 1)), (0), sr, sr, H', ⟨Nat.le_refl _⟩, by repeat (first | exact Drawn0.refl _ | apply Drawn0.step)⟩
 clear H'
 obtain ⟨x5_1, x6_1, rfl, rfl, HA, HK1, ⟨m1, rfl⟩⟩ := hrel
 cases gk with
 | zero => exact absurd HA.out (by simp [spec_l5After.l0])
 | succ k1 => ?_
 have H := HA.out
 clear HA
 simp only [spec_l5After.l0] at H
 replace H := if_dd H; obtain ⟨c3b0, c4b0, H⟩ := H
 replace H := idc H; obtain ⟨c5b0, H⟩ | ⟨c5b0, H⟩ := H
 rotate_left
 · obtain rfl := Option.some.inj H
   have p207 : 0 ≤ (a1 : Int) := dcd
   have q207 : a1 < (l0.length : Int) := dcd
   obtain ⟨ad207, e207, hx207_0, hx207_1, hx207_2, hx207_3⟩ := at_T94 HR0.out a1 p207 q207
   cases e207
   replace p207 := eq_true p207
   replace q207 := eq_true q207
   go_wp2
   go_ret
   exact ⟨sr, drl⟩
 replace H := bnd H; obtain ⟨t208, A6, H⟩ := H
 have H' := am H; clear H
 have p207 : 0 ≤ (a1 : Int) := dcd
 have q207 : a1 < (l0.length : Int) := dcd
 obtain ⟨ad207, e207, hx207_0, hx207_1, hx207_2, hx207_3⟩ := at_T94 HR0.out a1 p207 q207
 cases e207
 replace p207 := eq_true p207
 replace q207 := eq_true q207
 go_wp2_with (first | ((with_reducible refine gc 67 rfl ?_); refine gc1 (some 20) Try.func67 rfl (ih k1 (by have := HK1.out; omega) _ _ l0 x5_1 t208 _ (C_later HR0.out) HC0.out A6.out) ?_; rintro w' ⟨nd, rfl⟩))
 go_roundg k1
 case measure => have := HK1.out; omega
 case rel => exact ⟨(t208), (wrap64 (x6_1 + 1)), sr, sr, H', ⟨by have := HK1.out; omega⟩, by repeat (first | exact Drawn0.refl _ | apply Drawn0.step)⟩
/-! ### spec_l13Count: function 89 -/
def spec_l13Count.f (a0_0 : Int) (a0_1 : ByteArray) (a1 : Int) : Option (Int) := if a0_1.toList = ([] : List UInt8) then ((spec_l1In.f a0_0 0 a1).bind fun t210 => (if t210 = true then (some a0_0) else (some (-1)))) else (some (-1))
theorem spec_l13Count.calls {a0_0 : Int} {a0_1 : ByteArray} {a1 r : Int} {w : World} (h : spec_l13Count.f a0_0 a0_1 a1 = some r) :
    Calls Try.prog 89 #[.agg #[.int .i64 a0_0, .string a0_1], .int .i64 a1] w fun e w' => e = .returned (.int .i64 r) ∧ Below w.heap.size w w' := by
 have hu30 := Try.underlying30
 have HB := am (Below.refl w.heap.size w)
 have H := h; clear h; unfold spec_l13Count.f at H
 by_cases c3 : a0_1.toList = ([] : List UInt8)
 rotate_left
 · rw [if_neg c3] at H
   have c3b0 : (a0_1.toList == ([] : List UInt8)) = false := beq_eq_false_iff_ne.mpr c3
   try have c3b7 : a0_1.toList.isEmpty = false := by simpa using c3
   have c3b1 : (a0_1.toList != ([] : List UInt8)) = true := bne_iff_ne.mpr c3
   obtain rfl := Option.some.inj H
   go_enter Try.func89, Try.ntmps89
   go_wp2_with (first | ((with_reducible refine gd 2 rfl ?_); refine bxw 2 rfl #[.int .i64 a0_0, .string a0_1] 30 HB ?_; clear HB; intro gb209 w10 BK209 GW209 GE209 HB; obtain ⟨_, _, _, _⟩ := cl2 BK209))
   go_ret
   exact fin_ (bL HB)
 rw [if_pos c3] at H
 have c3b0 : (a0_1.toList == ([] : List UInt8)) = true := beq_iff_eq.mpr c3
 try have c3b7 : a0_1.toList.isEmpty = true := by simpa using c3
 have c3b1 : (a0_1.toList != ([] : List UInt8)) = false := bne_eq_false_iff_eq.mpr c3
 clear c3
 replace H := bnd H; obtain ⟨t210, A4, H⟩ := H
 replace H := ibt H; obtain ⟨rfl, H⟩ | ⟨rfl, H⟩ := H
 · obtain rfl := Option.some.inj H
   go_enter Try.func89, Try.ntmps89
   go_wp2_with (first | ((with_reducible refine gd 2 rfl ?_); refine bxw 2 rfl #[.int .i64 a0_0, .string a0_1] 30 HB ?_; clear HB; intro gb209 w6 BK209 GW209 GE209 HB; obtain ⟨_, _, _, _⟩ := cl2 BK209) | (go_at_call 55; (with_reducible refine (spec_l1In.calls A4.out).mono ?_); rintro e w' ⟨rfl, ⟨nd, rfl⟩⟩))
   go_ret
   exact fin_ (bL HB)
 obtain rfl := Option.some.inj H
 go_enter Try.func89, Try.ntmps89
 go_wp2_with (first | ((with_reducible refine gd 2 rfl ?_); refine bxw 2 rfl #[.int .i64 a0_0, .string a0_1] 30 HB ?_; clear HB; intro gb209 w8 BK209 GW209 GE209 HB; obtain ⟨_, _, _, _⟩ := cl2 BK209) | (go_at_call 55; (with_reducible refine (spec_l1In.calls A4.out).mono ?_); rintro e w' ⟨rfl, ⟨nd, rfl⟩⟩))
 go_ret
 exact fin_ (bL HB)
end Go.Proofs.Ytnlgodcbnlbdkaa.PFnStats
