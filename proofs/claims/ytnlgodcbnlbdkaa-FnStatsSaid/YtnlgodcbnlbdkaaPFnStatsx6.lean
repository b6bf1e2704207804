/- The machine's side of FnStats: each Go function, and what its call comes to. No condition. -/
import Derived.Test.YtnlgodcbnlbdkaaPFnStatsx0
import Derived.Test.YtnlgodcbnlbdkaaPFnStatsx3
import Derived.Test.YtnlgodcbnlbdkaaPFnStatsx4
import Derived.Test.YtnlgodcbnlbdkaaPFnStatsx5
namespace Go.Proofs.Ytnlgodcbnlbdkaa.PFnStats
open Go.RowKit Go.Proofs.YtnlgodcbnlbdkaaW.PrintWords Go.Proofs.YtnlgodcbnlbdkaaW.PrintLast Go.Proofs.YtnlgodcbnlbdkaaW.PrintMore Go.Proofs.YtnlgodcbnlbdkaaW.PrintMore2
attribute [local go_sem] max2_int min2_int max_two min_two max_three min_three max_four min_four
set_option linter.unusedVariables false
set_option linter.unusedSimpArgs false
set_option maxHeartbeats 8000000
set_option maxRecDepth 100000

/-! ### spec_l13Part: function 81 -/
/-! ### spec_l13Content: function 64 -/
mutual
def spec_l13Part.j1 : Nat → List (S94) → Int → List (S30) → Int → Int → Option (Int)
  | 0, _, _, _, _, _ => none
  | k + 1, x0, x1, x2, x3, x9 => spec_l13Part.l0 k x0 x1 x2 x3 x9 0
def spec_l13Part.l0 : Nat → List (S94) → Int → List (S30) → Int → Int → Int → Option (Int)
  | 0, _, _, _, _, _, _ => none
  | k + 1, x0, x1, x2, x3, x9, x11 => if x11 < x9 then ((spec_l13Content.f k x0 x1 x2 x3).bind fun t215 => (if t215 < 0 then (some (-1)) else (spec_l13Part.l0 k x0 x1 x2 t215 x9 (wrap64 (x11 + 1))))) else (some x3)
def spec_l13Part.j0 : Nat → List (S94) → Int → List (S30) → Int → Int → Option (Int)
  | 0, _, _, _, _, _ => none
  | k + 1, x0, x1, x2, x3, x10 => if x3 ≥ (x2.length : Int) then (some (-1)) else (if 0 ≤ x3 then (if x3 < (x2.length : Int) then ((spec_l13Count.f ((rd_T30 x2 x3).f0) ((rd_T30 x2 x3).f1) x10).bind fun t214 => (if t214 < 0 then (some (-1)) else (spec_l13Part.j1 k x0 x1 x2 (wrap64 (x3 + 1)) t214))) else (none)) else (none))
def spec_l13Part.f : Nat → List (S94) → Int → List (S30) → Int → Option (Int)
  | 0, _, _, _, _ => none
  | k + 1, l0, a1, l2, a3 => if 0 ≤ a1 then (if a1 < (l0.length : Int) then (if ((rd_T94 l0 a1).f2) = 0 then (spec_l13Part.j1 k l0 a1 l2 a3 1) else (if ((rd_T94 l0 a1).f2) = 2 then (spec_l13Part.j0 k l0 a1 l2 a3 20) else (spec_l13Part.j0 k l0 a1 l2 a3 1))) else (none)) else (none)
def spec_l13Content.l0 : Nat → List (S94) → Int → List (S30) → Int → Int → Int → Option (Int)
  | 0, _, _, _, _, _, _ => none
  | k + 1, x0, x1, x2, x3, x9, x10 => if 0 ≤ x1 then (if x1 < (x0.length : Int) then (if x10 < ((rd_T94 x0 x1).f3) then ((spec_l13Part.f k x0 x9 x2 x3).bind fun t221 => (if t221 < 0 then (some (-1)) else ((spec_l5After.f k x0 x9).bind fun t222 => (spec_l13Content.l0 k x0 x1 x2 t221 t222 (wrap64 (x10 + 1)))))) else (some x3)) else (none)) else (none)
def spec_l13Content.f : Nat → List (S94) → Int → List (S30) → Int → Option (Int)
  | 0, _, _, _, _ => none
  | k + 1, l0, a1, l2, a3 => if 0 ≤ a1 then (if a1 < (l0.length : Int) then (if ((rd_T94 l0 a1).f1) = 7 then (spec_l13Content.l0 k l0 a1 l2 a3 (wrap64 (a1 + 1)) 0) else (if a3 ≥ (l2.length : Int) then (some (-1)) else (if 0 ≤ a3 then (if a3 < (l2.length : Int) then ((spec_ValOk.f k ((rd_T94 l0 a1).f1) ((rd_T30 l2 a3).f0) ((rd_T30 l2 a3).f1)).bind fun t219 => (if t219 = true then (some (wrap64 (a3 + 1))) else (some (-1)))) else (none)) else (none)))) else (none)) else (none)
end
theorem spec_l13Part.calls_ (k : Nat) (ih : ∀ j, j < k → (∀ (P0_ : Nat → Prop) (A0 : Option Addr) (c0 : Nat) (l0 : List (S94)) (a1 : Int) (P2_ : Nat → Prop) (A2 : Option Addr) (c2 : Nat) (l2 : List (S30)) (a3 : Int) (r : Int) (w : World) (hs0 : Kd.V k94 94 w w.heap.size (fun k_ => P0_ k_) (.slice A0 l0.length c0) l0) (hs2 : Kd.V k30 30 w w.heap.size (fun k_ => P2_ k_) (.slice A2 l2.length c2) l2) (h : spec_l13Part.f j l0 a1 l2 a3 = some r),
    Calls Try.prog 81 #[.slice A0 l0.length c0, .int .i64 a1, .slice A2 l2.length c2, .int .i64 a3] w fun e w' => e = .returned (.int .i64 r) ∧ Below w.heap.size w w')) (ihP : ∀ j, j < k → (∀ (A0 : Option Addr) (c0 : Nat) (l0 : List (S94)) (a1 : Int) (A2 : Option Addr) (c2 : Nat) (l2 : List (S30)) (a3 : Int) (r : Int) (w : World) (hr0 : Kd.C k94 w A0 l0.length l0) (hc0 : l0.length ≤ c0) (hr2 : Kd.C k30 w A2 l2.length l2) (hc2 : l2.length ≤ c2) (h : spec_l13Content.f j l0 a1 l2 a3 = some r),
    Calls Try.prog 64 #[.slice A0 l0.length c0, .int .i64 a1, .slice A2 l2.length c2, .int .i64 a3] w fun e w' => e = .returned (.int .i64 r) ∧ Below w.heap.size w w')) : ∀ (P0_ : Nat → Prop) (A0 : Option Addr) (c0 : Nat) (l0 : List (S94)) (a1 : Int) (P2_ : Nat → Prop) (A2 : Option Addr) (c2 : Nat) (l2 : List (S30)) (a3 : Int) (r : Int) (w : World) (hs0 : Kd.V k94 94 w w.heap.size (fun k_ => P0_ k_) (.slice A0 l0.length c0) l0) (hs2 : Kd.V k30 30 w w.heap.size (fun k_ => P2_ k_) (.slice A2 l2.length c2) l2) (h : spec_l13Part.f k l0 a1 l2 a3 = some r),
    Calls Try.prog 81 #[.slice A0 l0.length c0, .int .i64 a1, .slice A2 l2.length c2, .int .i64 a3] w fun e w' => e = .returned (.int .i64 r) ∧ Below w.heap.size w w' := by
 intro P0_ A0 c0 l0 a1 P2_ A2 c2 l2 a3 r w hs0 hs2 h
 cases k with
 | zero => exact absurd h (by simp [spec_l13Part.f])
 | succ k =>
 simp only [spec_l13Part.f] at h
 have hu30 := Try.underlying30
 have HO0 := am (show Kd.V k94 94 w w.heap.size (fun k_ => ((P0_ k_ ∨ P2_ k_) ∨ w.heap.size ≤ k_)) (.slice A0 l0.length c0) l0 from Kd.V_mono hs0 (fun k_ hk => .inl (.inl hk)))
 have HO2 := am (show Kd.V k30 30 w w.heap.size (fun k_ => ((P0_ k_ ∨ P2_ k_) ∨ w.heap.size ≤ k_)) (.slice A2 l2.length c2) l2 from Kd.V_mono hs2 (fun k_ hk => .inl (.inr hk)))
 have HB := am (Below.refl w.heap.size w)
 have H := h; clear h; unfold spec_l13Part.f at H
 replace H := if_dd H; obtain ⟨c5b0, c6b0, H⟩ := H
 have HC7 := am H
 clear H
 have p211 : 0 ≤ (a1 : Int) := dcd
 have q211 : a1 < (l0.length : Int) := dcd
 obtain ⟨ad211, e211, hx211_0, hx211_1, hx211_2, hx211_3⟩ := at_T94 (Kd.V_reads' HO0.out).2.2 a1 p211 q211
 cases e211
 replace p211 := eq_true p211
 replace q211 := eq_true q211
 go_enter Try.func81, Try.ntmps81
 go_upto_if 17 with (fail)
 go_cut [3, 9] (fun v3 v9 wc => ∃ (kq : Nat) (x3_6 : Int) (x9_6 : Int), v3 = .int .i64 x3_6 ∧ v9 = .int .i64 x9_6 ∧ Aside0 (spec_l13Part.j1 kq l0 a1 l2 x3_6 x9_6 = some r) ∧ Aside0 (kq ≤ k) ∧ Aside0 (Kd.V k94 94 wc w.heap.size (fun k_ => ((P0_ k_ ∨ P2_ k_) ∨ w.heap.size ≤ k_)) (.slice (some ad211) l0.length c0) l0) ∧ Aside0 (Kd.V k30 30 wc w.heap.size (fun k_ => ((P0_ k_ ∨ P2_ k_) ∨ w.heap.size ≤ k_)) (.slice A2 l2.length c2) l2) ∧ Aside0 (Below w.heap.size w wc))
 case first =>
  have H := HC7.out
  clear HC7
  replace H := ieq H; obtain ⟨c8b0, c8b1, H⟩ | ⟨c8, c8b0, c8b1, H⟩ := H
  · (first | rw [c8b0] | rw [c8b1] | (simp only [i64_w, i32_w]; rw [c8b0]) | skip)
    have H' := am H; clear H
    go_wp2
    go_meet
    case rel => exact ⟨_, (a3), (1), sr, sr, H', ⟨by first | omega | exact Nat.le_refl _⟩, ⟨V_later HO0.out⟩, ⟨V_later HO2.out⟩, ⟨bL HB⟩⟩
  (first | rw [c8b0] | rw [c8b1] | (simp only [i64_w, i32_w]; rw [c8b0]) | skip)
  have HC9 := am H
  clear H
  have p212 : 0 ≤ (a1 : Int) := dcd
  have q212 : a1 < (l0.length : Int) := dcd
  obtain ⟨ad212, e212, hx212_0, hx212_1, hx212_2, hx212_3⟩ := at_T94 (Kd.V_reads' HO0.out).2.2 a1 p212 q212
  obtain rfl : ad211 = ad212 := (by injection e212)
  replace p212 := eq_true p212
  replace q212 := eq_true q212
  go_upto_if 23 with (fail)
  go_cut [10] (fun v10 wc => ∃ (kq : Nat) (x10_8 : Int), v10 = .int .i64 x10_8 ∧ Aside0 (spec_l13Part.j0 kq l0 a1 l2 a3 x10_8 = some r) ∧ Aside0 (kq ≤ k) ∧ Aside0 (Kd.V k94 94 wc w.heap.size (fun k_ => ((P0_ k_ ∨ P2_ k_) ∨ w.heap.size ≤ k_)) (.slice (some ad211) l0.length c0) l0) ∧ Aside0 (Kd.V k30 30 wc w.heap.size (fun k_ => ((P0_ k_ ∨ P2_ k_) ∨ w.heap.size ≤ k_)) (.slice A2 l2.length c2) l2) ∧ Aside0 (Below w.heap.size w wc))
  case first =>
   have H := HC9.out
   clear HC9
   replace H := ieq H; obtain ⟨c10b0, c10b1, H⟩ | ⟨c10, c10b0, c10b1, H⟩ := H
   rotate_left
   · (first | rw [c10b0] | rw [c10b1] | (simp only [i64_w, i32_w]; rw [c10b0]) | skip)
     have H' := am H; clear H
     go_wp2
     go_meet
     case rel => exact ⟨_, (1), sr, H', ⟨by first | omega | exact Nat.le_refl _⟩, ⟨V_later HO0.out⟩, ⟨V_later HO2.out⟩, ⟨bL HB⟩⟩
   (first | rw [c10b0] | rw [c10b1] | (simp only [i64_w, i32_w]; rw [c10b0]) | skip)
   have H' := am H; clear H
   go_wp2
   go_meet
   case rel => exact ⟨_, (20), sr, H', ⟨by first | omega | exact Nat.le_refl _⟩, ⟨V_later HO0.out⟩, ⟨V_later HO2.out⟩, ⟨bL HB⟩⟩
  clear HC9
  try clear c2 c5b0 c6b0 c8 c8b0 c8b1 hx211_0 hx211_1 hx211_2 hx211_3 hx212_0 hx212_1 hx212_2 hx212_3 p211 p212 q211 q212
  obtain ⟨kq, x10_8, rfl, HA, HJ8, HO_0, HO_2, HB⟩ := hcut
  cases kq with
  | zero => exact absurd HA.out (by simp [spec_l13Part.j0])
  | succ kj8 => ?_
  have H := HA.out
  clear HA
  simp only [spec_l13Part.j0] at H
  replace H := ige H; obtain ⟨c11b0, H⟩ | ⟨c11b0, H⟩ := H
  · obtain rfl := Option.some.inj H
    go_wp2
    go_ret
    exact fin_ (bL HB)
  replace H := if_dd H; obtain ⟨c12b0, c13b0, H⟩ := H
  replace H := bnd H; obtain ⟨t214, A14, H⟩ := H
  replace H := idc H; obtain ⟨c15b0, H⟩ | ⟨c15b0, H⟩ := H
  · obtain rfl := Option.some.inj H
    have p213 : 0 ≤ (a3 : Int) := dcd
    have q213 : a3 < (l2.length : Int) := dcd
    obtain ⟨ad213, e213, hx213_0, hx213_1⟩ := at_T30 (Kd.V_reads' HO_2.out).2.2 a3 p213 q213
    cases e213
    replace p213 := eq_true p213
    replace q213 := eq_true q213
    go_wp2_with (first | ((with_reducible refine gc 89 rfl ?_); refine gc1 (some 33) Try.func89 rfl (spec_l13Count.calls A14.out) ?_; rintro w16 hb; replace HO_0 := am (Kd.V_below (V_later HO_0.out) hb); replace HO_2 := am (Kd.V_below (V_later HO_2.out) hb); replace HB := bst HB hb; clear hb))
    go_ret
    exact fin_ (bL HB)
  have H' := am H; clear H
  have p213 : 0 ≤ (a3 : Int) := dcd
  have q213 : a3 < (l2.length : Int) := dcd
  obtain ⟨ad213, e213, hx213_0, hx213_1⟩ := at_T30 (Kd.V_reads' HO_2.out).2.2 a3 p213 q213
  cases e213
  replace p213 := eq_true p213
  replace q213 := eq_true q213
  go_wp2_with (first | ((with_reducible refine gc 89 rfl ?_); refine gc1 (some 33) Try.func89 rfl (spec_l13Count.calls A14.out) ?_; rintro w17 hb; replace HO_0 := am (Kd.V_below (V_later HO_0.out) hb); replace HO_2 := am (Kd.V_below (V_later HO_2.out) hb); replace HB := bst HB hb; clear hb))
  go_meet
  case rel => exact ⟨_, (wrap64 (a3 + 1)), (t214), sr, sr, H', ⟨by have := HJ8.out; first | omega | exact Nat.le_refl _⟩, ⟨V_later HO_0.out⟩, ⟨V_later HO_2.out⟩, ⟨bL HB⟩⟩
 clear HC7
 try clear c2 c5b0 c6b0 hx211_0 hx211_1 hx211_2 hx211_3 p211 q211
 obtain ⟨kq, x3_6, x9_6, rfl, rfl, HA, HJ6, HO_0, HO_2, HB⟩ := hcut
 cases kq with
 | zero => exact absurd HA.out (by simp [spec_l13Part.j1])
 | succ kj6 => ?_
 have H := HA.out
 clear HA
 simp only [spec_l13Part.j1] at H
 have H' := am H; clear H
 go_wp2
 go_loopg [3, 11] kj6 (fun kq v3 v11 w' => ∃ (x3_2 : Int) (x11_2 : Int), v3 = .int .i64 x3_2 ∧ v11 = .int .i64 x11_2 ∧ Aside0 (spec_l13Part.l0 kq l0 a1 l2 x3_2 x9_6 x11_2 = some r) ∧ Aside0 (kq ≤ kj6) ∧ Aside0 (Kd.V k94 94 w' w.heap.size (fun k_ => ((P0_ k_ ∨ P2_ k_) ∨ w.heap.size ≤ k_)) (.slice (some ad211) l0.length c0) l0) ∧ Aside0 (Kd.V k30 30 w' w.heap.size (fun k_ => ((P0_ k_ ∨ P2_ k_) ∨ w.heap.size ≤ k_)) (.slice A2 l2.length c2) l2) ∧ Aside0 (Below w.heap.size w w'))
 case atStart => exact ⟨(x3_6), (0), sr, sr, H', ⟨Nat.le_refl _⟩, ⟨V_later HO_0.out⟩, ⟨V_later HO_2.out⟩, ⟨bL HB⟩⟩
 clear H'
 try clear c2 c5b0 c6b0 hx211_0 hx211_1 hx211_2 hx211_3 p211 q211
 obtain ⟨x3_2, x11_2, rfl, rfl, HA, HK2, HO_0, HO_2, HB⟩ := hrel
 cases gk with
 | zero => exact absurd HA.out (by simp [spec_l13Part.l0])
 | succ k2 => ?_
 have H := HA.out
 clear HA
 simp only [spec_l13Part.l0] at H
 replace H := idc H; obtain ⟨c18b0, H⟩ | ⟨c18b0, H⟩ := H
 rotate_left
 · obtain rfl := Option.some.inj H
   go_wp2
   go_ret
   exact fin_ (bL HB)
 replace H := bnd H; obtain ⟨t215, A19, H⟩ := H
 replace H := idc H; obtain ⟨c20b0, H⟩ | ⟨c20b0, H⟩ := H
 · obtain rfl := Option.some.inj H
   go_wp2_with (first | ((with_reducible refine gc 64 rfl ?_); refine gc1 (some 47) Try.func64 rfl (ihP k2 (by have := HJ6.out; have := HK2.out; omega) _ _ l0 a1 _ _ l2 x3_2 t215 _ (C_later (Kd.V_reads' HO_0.out).2.2) ((Kd.V_reads' HO_0.out).2.1) (C_later (Kd.V_reads' HO_2.out).2.2) ((Kd.V_reads' HO_2.out).2.1) A19.out) ?_; rintro w21 hb; replace HO_0 := am (Kd.V_below (V_later HO_0.out) hb); replace HO_2 := am (Kd.V_below (V_later HO_2.out) hb); replace HB := bst HB hb; clear hb))
   go_ret
   exact fin_ (bL HB)
 have H' := am H; clear H
 go_wp2_with (first | ((with_reducible refine gc 64 rfl ?_); refine gc1 (some 47) Try.func64 rfl (ihP k2 (by have := HJ6.out; have := HK2.out; omega) _ _ l0 a1 _ _ l2 x3_2 t215 _ (C_later (Kd.V_reads' HO_0.out).2.2) ((Kd.V_reads' HO_0.out).2.1) (C_later (Kd.V_reads' HO_2.out).2.2) ((Kd.V_reads' HO_2.out).2.1) A19.out) ?_; rintro w22 hb; replace HO_0 := am (Kd.V_below (V_later HO_0.out) hb); replace HO_2 := am (Kd.V_below (V_later HO_2.out) hb); replace HB := bst HB hb; clear hb))
 go_roundg k2
 case measure => have := HJ6.out; have := HK2.out; omega
 case rel => exact ⟨(t215), (wrap64 (x11_2 + 1)), sr, sr, H', ⟨by have := HJ6.out; have := HK2.out; omega⟩, ⟨V_later HO_0.out⟩, ⟨V_later HO_2.out⟩, ⟨bL HB⟩⟩
def spec_l13Content.T2 : Bool × List (List Nat × List Nat) := (true, [([], []), ([], []), ([1], [1]), ([0, 2], [0, 2]), ([3], [3]), ([4], [4]), ([4], [4]), ([5, 6, 4], [4, 5, 6]), ([7, 4], [4, 7]), ([8, 4], [4, 8]), ([4], [4]), ([4], [4]), ([10, 11, 4], [4, 10, 11]), ([12, 4], [4, 12]), ([9, 13, 4, 4], [4, 9, 13]), ([14, 4], [4, 14]), ([4, 15], [4, 15])])
def spec_l13Content.B2 : List Nat := [0, 0, 2, 7, 15, 31, 31, 127, 255, 511, 31, 31, 3103, 7199, 16383, 32767, 65535]
theorem spec_l13Content.tab2 : rtab .any (opsOf Try.f64 2) = spec_l13Content.T2 := by kernel_rfl
theorem spec_l13Content.bits2 : waitsOk spec_l13Content.T2.2 spec_l13Content.B2 = true := by kernel_rfl
theorem spec_l13Content.calls_ {k : Nat} (ih : ∀ j, j < k → (∀ (A0 : Option Addr) (c0 : Nat) (l0 : List (S94)) (a1 : Int) (A2 : Option Addr) (c2 : Nat) (l2 : List (S30)) (a3 : Int) (r : Int) (w : World) (hr0 : Kd.C k94 w A0 l0.length l0) (hc0 : l0.length ≤ c0) (hr2 : Kd.C k30 w A2 l2.length l2) (hc2 : l2.length ≤ c2) (h : spec_l13Content.f j l0 a1 l2 a3 = some r),
    Calls Try.prog 64 #[.slice A0 l0.length c0, .int .i64 a1, .slice A2 l2.length c2, .int .i64 a3] w fun e w' => e = .returned (.int .i64 r) ∧ Below w.heap.size w w')) (ihP : ∀ j, j < k → (∀ (P0_ : Nat → Prop) (A0 : Option Addr) (c0 : Nat) (l0 : List (S94)) (a1 : Int) (P2_ : Nat → Prop) (A2 : Option Addr) (c2 : Nat) (l2 : List (S30)) (a3 : Int) (r : Int) (w : World) (hs0 : Kd.V k94 94 w w.heap.size (fun k_ => P0_ k_) (.slice A0 l0.length c0) l0) (hs2 : Kd.V k30 30 w w.heap.size (fun k_ => P2_ k_) (.slice A2 l2.length c2) l2) (h : spec_l13Part.f j l0 a1 l2 a3 = some r),
    Calls Try.prog 81 #[.slice A0 l0.length c0, .int .i64 a1, .slice A2 l2.length c2, .int .i64 a3] w fun e w' => e = .returned (.int .i64 r) ∧ Below w.heap.size w w')) : ∀ (A0 : Option Addr) (c0 : Nat) (l0 : List (S94)) (a1 : Int) (A2 : Option Addr) (c2 : Nat) (l2 : List (S30)) (a3 : Int) (r : Int) (w : World) (hr0 : Kd.C k94 w A0 l0.length l0) (hc0 : l0.length ≤ c0) (hr2 : Kd.C k30 w A2 l2.length l2) (hc2 : l2.length ≤ c2) (h : spec_l13Content.f k l0 a1 l2 a3 = some r),
    Calls Try.prog 64 #[.slice A0 l0.length c0, .int .i64 a1, .slice A2 l2.length c2, .int .i64 a3] w fun e w' => e = .returned (.int .i64 r) ∧ Below w.heap.size w w' := by
 intro A0 c0 l0 a1 A2 c2 l2 a3 r w hr0 hc0 hr2 hc2 h
 cases k with
 | zero => exact absurd h (by simp [spec_l13Content.f])
 | succ k =>
 simp only [spec_l13Content.f] at h
 have hu30 := Try.underlying30
 have HR0 := am hr0
 have HC0 := am hc0
 clear hr0 hc0
 have HR2 := am hr2
 have HC2 := am hc2
 clear hr2 hc2
 have HB := am (Below.refl w.heap.size w)
 have H := h; clear h; unfold spec_l13Content.f at H
 replace H := if_dd H; obtain ⟨c5b0, c6b0, H⟩ := H
 replace H := ieq H; obtain ⟨c7b0, c7b1, H⟩ | ⟨c7, c7b0, c7b1, H⟩ := H
 · have H' := am H; clear H
   have p216 : 0 ≤ (a1 : Int) := dcd
   have q216 : a1 < (l0.length : Int) := dcd
   obtain ⟨ad216, e216, hx216_0, hx216_1, hx216_2, hx216_3⟩ := at_T94 HR0.out a1 p216 q216
   cases e216
   replace p216 := eq_true p216
   replace q216 := eq_true q216
   go_enter Try.func64, Try.ntmps64
   go_wp2
   go_loopg [3, 9, 10] k (fun kq v3 v9 v10 w' => ∃ (x3_1 : Int) (x9_1 : Int) (x10_1 : Int), v3 = .int .i64 x3_1 ∧ v9 = .int .i64 x9_1 ∧ v10 = .int .i64 x10_1 ∧ Aside0 (spec_l13Content.l0 kq l0 a1 l2 x3_1 x9_1 x10_1 = some r) ∧ Aside0 (kq ≤ k) ∧ Aside0 (Below w.heap.size w w'))
   case atStart => exact ⟨(a3), (wrap64 (a1 + 1)), (0), sr, sr, sr, H', ⟨Nat.le_refl _⟩, ⟨bL HB⟩⟩
   clear H'
   try clear c2 c5b0 c6b0 c7 c7b0 c7b1 hx216_0 hx216_1 hx216_2 hx216_3 p216 q216
   obtain ⟨x3_1, x9_1, x10_1, rfl, rfl, rfl, HA, HK1, HB⟩ := hrel
   cases gk with
   | zero => exact absurd HA.out (by simp [spec_l13Content.l0])
   | succ k1 => ?_
   have H := HA.out
   clear HA
   simp only [spec_l13Content.l0] at H
   replace H := if_dd H; obtain ⟨c8b0, c9b0, H⟩ := H
   replace H := idc H; obtain ⟨c10b0, H⟩ | ⟨c10b0, H⟩ := H
   rotate_left
   · obtain rfl := Option.some.inj H
     have p220 : 0 ≤ (a1 : Int) := dcd
     have q220 : a1 < (l0.length : Int) := dcd
     obtain ⟨ad220, e220, hx220_0, hx220_1, hx220_2, hx220_3⟩ := at_T94 HR0.out a1 p220 q220
     obtain rfl : ad216 = ad220 := (by injection e220)
     replace hx220_0 := crd HB hx220_0
     replace hx220_1 := crd HB hx220_1
     replace hx220_2 := crd HB hx220_2
     replace hx220_3 := crd HB hx220_3
     replace p220 := eq_true p220
     replace q220 := eq_true q220
     go_wp2
     go_ret
     exact fin_ (bL HB)
   replace H := bnd H; obtain ⟨t221, A11, H⟩ := H
   replace H := idc H; obtain ⟨c12b0, H⟩ | ⟨c12b0, H⟩ := H
   · obtain rfl := Option.some.inj H
     have p220 : 0 ≤ (a1 : Int) := dcd
     have q220 : a1 < (l0.length : Int) := dcd
     obtain ⟨ad220, e220, hx220_0, hx220_1, hx220_2, hx220_3⟩ := at_T94 HR0.out a1 p220 q220
     obtain rfl : ad216 = ad220 := (by injection e220)
     replace hx220_0 := crd HB hx220_0
     replace hx220_1 := crd HB hx220_1
     replace hx220_2 := crd HB hx220_2
     replace hx220_3 := crd HB hx220_3
     replace p220 := eq_true p220
     replace q220 := eq_true q220
     go_wp2_with (first | ((with_reducible refine gc 81 rfl ?_); refine gc1 (some 51) Try.func81 rfl (ihP k1 (by have := HK1.out; omega) (fun k_ => k_ < w.heap.size) _ _ l0 x9_1 (fun k_ => k_ < w.heap.size) _ _ l2 x3_1 t221 _ (Kd.V_mk HC0.out (Kd.F_below (Kd.C_F k94_heap HR0.out) (bL HB))) (Kd.V_mk HC2.out (Kd.F_below (Kd.C_F k30_heap HR2.out) (bL HB))) A11.out) ?_; rintro w13 hb; replace HB := bst HB hb; clear hb))
     go_ret
     exact fin_ (bL HB)
   replace H := bnd H; obtain ⟨t222, A14, H⟩ := H
   have H' := am H; clear H
   have p220 : 0 ≤ (a1 : Int) := dcd
   have q220 : a1 < (l0.length : Int) := dcd
   obtain ⟨ad220, e220, hx220_0, hx220_1, hx220_2, hx220_3⟩ := at_T94 HR0.out a1 p220 q220
   obtain rfl : ad216 = ad220 := (by injection e220)
   replace hx220_0 := crd HB hx220_0
   replace hx220_1 := crd HB hx220_1
   replace hx220_2 := crd HB hx220_2
   replace hx220_3 := crd HB hx220_3
   replace p220 := eq_true p220
   replace q220 := eq_true q220
   go_wp2_with (first | ((with_reducible refine gc 81 rfl ?_); refine gc1 (some 51) Try.func81 rfl (ihP k1 (by have := HK1.out; omega) (fun k_ => k_ < w.heap.size) _ _ l0 x9_1 (fun k_ => k_ < w.heap.size) _ _ l2 x3_1 t221 _ (Kd.V_mk HC0.out (Kd.F_below (Kd.C_F k94_heap HR0.out) (bL HB))) (Kd.V_mk HC2.out (Kd.F_below (Kd.C_F k30_heap HR2.out) (bL HB))) A11.out) ?_; rintro w15 hb; replace HB := bst HB hb; clear hb) | ((with_reducible refine gc 67 rfl ?_); refine gl_ (some 56) Try.func67 #[.slice (some ad216) l0.length c0, .int .i64 x9_1] rfl ?_; (with_reducible refine (spec_l5After.calls k1 _ _ l0 x9_1 t222 _ ?side1 ?side2 A14.out).mono ?_); (case side1 => repeat (first | exact (Kd.C_below HR0.out HB.out) | (with_reducible refine Kd.C_alloc ?_ _) | (with_reducible refine Kd.C_drewN ?_ _) | (with_reducible refine Kd.C_drew ?_))); (case side2 => exact HC0.out); rintro e w' ⟨rfl, ⟨nd, rfl⟩⟩; refine ⟨_, rfl, ?_⟩))
   go_roundg k1
   case measure => have := HK1.out; omega
   case rel => exact ⟨(t221), (t222), (wrap64 (x10_1 + 1)), sr, sr, sr, H', ⟨by have := HK1.out; omega⟩, ⟨bL HB⟩⟩
 replace H := ige H; obtain ⟨c16b0, H⟩ | ⟨c16b0, H⟩ := H
 · obtain rfl := Option.some.inj H
   have p216 : 0 ≤ (a1 : Int) := dcd
   have q216 : a1 < (l0.length : Int) := dcd
   obtain ⟨ad216, e216, hx216_0, hx216_1, hx216_2, hx216_3⟩ := at_T94 HR0.out a1 p216 q216
   cases e216
   replace p216 := eq_true p216
   replace q216 := eq_true q216
   go_enter Try.func64, Try.ntmps64
   try go_wp2
   replace HB := bld HB
   refine start_ (n := 17) (S := fun w' => True) (ds := []) #[false, false, false, false, false, false, false, false, false, false, false, false, false, false, false, false, false] (by kernel_rfl) rfl rfl trivial (fun hHeld => ?_); refine with_tabW spec_l13Content.tab2 spec_l13Content.bits2 (fun HT_ HW_ => ?_)
   generalize w.drew = w17 at HB hHeld ⊢
   refine pu_ 0 17 ?_; refine pu_ 1 18 ?_; refine pu_ 2 19 ?_; refine pu_ 3 20 ?_; refine pu_ 4 21 ?_; refine pn_ 5 22 ?_; refine pn_ 6 23 ?_; refine pn_ 7 24 ?_; refine pn_ 8 25 ?_; refine pn_ 9 26 ?_; refine pn_ 10 27 ?_; refine pn_ 11 28 ?_; refine pn_ 12 29 ?_; refine pn_ 13 30 ?_; refine pn_ 14 31 ?_; refine pn_ 15 32 ?_; refine pu_ 16 33 ?_
   refine done_ (done_of HT_.out (by kernel_rfl)) ?_
   try go_wp2
   go_ret
   exact fin_ (bL HB)
 replace H := if_dd H; obtain ⟨c18b0, c19b0, H⟩ := H
 replace H := bnd H; obtain ⟨t219, A20, H⟩ := H
 replace H := ibt H; obtain ⟨rfl, H⟩ | ⟨rfl, H⟩ := H
 · obtain rfl := Option.some.inj H
   have p216 : 0 ≤ (a1 : Int) := dcd
   have q216 : a1 < (l0.length : Int) := dcd
   obtain ⟨ad216, e216, hx216_0, hx216_1, hx216_2, hx216_3⟩ := at_T94 HR0.out a1 p216 q216
   cases e216
   replace p216 := eq_true p216
   replace q216 := eq_true q216
   go_enter Try.func64, Try.ntmps64
   try go_wp2
   replace HB := bld HB
   have p217 : 0 ≤ (a1 : Int) := dcd
   have q217 : a1 < (l0.length : Int) := dcd
   obtain ⟨ad217, e217, hx217_0, hx217_1, hx217_2, hx217_3⟩ := at_T94 HR0.out a1 p217 q217
   have hw217_3 := hx217_3
   have hw217_2 := hx217_2
   have hw217_1 := hx217_1
   have hw217_0 := hx217_0
   obtain rfl : ad216 = ad217 := (by injection e217)
   replace hx217_0 := crd HB hx217_0
   replace hx217_1 := crd HB hx217_1
   replace hx217_2 := crd HB hx217_2
   replace hx217_3 := crd HB hx217_3
   replace p217 := eq_true p217
   replace q217 := eq_true q217
   have p218 : 0 ≤ (a3 : Int) := dcd
   have q218 : a3 < (l2.length : Int) := dcd
   obtain ⟨ad218, e218, hx218_0, hx218_1⟩ := at_T30 HR2.out a3 p218 q218
   have hw218_1 := hx218_1
   have hw218_0 := hx218_0
   cases e218
   replace hx218_0 := crd HB hx218_0
   replace hx218_1 := crd HB hx218_1
   replace p218 := eq_true p218
   replace q218 := eq_true q218
   refine start_ (n := 17) (S := fun w' => w'.cell? (ad216.add ((a1).toNat * 4)) = some (.string ((rd_T94 l0 a1).f0)) ∧ w'.cell? ⟨(ad216.add ((a1).toNat * 4)).block, (ad216.add ((a1).toNat * 4)).off + 1, none⟩ = some (.int .i64 ((rd_T94 l0 a1).f1)) ∧ w'.cell? ⟨(ad216.add ((a1).toNat * 4)).block, (ad216.add ((a1).toNat * 4)).off + 2, none⟩ = some (.int .i64 ((rd_T94 l0 a1).f2)) ∧ w'.cell? ⟨(ad216.add ((a1).toNat * 4)).block, (ad216.add ((a1).toNat * 4)).off + 3, none⟩ = some (.int .i64 ((rd_T94 l0 a1).f3)) ∧ w'.cell? (ad218.add ((a3).toNat * 2)) = some (.int .i64 ((rd_T30 l2 a3).f0)) ∧ w'.cell? ⟨(ad218.add ((a3).toNat * 2)).block, (ad218.add ((a3).toNat * 2)).off + 1, none⟩ = some (.string ((rd_T30 l2 a3).f1))) (ds := []) #[false, false, false, false, false, false, false, false, false, false, false, false, false, false, false, false, false] (by kernel_rfl) rfl rfl ⟨crd HB hw217_0, crd HB hw217_1, crd HB hw217_2, crd HB hw217_3, crd HB hw218_0, crd HB hw218_1⟩ (fun hHeld => ?_); refine with_tabW spec_l13Content.tab2 spec_l13Content.bits2 (fun HT_ HW_ => ?_)
   generalize w.drew = w22 at HB hx217_0 hx217_1 hx217_2 hx217_3 hx218_0 hx218_1 hHeld ⊢
   refine pu_ 0 17 ?_; refine pu_ 1 18 ?_; refine pu_ 2 19 ?_; refine pu_ 3 20 ?_; refine pu_ 4 21 ?_; refine pu_ 5 22 ?_; refine pu_ 6 23 ?_; refine pu_ 7 24 ?_; refine pu_ 8 25 ?_; refine pu_ 10 27 ?_; refine pu_ 11 28 ?_; refine pu_ 12 29 ?_; refine tk_ 9 26 hHeld ?_; refine tk_ 13 30 hHeld ?_
   refine on_ 14 31 (fun K hK => ?_)
   refine gs_ Try.func35 #[.int .i64 ((rd_T94 l0 a1).f1), .agg #[.int .i64 ((rd_T30 l2 a3).f0), .string ((rd_T30 l2 a3).f1)]] rfl ?_
   with_reducible refine (spec_ValOk.calls A20.out).mono ?_
   rintro e w23 ⟨rfl, hb⟩
   refine ⟨_, rfl, ?_⟩
   replace HB := bst HB hb
   (try clear hb)
   (try clear hb2)
   (try clear hk)
   (try clear hi)
   refine hK.out _ _ ⟨crd HB hw217_0, crd HB hw217_1, crd HB hw217_2, crd HB hw217_3, crd HB hw218_0, crd HB hw218_1⟩ (fun hHeld => ?_)
   clear hK K
   refine no_ (some 31) ?_; refine pu_ 15 32 ?_; refine pu_ 16 33 ?_
   refine done_ (done_of HT_.out (by kernel_rfl)) ?_
   try go_wp2
   go_ret
   exact fin_ (bL HB)
 obtain rfl := Option.some.inj H
 have p216 : 0 ≤ (a1 : Int) := dcd
 have q216 : a1 < (l0.length : Int) := dcd
 obtain ⟨ad216, e216, hx216_0, hx216_1, hx216_2, hx216_3⟩ := at_T94 HR0.out a1 p216 q216
 cases e216
 replace p216 := eq_true p216
 replace q216 := eq_true q216
 go_enter Try.func64, Try.ntmps64
 try go_wp2
 replace HB := bld HB
 have p217 : 0 ≤ (a1 : Int) := dcd
 have q217 : a1 < (l0.length : Int) := dcd
 obtain ⟨ad217, e217, hx217_0, hx217_1, hx217_2, hx217_3⟩ := at_T94 HR0.out a1 p217 q217
 have hw217_3 := hx217_3
 have hw217_2 := hx217_2
 have hw217_1 := hx217_1
 have hw217_0 := hx217_0
 obtain rfl : ad216 = ad217 := (by injection e217)
 replace hx217_0 := crd HB hx217_0
 replace hx217_1 := crd HB hx217_1
 replace hx217_2 := crd HB hx217_2
 replace hx217_3 := crd HB hx217_3
 replace p217 := eq_true p217
 replace q217 := eq_true q217
 have p218 : 0 ≤ (a3 : Int) := dcd
 have q218 : a3 < (l2.length : Int) := dcd
 obtain ⟨ad218, e218, hx218_0, hx218_1⟩ := at_T30 HR2.out a3 p218 q218
 have hw218_1 := hx218_1
 have hw218_0 := hx218_0
 cases e218
 replace hx218_0 := crd HB hx218_0
 replace hx218_1 := crd HB hx218_1
 replace p218 := eq_true p218
 replace q218 := eq_true q218
 refine start_ (n := 17) (S := fun w' => w'.cell? (ad216.add ((a1).toNat * 4)) = some (.string ((rd_T94 l0 a1).f0)) ∧ w'.cell? ⟨(ad216.add ((a1).toNat * 4)).block, (ad216.add ((a1).toNat * 4)).off + 1, none⟩ = some (.int .i64 ((rd_T94 l0 a1).f1)) ∧ w'.cell? ⟨(ad216.add ((a1).toNat * 4)).block, (ad216.add ((a1).toNat * 4)).off + 2, none⟩ = some (.int .i64 ((rd_T94 l0 a1).f2)) ∧ w'.cell? ⟨(ad216.add ((a1).toNat * 4)).block, (ad216.add ((a1).toNat * 4)).off + 3, none⟩ = some (.int .i64 ((rd_T94 l0 a1).f3)) ∧ w'.cell? (ad218.add ((a3).toNat * 2)) = some (.int .i64 ((rd_T30 l2 a3).f0)) ∧ w'.cell? ⟨(ad218.add ((a3).toNat * 2)).block, (ad218.add ((a3).toNat * 2)).off + 1, none⟩ = some (.string ((rd_T30 l2 a3).f1))) (ds := []) #[false, false, false, false, false, false, false, false, false, false, false, false, false, false, false, false, false] (by kernel_rfl) rfl rfl ⟨crd HB hw217_0, crd HB hw217_1, crd HB hw217_2, crd HB hw217_3, crd HB hw218_0, crd HB hw218_1⟩ (fun hHeld => ?_); refine with_tabW spec_l13Content.tab2 spec_l13Content.bits2 (fun HT_ HW_ => ?_)
 generalize w.drew = w24 at HB hx217_0 hx217_1 hx217_2 hx217_3 hx218_0 hx218_1 hHeld ⊢
 refine pu_ 0 17 ?_; refine pu_ 1 18 ?_; refine pu_ 2 19 ?_; refine pu_ 3 20 ?_; refine pu_ 4 21 ?_; refine pu_ 5 22 ?_; refine pu_ 6 23 ?_; refine pu_ 7 24 ?_; refine pu_ 8 25 ?_; refine pu_ 10 27 ?_; refine pu_ 11 28 ?_; refine pu_ 12 29 ?_; refine tk_ 9 26 hHeld ?_; refine tk_ 13 30 hHeld ?_
 refine on_ 14 31 (fun K hK => ?_)
 refine gs_ Try.func35 #[.int .i64 ((rd_T94 l0 a1).f1), .agg #[.int .i64 ((rd_T30 l2 a3).f0), .string ((rd_T30 l2 a3).f1)]] rfl ?_
 with_reducible refine (spec_ValOk.calls A20.out).mono ?_
 rintro e w25 ⟨rfl, hb⟩
 refine ⟨_, rfl, ?_⟩
 replace HB := bst HB hb
 (try clear hb)
 (try clear hb2)
 (try clear hk)
 (try clear hi)
 refine hK.out _ _ ⟨crd HB hw217_0, crd HB hw217_1, crd HB hw217_2, crd HB hw217_3, crd HB hw218_0, crd HB hw218_1⟩ (fun hHeld => ?_)
 clear hK K
 refine no_ (some 31) ?_; refine pu_ 15 32 ?_; refine pu_ 16 33 ?_
 refine done_ (done_of HT_.out (by kernel_rfl)) ?_
 try go_wp2
 go_ret
 exact fin_ (bL HB)
theorem spec_l13Part.pair (k : Nat) : (∀ (P0_ : Nat → Prop) (A0 : Option Addr) (c0 : Nat) (l0 : List (S94)) (a1 : Int) (P2_ : Nat → Prop) (A2 : Option Addr) (c2 : Nat) (l2 : List (S30)) (a3 : Int) (r : Int) (w : World) (hs0 : Kd.V k94 94 w w.heap.size (fun k_ => P0_ k_) (.slice A0 l0.length c0) l0) (hs2 : Kd.V k30 30 w w.heap.size (fun k_ => P2_ k_) (.slice A2 l2.length c2) l2) (h : spec_l13Part.f k l0 a1 l2 a3 = some r),
    Calls Try.prog 81 #[.slice A0 l0.length c0, .int .i64 a1, .slice A2 l2.length c2, .int .i64 a3] w fun e w' => e = .returned (.int .i64 r) ∧ Below w.heap.size w w') ∧ (∀ (A0 : Option Addr) (c0 : Nat) (l0 : List (S94)) (a1 : Int) (A2 : Option Addr) (c2 : Nat) (l2 : List (S30)) (a3 : Int) (r : Int) (w : World) (hr0 : Kd.C k94 w A0 l0.length l0) (hc0 : l0.length ≤ c0) (hr2 : Kd.C k30 w A2 l2.length l2) (hc2 : l2.length ≤ c2) (h : spec_l13Content.f k l0 a1 l2 a3 = some r),
    Calls Try.prog 64 #[.slice A0 l0.length c0, .int .i64 a1, .slice A2 l2.length c2, .int .i64 a3] w fun e w' => e = .returned (.int .i64 r) ∧ Below w.heap.size w w') := by
 induction k using Nat.strongRecOn with
 | _ k ih => exact ⟨spec_l13Part.calls_ k (fun j hj => (ih j hj).1) (fun j hj => (ih j hj).2), spec_l13Content.calls_ (fun j hj => (ih j hj).2) (fun j hj => (ih j hj).1)⟩
theorem spec_l13Part.calls (k : Nat) : ∀ (P0_ : Nat → Prop) (A0 : Option Addr) (c0 : Nat) (l0 : List (S94)) (a1 : Int) (P2_ : Nat → Prop) (A2 : Option Addr) (c2 : Nat) (l2 : List (S30)) (a3 : Int) (r : Int) (w : World) (hs0 : Kd.V k94 94 w w.heap.size (fun k_ => P0_ k_) (.slice A0 l0.length c0) l0) (hs2 : Kd.V k30 30 w w.heap.size (fun k_ => P2_ k_) (.slice A2 l2.length c2) l2) (h : spec_l13Part.f k l0 a1 l2 a3 = some r),
    Calls Try.prog 81 #[.slice A0 l0.length c0, .int .i64 a1, .slice A2 l2.length c2, .int .i64 a3] w fun e w' => e = .returned (.int .i64 r) ∧ Below w.heap.size w w' := (spec_l13Part.pair k).1
theorem spec_l13Content.calls (k : Nat) : ∀ (A0 : Option Addr) (c0 : Nat) (l0 : List (S94)) (a1 : Int) (A2 : Option Addr) (c2 : Nat) (l2 : List (S30)) (a3 : Int) (r : Int) (w : World) (hr0 : Kd.C k94 w A0 l0.length l0) (hc0 : l0.length ≤ c0) (hr2 : Kd.C k30 w A2 l2.length l2) (hc2 : l2.length ≤ c2) (h : spec_l13Content.f k l0 a1 l2 a3 = some r),
    Calls Try.prog 64 #[.slice A0 l0.length c0, .int .i64 a1, .slice A2 l2.length c2, .int .i64 a3] w fun e w' => e = .returned (.int .i64 r) ∧ Below w.heap.size w w' := (spec_l13Part.pair k).2

/-! ### spec_RecOk: function 50 -/
def spec_RecOk.f (k : Nat) (l0 : List (S94)) (l1_0 : List (S30)) : Option (Bool) := (spec_SchemaOk.f k l0).bind fun t224 => (if t224 = true then (if (l1_0.length : Int) ≤ 300 then ((spec_l13Content.f k l0 0 l1_0 0).bind fun t225 => (some (t225 == (l1_0.length : Int)))) else (some false)) else (some false))
def spec_RecOk.T1 : Bool × List (List Nat × List Nat) := (true, [([], []), ([0], [0]), ([1, 1], [1]), ([2], [2]), ([3, 2], [2, 3]), ([4, 2], [2, 4]), ([5, 2], [2, 5]), ([2, 6], [2, 6]), ([7, 2], [7]), ([8], [8]), ([8], [8]), ([10, 8], [8, 10]), ([9, 11, 8, 8], [8, 9, 11]), ([8], [8]), ([13, 8], [8, 13]), ([14, 8], [8, 14]), ([12, 15, 8], [8, 12, 15]), ([8, 16], [8, 16]), ([17, 12, 0, 1, 2, 3, 4, 5, 6, 7, 8, 9, 10, 11, 12, 13, 14, 15, 16, 17], [17])])
def spec_RecOk.B1 : List Nat := [0, 1, 3, 7, 15, 31, 63, 127, 255, 511, 511, 1535, 4095, 511, 8703, 25087, 65535, 131071, 262143]
theorem spec_RecOk.tab1 : rtab .any (opsOf Try.f50 1) = spec_RecOk.T1 := by kernel_rfl
theorem spec_RecOk.bits1 : waitsOk spec_RecOk.T1.2 spec_RecOk.B1 = true := by kernel_rfl
theorem spec_RecOk.calls {k : Nat} {A0 : Option Addr} {c0 : Nat} {l0 : List (S94)} {A1_0 : Option Addr} {c1_0 : Nat} {l1_0 : List (S30)} {r : Bool} {w : World} (hr0 : Kd.C k94 w A0 l0.length l0) (hc0 : l0.length ≤ c0) (hr1_0 : Kd.C k30 w A1_0 l1_0.length l1_0) (hc1_0 : l1_0.length ≤ c1_0) (h : spec_RecOk.f k l0 l1_0 = some r) :
    Calls Try.prog 50 #[.slice A0 l0.length c0, .agg #[.slice A1_0 l1_0.length c1_0]] w fun e w' => e = .returned (.bool r) ∧ Below w.heap.size w w' := by
 have hu100 := Try.underlying100
 have HR0 := am hr0
 have HC0 := am hc0
 clear hr0 hc0
 have HR1_0 := am hr1_0
 have HC1_0 := am hc1_0
 clear hr1_0 hc1_0
 have HB := am (Below.refl w.heap.size w)
 have H := h; clear h; unfold spec_RecOk.f at H
 replace H := bnd H; obtain ⟨t224, A3, H⟩ := H
 replace H := ibt H; obtain ⟨rfl, H⟩ | ⟨rfl, H⟩ := H
 rotate_left
 · obtain rfl := Option.some.inj H
   go_enter Try.func50, Try.ntmps50
   try go_wp2_with (first | ((with_reducible refine gd 3 rfl ?_); (try refine gg ?_; dsimp only); refine bxw 3 rfl #[.slice A1_0 l1_0.length c1_0] 100 HB ?_; clear HB; intro gb223 w14 BK223 GW223 GE223 HB))
   replace BK223 := bdr BK223
   replace HB := bld HB
   refine start_ (n := 19) (S := fun w' => True) (ds := []) #[false, false, false, false, false, false, false, false, false, false, false, false, false, false, false, false, false, false, false] (by kernel_rfl) rfl rfl trivial (fun hHeld => ?_); refine with_tabW spec_RecOk.tab1 spec_RecOk.bits1 (fun HT_ HW_ => ?_)
   generalize w14.drew = w15 at BK223 HB hHeld ⊢
   refine pu_ 0 5 ?_
   refine on_ 1 6 (fun K hK => ?_)
   refine gs_ Try.func48 #[.slice A0 l0.length c0] rfl ?_
   with_reducible refine (spec_SchemaOk.calls ?side1 ?side2 A3.out).mono ?_
   (case side1 => repeat (first | exact (Kd.C_below HR0.out HB.out) | (with_reducible refine Kd.C_alloc ?_ _) | (with_reducible refine Kd.C_drewN ?_ _) | (with_reducible refine Kd.C_drew ?_)))
   (case side2 => exact HC0.out)
   rintro e w16 ⟨rfl, hb⟩
   refine ⟨_, rfl, ?_⟩
   replace BK223 := bkb BK223 hb
   replace HB := bst HB hb
   (try clear hb)
   (try clear hb2)
   (try clear hk)
   (try clear hi)
   refine hK.out _ _ trivial (fun hHeld => ?_)
   clear hK K
   refine no_ (some 6) ?_; refine pu_ 2 7 ?_; refine pn_ 3 8 ?_; refine pn_ 4 9 ?_; refine pn_ 5 10 ?_; refine pn_ 6 11 ?_; refine pu_ 7 12 ?_; refine pu_ 8 13 ?_; refine pn_ 9 14 ?_; refine pn_ 10 15 ?_; refine pn_ 11 16 ?_; refine pn_ 12 17 ?_; refine pn_ 13 18 ?_; refine pn_ 14 19 ?_; refine pn_ 15 20 ?_; refine pn_ 16 21 ?_; refine pu_ 17 22 ?_; refine pu_ 18 4 ?_
   refine done_ (done_of HT_.out (by kernel_rfl)) ?_
   try go_wp2
   go_ret
   exact fin_ (bL HB)
 by_cases c5 : (l1_0.length : Int) ≤ 300
 rotate_left
 · rw [if_neg c5] at H
   have c5b0 := decide_eq_false c5
   have c5b1 : decide (l1_0.length ≤ 300) = false := decide_eq_false (by omega)
   clear c5
   obtain rfl := Option.some.inj H
   go_enter Try.func50, Try.ntmps50
   try go_wp2_with (first | ((with_reducible refine gd 3 rfl ?_); (try refine gg ?_; dsimp only); refine bxw 3 rfl #[.slice A1_0 l1_0.length c1_0] 100 HB ?_; clear HB; intro gb223 w11 BK223 GW223 GE223 HB))
   replace BK223 := bdr BK223
   replace HB := bld HB
   refine start_ (n := 19) (S := fun w' => w'.cell? ⟨gb223, 0, none⟩ = some (.slice A1_0 l1_0.length c1_0)) (ds := []) #[false, false, false, false, false, false, false, false, false, false, false, false, false, false, false, false, false, false, false] (by kernel_rfl) rfl rfl (bcl BK223 0) (fun hHeld => ?_); refine with_tabW spec_RecOk.tab1 spec_RecOk.bits1 (fun HT_ HW_ => ?_)
   generalize w11.drew = w12 at BK223 HB hHeld ⊢
   refine pu_ 0 5 ?_
   refine on_ 1 6 (fun K hK => ?_)
   refine gs_ Try.func48 #[.slice A0 l0.length c0] rfl ?_
   with_reducible refine (spec_SchemaOk.calls ?side1 ?side2 A3.out).mono ?_
   (case side1 => repeat (first | exact (Kd.C_below HR0.out HB.out) | (with_reducible refine Kd.C_alloc ?_ _) | (with_reducible refine Kd.C_drewN ?_ _) | (with_reducible refine Kd.C_drew ?_)))
   (case side2 => exact HC0.out)
   rintro e w13 ⟨rfl, hb⟩
   refine ⟨_, rfl, ?_⟩
   replace BK223 := bkb BK223 hb
   replace HB := bst HB hb
   (try clear hb)
   (try clear hb2)
   (try clear hk)
   (try clear hi)
   refine hK.out _ _ (bcl BK223 0) (fun hHeld => ?_)
   clear hK K
   refine no_ (some 6) ?_; refine pu_ 2 7 ?_; refine pu_ 3 8 ?_; refine tk_ 4 9 hHeld ?_; refine pu_ 5 10 ?_; refine pu_ 6 11 ?_; refine pu_ 7 12 ?_; refine pu_ 8 13 ?_; refine pn_ 9 14 ?_; refine pn_ 10 15 ?_; refine pn_ 11 16 ?_; refine pn_ 12 17 ?_; refine pn_ 13 18 ?_; refine pn_ 14 19 ?_; refine pn_ 15 20 ?_; refine pn_ 16 21 ?_; refine pu_ 17 22 ?_; refine pu_ 18 4 ?_
   refine done_ (done_of HT_.out (by kernel_rfl)) ?_
   try go_wp2
   go_ret
   exact fin_ (bL HB)
 rw [if_pos c5] at H
 have c5b0 := decide_eq_true c5
 have c5b1 : decide (l1_0.length ≤ 300) = true := decide_eq_true (by omega)
 clear c5
 replace H := bnd H; obtain ⟨t225, A6, H⟩ := H
 obtain rfl := Option.some.inj H
 go_enter Try.func50, Try.ntmps50
 try go_wp2_with (first | ((with_reducible refine gd 3 rfl ?_); (try refine gg ?_; dsimp only); refine bxw 3 rfl #[.slice A1_0 l1_0.length c1_0] 100 HB ?_; clear HB; intro gb223 w7 BK223 GW223 GE223 HB))
 replace BK223 := bdr BK223
 replace HB := bld HB
 refine start_ (n := 19) (S := fun w' => w'.cell? ⟨gb223, 0, none⟩ = some (.slice A1_0 l1_0.length c1_0)) (ds := []) #[false, false, false, false, false, false, false, false, false, false, false, false, false, false, false, false, false, false, false] (by kernel_rfl) rfl rfl (bcl BK223 0) (fun hHeld => ?_); refine with_tabW spec_RecOk.tab1 spec_RecOk.bits1 (fun HT_ HW_ => ?_)
 generalize w7.drew = w8 at BK223 HB hHeld ⊢
 refine pu_ 0 5 ?_
 refine on_ 1 6 (fun K hK => ?_)
 refine gs_ Try.func48 #[.slice A0 l0.length c0] rfl ?_
 with_reducible refine (spec_SchemaOk.calls ?side1 ?side2 A3.out).mono ?_
 (case side1 => repeat (first | exact (Kd.C_below HR0.out HB.out) | (with_reducible refine Kd.C_alloc ?_ _) | (with_reducible refine Kd.C_drewN ?_ _) | (with_reducible refine Kd.C_drew ?_)))
 (case side2 => exact HC0.out)
 rintro e w9 ⟨rfl, hb⟩
 refine ⟨_, rfl, ?_⟩
 replace BK223 := bkb BK223 hb
 replace HB := bst HB hb
 (try clear hb)
 (try clear hb2)
 (try clear hk)
 (try clear hi)
 refine hK.out _ _ (bcl BK223 0) (fun hHeld => ?_)
 clear hK K
 refine no_ (some 6) ?_; refine pu_ 2 7 ?_; refine pu_ 3 8 ?_; refine tk_ 4 9 hHeld ?_; refine pu_ 5 10 ?_; refine pu_ 6 11 ?_; refine pu_ 7 12 ?_; refine pu_ 8 13 ?_; refine pu_ 9 14 ?_; refine pu_ 10 15 ?_; refine pu_ 13 18 ?_; refine tk_ 11 16 hHeld ?_; refine tk_ 14 19 hHeld ?_; refine pu_ 15 20 ?_
 refine on_ 12 17 (fun K hK => ?_)
 refine gs_ Try.func64 #[.slice A0 l0.length c0, .int .i64 0, .slice A1_0 l1_0.length c1_0, .int .i64 0] rfl ?_
 with_reducible refine (spec_l13Content.calls k _ _ l0 0 _ _ l1_0 0 t225 _ ?side1 ?side2 ?side3 ?side4 A6.out).mono ?_
 (case side1 => repeat (first | exact (Kd.C_below HR0.out HB.out) | (with_reducible refine Kd.C_alloc ?_ _) | (with_reducible refine Kd.C_drewN ?_ _) | (with_reducible refine Kd.C_drew ?_)))
 (case side2 => exact HC0.out)
 (case side3 => repeat (first | exact (Kd.C_below HR1_0.out HB.out) | (with_reducible refine Kd.C_alloc ?_ _) | (with_reducible refine Kd.C_drewN ?_ _) | (with_reducible refine Kd.C_drew ?_)))
 (case side4 => exact HC1_0.out)
 rintro e w10 ⟨rfl, hb⟩
 refine ⟨_, rfl, ?_⟩
 replace BK223 := bkb BK223 hb
 replace HB := bst HB hb
 (try clear hb)
 (try clear hb2)
 (try clear hk)
 (try clear hi)
 refine hK.out _ _ (bcl BK223 0) (fun hHeld => ?_)
 clear hK K
 refine no_ (some 17) ?_; refine pu_ 16 21 ?_; refine pu_ 17 22 ?_; refine pu_ 18 4 ?_
 refine done_ (done_of HT_.out (by kernel_rfl)) ?_
 try go_wp2
 go_ret
 exact fin_ (bL HB)
/-! ### spec_l14Leaf: function 65 -/
def spec_l14Leaf.l0 : Nat → List (S94) → Int → Int → Int → Option (Int)
  | 0, _, _, _, _ => none
  | k + 1, x0, x1, x5, x6 => if x6 < x1 then (if 0 ≤ x6 then (if x6 < (x0.length : Int) then (if ((rd_T94 x0 x6).f1) = 7 then (spec_l14Leaf.l0 k x0 x1 x5 (wrap64 (x6 + 1))) else (spec_l14Leaf.l0 k x0 x1 (wrap64 (x5 + 1)) (wrap64 (x6 + 1)))) else (none)) else (none)) else (some x5)
def spec_l14Leaf.f (k : Nat) (l0 : List (S94)) (a1 : Int) : Option (Int) := spec_l14Leaf.l0 k l0 a1 0 0
theorem spec_l14Leaf.calls {k : Nat} {A0 : Option Addr} {c0 : Nat} {l0 : List (S94)} {a1 r : Int} {w : World} (hr0 : Kd.C k94 w A0 l0.length l0) (hc0 : l0.length ≤ c0) (h : spec_l14Leaf.f k l0 a1 = some r) :
    Calls Try.prog 65 #[.slice A0 l0.length c0, .int .i64 a1] w fun e w' => e = .returned (.int .i64 r) ∧ Drawn0 w w' := by
 have HR0 := am hr0
 have HC0 := am hc0
 clear hr0 hc0
 have H := h; clear h; unfold spec_l14Leaf.f at H
 have H' := am H; clear H
 go_enter Try.func65, Try.ntmps65
 go_wp2
 go_loopg [5, 6] k (fun kq v5 v6 w' => ∃ (x5_1 : Int) (x6_1 : Int), v5 = .int .i64 x5_1 ∧ v6 = .int .i64 x6_1 ∧ Aside0 (spec_l14Leaf.l0 kq l0 a1 x5_1 x6_1 = some r) ∧ Aside0 (kq ≤ k) ∧ Drawn0 w w')
 case atStart => exact ⟨(0), (0), sr, sr, H', ⟨Nat.le_refl _⟩, by repeat (first | exact Drawn0.refl _ | apply Drawn0.step)⟩
 clear H'
 obtain ⟨x5_1, x6_1, rfl, rfl, HA, HK1, ⟨m1, rfl⟩⟩ := hrel
 cases gk with
 | zero => exact absurd HA.out (by simp [spec_l14Leaf.l0])
 | succ k1 => ?_
 have H := HA.out
 clear HA
 simp only [spec_l14Leaf.l0] at H
 replace H := idc H; obtain ⟨c3b0, H⟩ | ⟨c3b0, H⟩ := H
 rotate_left
 · obtain rfl := Option.some.inj H
   go_wp2
   go_ret
   exact ⟨sr, drl⟩
 replace H := if_dd H; obtain ⟨c4b0, c5b0, H⟩ := H
 replace H := ieq H; obtain ⟨c6b0, c6b1, H⟩ | ⟨c6, c6b0, c6b1, H⟩ := H
 · have H' := am H; clear H
   have p226 : 0 ≤ (x6_1 : Int) := dcd
   have q226 : x6_1 < (l0.length : Int) := dcd
   obtain ⟨ad226, e226, hx226_0, hx226_1, hx226_2, hx226_3⟩ := at_T94 HR0.out x6_1 p226 q226
   cases e226
   replace p226 := eq_true p226
   replace q226 := eq_true q226
   go_wp2
   go_roundg k1
   case measure => have := HK1.out; omega
   case rel => exact ⟨(x5_1), (wrap64 (x6_1 + 1)), sr, sr, H', ⟨by have := HK1.out; omega⟩, by repeat (first | exact Drawn0.refl _ | apply Drawn0.step)⟩
 have H' := am H; clear H
 have p226 : 0 ≤ (x6_1 : Int) := dcd
 have q226 : x6_1 < (l0.length : Int) := dcd
 obtain ⟨ad226, e226, hx226_0, hx226_1, hx226_2, hx226_3⟩ := at_T94 HR0.out x6_1 p226 q226
 cases e226
 replace p226 := eq_true p226
 replace q226 := eq_true q226
 go_wp2
 go_roundg k1
 case measure => have := HK1.out; omega
 case rel => exact ⟨(wrap64 (x5_1 + 1)), (wrap64 (x6_1 + 1)), sr, sr, H', ⟨by have := HK1.out; omega⟩, by repeat (first | exact Drawn0.refl _ | apply Drawn0.step)⟩
-- NOT PRINTED: function 82 (spec_l14Null)

-- NOT PRINTED: function 66 (spec_l14Part)

-- NOT PRINTED: function 51 (spec_l14Content)

-- NOT PRINTED: function 25 (spec_Shred)

/-! ### spec_l1Pick: function 90 -/
def spec_l1Pick.f (s0_0 : List Int) (s0_1 : Int) (s0_2 : Int) (l1 : List ByteArray) : Option (ByteArray × Int × Int) := (spec_l1Below.f s0_0 s0_1 s0_2 (l1.length : Int)).bind fun bt250 => (if 0 ≤ bt250.1 then (if bt250.1 < (l1.length : Int) then (some (rdOf ByteArray.empty l1 bt250.1, bt250.2.1, bt250.2.2)) else (none)) else (none))
theorem spec_l1Pick.calls {g : Nat} {s0_0 : List Int} {s0_1 s0_2 : Int} {A1 : Option Addr} {c1 : Nat} {l1 : List ByteArray} {r1 : ByteArray} {r2 r3 : Int} {w0 w : World} (hI : IsS57 w0 w g s0_0 s0_1 s0_2) (hB : Below w0.heap.size w0 w) (hr1 : Kd.C Kd.string w A1 l1.length l1) (hc1 : l1.length ≤ c1) (hf1 : ∀ ad, A1 = some ad → 0 < l1.length → ad.block ≠ g) (h : spec_l1Pick.f s0_0 s0_1 s0_2 l1 = some (r1, r2, r3)) :
    Calls Try.prog 90 #[.pointer (some ⟨g, 0, none⟩), .slice A1 l1.length c1] w fun e w' => e = .returned (.string r1) ∧ IsS57 w0 w' g s0_0 r2 r3 ∧ Below w0.heap.size w0 w' ∧ KeepBut w w' g none := by
 have HR1 := am hr1
 have HC1 := am hc1
 clear hr1 hc1
 have HI0 := am hI
 have HGE0 := am (IsS57.ge hI)
 have HK := am (KeepBut.refl w g none)
 have HL := am hB.size
 clear hI
 have HW0 := am hB.size
 have HB := am hB
 clear hB
 have H := h; clear h; unfold spec_l1Pick.f at H
 replace H := bnd3 H; obtain ⟨t250, t251, t252, A3, H⟩ := H; dsimp only at H
 replace H := if_dd H; obtain ⟨c4b0, c5b0, H⟩ := H
 replace H := sj3 H; obtain ⟨rfl, rfl, rfl⟩ := H
 go_enter Try.func90, Try.ntmps90
 go_wp2_with (first | ((with_reducible refine gc 27 rfl ?_); refine gc1 (some 9) Try.func27 rfl (spec_l1Below.calls (IsS57.l HI0) (bL HB) A3.out) ?_; rintro w6 ⟨hi, hb, hk⟩; replace HK := ktr HK hk; replace HB := am hb; replace HI0 := am hi; clear hb hk hi; have p253 : 0 ≤ (t250 : Int) := dcd; have q253 : t250 < (l1.length : Int) := dcd; obtain ⟨ad253, e253, hx253_0⟩ := Kd.at_string HR1.out t250 p253 q253; cases e253; replace hx253_0 := keep_cell HK.out hx253_0 (by first | (rw [add_block]; exact hf1 _ rfl (by omega)) | exact hf1 _ rfl (by omega) | exact hf1 ad253 rfl (by omega)); replace p253 := eq_true p253; replace q253 := eq_true q253))
 go_ret
 exact fin_ ⟨IsS57.l HI0, bL HB, pL HK⟩
/-! ### spec_l1DrawBytes: function 94 -/
def spec_l1DrawBytes.l0 : Nat → List Int → Int → Int → List Int → Int → Int → Option (List Int × Int × Int)
  | 0, _, _, _, _, _, _ => none
  | k + 1, x5, x6, x7, x1000, x1001, x1002 => if x7 < x6 then ((spec_l1Byte.f x1000 x1001 x1002).bind fun bt260 => (if x5.length < 140737488355328 then (spec_l1DrawBytes.l0 k (x5 ++ [(bt260.1) % 256]) x6 (wrap64 (x7 + 1)) x1000 bt260.2.1 bt260.2.2) else (none))) else (some (x5, x1001, x1002))
def spec_l1DrawBytes.f (k : Nat) (s0_0 : List Int) (s0_1 : Int) (s0_2 : Int) (a1 : Int) : Option (List Int × Int × Int) := (spec_l1Below.f s0_0 s0_1 s0_2 (wrap64 (a1 + 1))).bind fun bt257 => (spec_l1DrawBytes.l0 k (([] : List Int)) bt257.1 0 s0_0 bt257.2.1 bt257.2.2)
theorem spec_l1DrawBytes.calls {k g : Nat} {s0_0 : List Int} {s0_1 s0_2 a1 : Int} {r1 : List Int} {r2 r3 : Int} {w0 w : World} (hI : IsS57 w0 w g s0_0 s0_1 s0_2) (hB : Below w0.heap.size w0 w) (h : spec_l1DrawBytes.f k s0_0 s0_1 s0_2 a1 = some (r1, r2, r3)) :
    Calls Try.prog 94 #[.pointer (some ⟨g, 0, none⟩), .int .i64 a1] w fun e w' => ∃ v0_ : Value, e = .returned (v0_) ∧ Kd.R (Kd.int .u8) 5 w' w.heap.size (fun _ => True) v0_ r1 ∧ IsS57 w0 w' g s0_0 r2 r3 ∧ Below w0.heap.size w0 w' ∧ KeepBut w w' g none := by
 have HI0 := am hI
 have HGE0 := am (IsS57.ge hI)
 have HK := am (KeepBut.refl w g none)
 have HL := am hB.size
 clear hI
 have HW0 := am hB.size
 have HB := am hB
 clear hB
 have H := h; clear h; unfold spec_l1DrawBytes.f at H
 obtain ⟨y254, hy254⟩ : ∃ y_ : List Int, y_ = (([] : List Int)) := ⟨_, rfl⟩
 replace H : ((spec_l1Below.f s0_0 s0_1 s0_2 (wrap64 (a1 + 1))).bind fun bt257 => (spec_l1DrawBytes.l0 k y254 bt257.1 0 s0_0 bt257.2.1 bt257.2.2)) = some (r1, r2, r3) := by first | (rw [hy254]; with_reducible exact H) | (rw [hy254]; exact H) | exact H
 have Ny254 := am hy254
 clear hy254
 replace H := bnd3 H; obtain ⟨t257, t258, t259, A3, H⟩ := H; dsimp only at H
 have H' := am H; clear H
 go_enter Try.func94, Try.ntmps94
 go_wp2_with (first | ((with_reducible refine gd 8 rfl ?_); refine Kd.R_lit (Kd.int .u8) _ 5 ?hg (N := 8) ?hd (xs := ([] : List Int)) (inner := []) (ok := fun _ => True) (okp := fun _ => True) ?hr ?hp (fun _ hk => hk) trivial (Below.refl _ _) (Nat.le_refl _) (by simp) ?_; (case hd => rfl); (case hg => rfl); (case hr => first | (go_simp; done) | (go_simp; rfl)); (case hp => exact (Reps.none _ _)); intro v255 w4 ho5 hb hg_ hnew_; clear hg_ hnew_; (first | rw [← Ny254.out] at ho5 | (simp only [Int.reduceToNat] at ho5; rw [← Ny254.out] at ho5)); have HO256 := rlk ho5 HK; replace HK := kbe HK hb; replace HB := bst HB hb; replace HI0 := IsS57.be HI0 hb; clear hb ho5) | ((with_reducible refine gc 27 rfl ?_); refine gc1 (some 12) Try.func27 rfl (spec_l1Below.calls (IsS57.l HI0) (bL HB) A3.out) ?_; rintro w6 ⟨hi, hb, hk⟩; replace HO256 := IsS57.rk HI0 HO256 hk; replace HK := ktr HK hk; replace HB := am hb; replace HI0 := am hi; clear hb hk hi))
 go_loopg [5, 7] k (fun kq v5 v7 w' => ∃ (x5_1 : List Int) (x7_1 : Int) (x1001_1 : Int) (x1002_1 : Int), v7 = .int .i64 x7_1 ∧ Aside0 (spec_l1DrawBytes.l0 kq x5_1 t257 x7_1 s0_0 x1001_1 x1002_1 = some (r1, r2, r3)) ∧ Aside0 (kq ≤ k) ∧ Aside0 (Kd.R (Kd.int .u8) 5 w' w.heap.size (fun _ => True) v5 x5_1) ∧ Aside0 (IsS57 w0 w' g s0_0 x1001_1 x1002_1) ∧ Aside0 (KeepBut w w' g none) ∧ Aside0 (Below w0.heap.size w0 w'))
 case atStart => exact ⟨(y254), (0), (t258), (t259), sr, H', ⟨Nat.le_refl _⟩, ⟨rL HO256⟩, ⟨IsS57.l HI0⟩, ⟨pL HK⟩, ⟨bL HB⟩⟩
 clear H'
 obtain ⟨x5_1, x7_1, x1001_1, x1002_1, rfl, HA, HK1, HO_5, HI0, HK, HB⟩ := hrel
 cases gk with
 | zero => exact absurd HA.out (by simp [spec_l1DrawBytes.l0])
 | succ k1 => ?_
 have H := HA.out
 clear HA
 simp only [spec_l1DrawBytes.l0] at H
 replace H := idc H; obtain ⟨c7b0, H⟩ | ⟨c7b0, H⟩ := H
 rotate_left
 · replace H := sj3 H; obtain ⟨rfl, rfl, rfl⟩ := H
   go_wp2
   go_ret
   exact ⟨_, fin_ ⟨by (with_reducible repeat (first | apply Kd.R_alloc | apply Kd.R_drewN | apply Kd.R_drew)); exact HO_5.out, IsS57.l HI0, bL HB, pL HK⟩⟩
 replace H := bnd3 H; obtain ⟨t260, t261, t262, A8, H⟩ := H; dsimp only at H
 replace H := ifs H; obtain ⟨c9, H⟩ := H
 have LMc9 := am c9
 clear c9
 obtain ⟨y263, hy263⟩ : ∃ y_ : List Int, y_ = (x5_1 ++ [(t260) % 256]) := ⟨_, rfl⟩
 replace H : (spec_l1DrawBytes.l0 k1 y263 t257 (wrap64 (x7_1 + 1)) s0_0 t261 t262) = some (r1, r2, r3) := by first | (rw [hy263]; with_reducible exact H) | (rw [hy263]; exact H) | exact H
 have Ny263 := am hy263
 clear hy263
 have H' := am H; clear H
 go_wp2_with (first | ((with_reducible refine gc 53 rfl ?_); refine gc1 (some 20) Try.func53 rfl (spec_l1Byte.calls (IsS57.l HI0) (bL HB) A8.out) ?_; rintro w10 ⟨hi, hb, hk⟩; replace HO_5 := IsS57.rk HI0 HO_5 hk; replace HK := ktr HK hk; replace HB := am hb; replace HI0 := am hi; clear hb hk hi) | ((with_reducible refine gate_builtin (b := .append) (xs := #[.tmp 18, .tmp 22]) rfl ?_); at_builtin; refine Kd.R_append (Kd.int .u8) w.heap.size rfl (.tmp 18) (.tmp 22) 22 5 (.int .u8 0) 1 rfl Try.underlying22 info5 rfl (by decide) (by omega) u5 x5_1 ((t260) % 256) [.int .u8 ((t260) % 256)] (fun _ => True) (fun _ => False) rfl rfl ?aP (fun _ hk => hk.elim) ?aF ?aO (Below.refl _ _) ?aS ?aL ?_; (case aP => exact rfl); (case aF => exact (fun _ _ => trivial)); (case aO => exact (rL HO_5)); (case aS => exact (keep_size (w := w) (g := g) (row := none) (pL HK))); (case aL => have := LMc9.out; omega); intro v264 w11 ho hb hg hat; rw [← Ny263.out] at ho; have HO265 := am ho; replace HI0 := IsS57.gr HI0 hg HO_5; replace HB := bwk HB HL hb; replace HK := kgr HK hg HO_5; clear HO_5; clear ho hb hg hat))
 go_roundg k1
 case measure => have := HK1.out; omega
 case rel => exact ⟨(y263), (wrap64 (x7_1 + 1)), (t261), (t262), sr, H', ⟨by have := HK1.out; omega⟩, ⟨rL HO265⟩, ⟨IsS57.l HI0⟩, ⟨pL HK⟩, ⟨bL HB⟩⟩
end Go.Proofs.Ytnlgodcbnlbdkaa.PFnStats
