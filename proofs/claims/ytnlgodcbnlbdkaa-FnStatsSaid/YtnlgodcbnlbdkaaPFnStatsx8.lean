/- The machine's side of FnStats: each Go function, and what its call comes to. No condition. -/
import Derived.Test.YtnlgodcbnlbdkaaPFnStatsx0
import Derived.Test.YtnlgodcbnlbdkaaPFnStatsx3
import Derived.Test.YtnlgodcbnlbdkaaPFnStatsx5
import Derived.Test.YtnlgodcbnlbdkaaPFnStatsx7
namespace Go.Proofs.Ytnlgodcbnlbdkaa.PFnStats
open Go.RowKit Go.Proofs.YtnlgodcbnlbdkaaW.PrintWords Go.Proofs.YtnlgodcbnlbdkaaW.PrintLast Go.Proofs.YtnlgodcbnlbdkaaW.PrintMore Go.Proofs.YtnlgodcbnlbdkaaW.PrintMore2
attribute [local go_sem] max2_int min2_int max_two min_two max_three min_three max_four min_four
set_option linter.unusedVariables false
set_option linter.unusedSimpArgs false
set_option maxHeartbeats 8000000
set_option maxRecDepth 100000

/-! ### spec_l5Way: function 70 -/
def spec_l5Way.l0 : Nat → List (S94) → Int → List Int → Int → Option (List Int)
  | 0, _, _, _, _ => none
  | k + 1, x0, x1, x5, x6 => if x6 ≤ x1 then ((spec_l5After.f k x0 x6).bind fun t424 => (if t424 > x1 then (if x5.length < 17592186044416 then (spec_l5Way.l0 k x0 x1 (x5 ++ [x6]) (wrap64 (x6 + 1))) else (none)) else (spec_l5Way.l0 k x0 x1 x5 (wrap64 (x6 + 1))))) else (some x5)
def spec_l5Way.f (k : Nat) (l0 : List (S94)) (a1 : Int) : Option (List Int) := spec_l5Way.l0 k l0 a1 (([] : List Int)) 0
theorem spec_l5Way.calls {k : Nat} {A0 : Option Addr} {c0 : Nat} {l0 : List (S94)} {a1 : Int} {r : List Int} {w : World} (hr0 : Kd.C k94 w A0 l0.length l0) (hc0 : l0.length ≤ c0) (h : spec_l5Way.f k l0 a1 = some r) :
    Calls Try.prog 70 #[.slice A0 l0.length c0, .int .i64 a1] w fun e w' => ∃ v0_ : Value, e = .returned (v0_) ∧ Kd.R (Kd.int .i64) 3 w' w.heap.size (fun _ => True) v0_ r ∧ Below w.heap.size w w' := by
 have HR0 := am hr0
 have HC0 := am hc0
 clear hr0 hc0
 have HB := am (Below.refl w.heap.size w)
 have H := h; clear h; unfold spec_l5Way.f at H
 obtain ⟨y421, hy421⟩ : ∃ y_ : List Int, y_ = (([] : List Int)) := ⟨_, rfl⟩
 replace H : (spec_l5Way.l0 k l0 a1 y421 0) = some r := by first | (rw [hy421]; with_reducible exact H) | (rw [hy421]; exact H) | exact H
 have Ny421 := am hy421
 clear hy421
 have H' := am H; clear H
 go_enter Try.func70, Try.ntmps70
 go_wp2_with (first | ((with_reducible refine gd 7 rfl ?_); refine Kd.R_lit (Kd.int .i64) _ 3 ?hg (N := 7) ?hd (xs := ([] : List Int)) (inner := []) (ok := fun _ => True) (okp := fun _ => True) ?hr ?hp (fun _ hk => hk) trivial (Below.refl _ _) (Nat.le_refl _) (by simp) ?_; (case hd => rfl); (case hg => rfl); (case hr => first | (go_simp; done) | (go_simp; rfl)); (case hp => exact (Reps.none _ _)); intro v422 w3 ho4 hb hg_ hnew_; clear hg_ hnew_; (first | rw [← Ny421.out] at ho4 | (simp only [Int.reduceToNat] at ho4; rw [← Ny421.out] at ho4)); have HO423 := rlb ho4 HB; replace HB := bst HB hb; clear hb ho4))
 go_loopg [5, 6] k (fun kq v5 v6 w' => ∃ (x5_1 : List Int) (x6_1 : Int), v6 = .int .i64 x6_1 ∧ Aside0 (spec_l5Way.l0 kq l0 a1 x5_1 x6_1 = some r) ∧ Aside0 (kq ≤ k) ∧ Aside0 (Kd.R (Kd.int .i64) 3 w' w.heap.size (fun _ => True) v5 x5_1) ∧ Aside0 (Below w.heap.size w w'))
 case atStart => exact ⟨(y421), (0), sr, H', ⟨Nat.le_refl _⟩, ⟨rL HO423⟩, ⟨bL HB⟩⟩
 clear H'
 obtain ⟨x5_1, x6_1, rfl, HA, HK1, HO_5, HB⟩ := hrel
 cases gk with
 | zero => exact absurd HA.out (by simp [spec_l5Way.l0])
 | succ k1 => ?_
 have H := HA.out
 clear HA
 simp only [spec_l5Way.l0] at H
 replace H := idc H; obtain ⟨c5b0, H⟩ | ⟨c5b0, H⟩ := H
 rotate_left
 · obtain rfl := Option.some.inj H
   go_wp2
   go_ret
   exact ⟨_, fin_ ⟨by (with_reducible repeat (first | apply Kd.R_alloc | apply Kd.R_drewN | apply Kd.R_drew)); exact HO_5.out, bL HB⟩⟩
 replace H := bnd H; obtain ⟨t424, A6, H⟩ := H
 replace H := igt H; obtain ⟨c7b0, H⟩ | ⟨c7b0, H⟩ := H
 rotate_left
 · have H' := am H; clear H
   go_wp2_with (first | ((with_reducible refine gc 67 rfl ?_); refine gl_ (some 15) Try.func67 #[.slice A0 l0.length c0, .int .i64 x6_1] rfl ?_; (with_reducible refine (spec_l5After.calls k1 _ _ l0 x6_1 t424 _ ?side1 ?side2 A6.out).mono ?_); (case side1 => repeat (first | exact (Kd.C_below HR0.out HB.out) | (with_reducible refine Kd.C_alloc ?_ _) | (with_reducible refine Kd.C_drewN ?_ _) | (with_reducible refine Kd.C_drew ?_))); (case side2 => exact HC0.out); rintro e w' ⟨rfl, ⟨nd, rfl⟩⟩; refine ⟨_, rfl, ?_⟩))
   go_roundg k1
   case measure => have := HK1.out; omega
   case rel => exact ⟨(x5_1), (wrap64 (x6_1 + 1)), sr, H', ⟨by have := HK1.out; omega⟩, ⟨rL HO_5⟩, ⟨bL HB⟩⟩
 replace H := ifs H; obtain ⟨c8, H⟩ := H
 have LMc8 := am c8
 clear c8
 obtain ⟨y425, hy425⟩ : ∃ y_ : List Int, y_ = (x5_1 ++ [x6_1]) := ⟨_, rfl⟩
 replace H : (spec_l5Way.l0 k1 l0 a1 y425 (wrap64 (x6_1 + 1))) = some r := by first | (rw [hy425]; with_reducible exact H) | (rw [hy425]; exact H) | exact H
 have Ny425 := am hy425
 clear hy425
 have H' := am H; clear H
 go_wp2_with (first | ((with_reducible refine gc 67 rfl ?_); refine gl_ (some 15) Try.func67 #[.slice A0 l0.length c0, .int .i64 x6_1] rfl ?_; (with_reducible refine (spec_l5After.calls k1 _ _ l0 x6_1 t424 _ ?side1 ?side2 A6.out).mono ?_); (case side1 => repeat (first | exact (Kd.C_below HR0.out HB.out) | (with_reducible refine Kd.C_alloc ?_ _) | (with_reducible refine Kd.C_drewN ?_ _) | (with_reducible refine Kd.C_drew ?_))); (case side2 => exact HC0.out); rintro e w' ⟨rfl, ⟨nd, rfl⟩⟩; refine ⟨_, rfl, ?_⟩) | ((with_reducible refine gate_builtin (b := .append) (xs := #[.tmp 18, .tmp 20]) rfl ?_); at_builtin; refine Kd.R_append (Kd.int .i64) (w0 := w) w.heap.size rfl (.tmp 18) (.tmp 20) 71 3 (.int .i64 0) 8 rfl Try.underlying71 info3 rfl (by decide) (by omega) u5 x5_1 x6_1 [.int .i64 x6_1] (fun _ => True) (fun _ => False) rfl rfl ?aP (fun _ hk => hk.elim) ?aF ?aO ?aB ?aS ?aL ?_; (case aP => exact rfl); (case aB => exact (bL HB)); (case aF => exact (fun _ _ => trivial)); (case aO => exact (rL HO_5)); (case aS => exact (below_size (bL HB))); (case aL => have := LMc8.out; omega); intro v426 w9 ho hb hg hat; rw [← Ny425.out] at ho; have HO427 := am ho; replace HB := am hb; clear HO_5; clear ho hb hg hat))
 go_roundg k1
 case measure => have := HK1.out; omega
 case rel => exact ⟨(y425), (wrap64 (x6_1 + 1)), sr, H', ⟨by have := HK1.out; omega⟩, ⟨rL HO427⟩, ⟨bL HB⟩⟩
/-! ### spec_l5Max: function 56 -/
def spec_l5Max.l0 : Nat → List (S94) → Int → Int → List Int → Int → Option (Int × Int)
  | 0, _, _, _, _, _ => none
  | k + 1, x0, x6, x7, x8, x9 => if x9 < (x8.length : Int) then (if 0 ≤ x9 then (if 0 ≤ (rd x8 x9) then (if (rd x8 x9) < (x0.length : Int) then (if ((rd_T94 x0 (rd x8 x9)).f2) = 0 then (if ((rd_T94 x0 (rd x8 x9)).f2) = 2 then (spec_l5Max.l0 k x0 x6 (wrap64 (x7 + 1)) x8 (wrap64 (x9 + 1))) else (spec_l5Max.l0 k x0 x6 x7 x8 (wrap64 (x9 + 1)))) else (if ((rd_T94 x0 (rd x8 x9)).f2) = 2 then (spec_l5Max.l0 k x0 (wrap64 (x6 + 1)) (wrap64 (x7 + 1)) x8 (wrap64 (x9 + 1))) else (spec_l5Max.l0 k x0 (wrap64 (x6 + 1)) x7 x8 (wrap64 (x9 + 1))))) else (none)) else (none)) else (none)) else (some (x6, x7))
def spec_l5Max.f (k : Nat) (l0 : List (S94)) (a1 : Int) : Option (Int × Int) := (spec_l5Way.f k l0 a1).bind fun t428 => (spec_l5Max.l0 k l0 0 0 t428 0)
theorem spec_l5Max.calls {k : Nat} {A0 : Option Addr} {c0 : Nat} {l0 : List (S94)} {a1 r1 r2 : Int} {w : World} (hr0 : Kd.C k94 w A0 l0.length l0) (hc0 : l0.length ≤ c0) (h : spec_l5Max.f k l0 a1 = some (r1, r2)) :
    Calls Try.prog 56 #[.slice A0 l0.length c0, .int .i64 a1] w fun e w' => e = .returned (.tuple #[.int .i64 r1, .int .i64 r2]) ∧ Below w.heap.size w w' := by
 have HR0 := am hr0
 have HC0 := am hc0
 clear hr0 hc0
 have HB := am (Below.refl w.heap.size w)
 have H := h; clear h; unfold spec_l5Max.f at H
 replace H := bnd H; obtain ⟨t428, A3, H⟩ := H
 have H' := am H; clear H
 go_enter Try.func56, Try.ntmps56
 go_wp2_with (first | ((with_reducible refine gc 70 rfl ?_); refine gc2 (some 12) Try.func70 rfl (spec_l5Way.calls (C_later HR0.out) HC0.out A3.out) ?_; rintro v429 w4 ⟨ho0, hb⟩; have HO430 := rlb ho0 HB; replace HB := bst HB hb; clear hb ho0))
 go_loopg [6, 7, 9] k (fun kq v6 v7 v9 w' => ∃ (x6_1 : Int) (x7_1 : Int) (x9_1 : Int), v6 = .int .i64 x6_1 ∧ v7 = .int .i64 x7_1 ∧ v9 = .int .i64 x9_1 ∧ Aside0 (spec_l5Max.l0 kq l0 x6_1 x7_1 t428 x9_1 = some (r1, r2)) ∧ Aside0 (kq ≤ k) ∧ Aside0 (Kd.R (Kd.int .i64) 3 w' w.heap.size (fun _ => True) v429 t428) ∧ Aside0 (Below w.heap.size w w'))
 case atStart => exact ⟨(0), (0), (0), sr, sr, sr, H', ⟨Nat.le_refl _⟩, ⟨rL HO430⟩, ⟨bL HB⟩⟩
 clear H'
 obtain ⟨x6_1, x7_1, x9_1, rfl, rfl, rfl, HA, HK1, HO_8, HB⟩ := hrel
 cases gk with
 | zero => exact absurd HA.out (by simp [spec_l5Max.l0])
 | succ k1 => ?_
 have H := HA.out
 clear HA
 simp only [spec_l5Max.l0] at H
 replace H := idc H; obtain ⟨c5b0, H⟩ | ⟨c5b0, H⟩ := H
 rotate_left
 · replace H := sj2 H; obtain ⟨rfl, rfl⟩ := H
   obtain ⟨Ao16, co16, eo16⟩ := Kd.R_slice HO_8.out
   subst eo16
   go_wp2
   go_ret2
   exact fin_ (bL HB)
 replace H := if_ddd H; obtain ⟨c6b0, c7b0, c8b0, H⟩ := H
 replace H := ieq H; obtain ⟨c9b0, c9b1, H⟩ | ⟨c9, c9b0, c9b1, H⟩ := H
 · replace H := ieq H; obtain ⟨c10b0, c10b1, H⟩ | ⟨c10, c10b0, c10b1, H⟩ := H
   rotate_left
   · have H' := am H; clear H
     obtain ⟨Ao12, co12, eo12⟩ := Kd.R_slice HO_8.out
     subst eo12
     have p431 : 0 ≤ (x9_1 : Int) := dcd
     have q431 : x9_1 < (t428.length : Int) := dcd
     obtain ⟨ad431, e431, hx431_0⟩ := Kd.at_int (Kd.R_reads' HO_8.out).2.2 x9_1 p431 q431
     cases e431
     replace p431 := eq_true p431
     replace q431 := eq_true q431
     obtain ⟨p432, q432, ad432, e432, hx432_0, hx432_1, hx432_2, hx432_3⟩ := at_T94b HB HR0 (rd t428 x9_1); cases e432
     have p433 : 0 ≤ (x9_1 : Int) := dcd
     have q433 : x9_1 < (t428.length : Int) := dcd
     obtain ⟨ad433, e433, hx433_0⟩ := Kd.at_int (Kd.R_reads' HO_8.out).2.2 x9_1 p433 q433
     obtain rfl : ad431 = ad433 := (by injection e433)
     replace p433 := eq_true p433
     replace q433 := eq_true q433
     have p434 : 0 ≤ ((rd t428 x9_1) : Int) := dcd
     have q434 : (rd t428 x9_1) < (l0.length : Int) := dcd
     obtain ⟨ad434, e434, hx434_0, hx434_1, hx434_2, hx434_3⟩ := at_T94 HR0.out (rd t428 x9_1) p434 q434
     obtain rfl : ad432 = ad434 := (by injection e434)
     replace hx434_0 := crd HB hx434_0
     replace hx434_1 := crd HB hx434_1
     replace hx434_2 := crd HB hx434_2
     replace hx434_3 := crd HB hx434_3
     replace p434 := eq_true p434
     replace q434 := eq_true q434
     go_wp2
     go_roundg k1
     case measure => have := HK1.out; omega
     case rel => exact ⟨(x6_1), (x7_1), (wrap64 (x9_1 + 1)), sr, sr, sr, H', ⟨by have := HK1.out; omega⟩, ⟨rL HO_8⟩, ⟨bL HB⟩⟩
   have H' := am H; clear H
   obtain ⟨Ao11, co11, eo11⟩ := Kd.R_slice HO_8.out
   subst eo11
   have p431 : 0 ≤ (x9_1 : Int) := dcd
   have q431 : x9_1 < (t428.length : Int) := dcd
   obtain ⟨ad431, e431, hx431_0⟩ := Kd.at_int (Kd.R_reads' HO_8.out).2.2 x9_1 p431 q431
   cases e431
   replace p431 := eq_true p431
   replace q431 := eq_true q431
   obtain ⟨p432, q432, ad432, e432, hx432_0, hx432_1, hx432_2, hx432_3⟩ := at_T94b HB HR0 (rd t428 x9_1); cases e432
   have p433 : 0 ≤ (x9_1 : Int) := dcd
   have q433 : x9_1 < (t428.length : Int) := dcd
   obtain ⟨ad433, e433, hx433_0⟩ := Kd.at_int (Kd.R_reads' HO_8.out).2.2 x9_1 p433 q433
   obtain rfl : ad431 = ad433 := (by injection e433)
   replace p433 := eq_true p433
   replace q433 := eq_true q433
   have p434 : 0 ≤ ((rd t428 x9_1) : Int) := dcd
   have q434 : (rd t428 x9_1) < (l0.length : Int) := dcd
   obtain ⟨ad434, e434, hx434_0, hx434_1, hx434_2, hx434_3⟩ := at_T94 HR0.out (rd t428 x9_1) p434 q434
   obtain rfl : ad432 = ad434 := (by injection e434)
   replace hx434_0 := crd HB hx434_0
   replace hx434_1 := crd HB hx434_1
   replace hx434_2 := crd HB hx434_2
   replace hx434_3 := crd HB hx434_3
   replace p434 := eq_true p434
   replace q434 := eq_true q434
   go_wp2
   go_roundg k1
   case measure => have := HK1.out; omega
   case rel => exact ⟨(x6_1), (wrap64 (x7_1 + 1)), (wrap64 (x9_1 + 1)), sr, sr, sr, H', ⟨by have := HK1.out; omega⟩, ⟨rL HO_8⟩, ⟨bL HB⟩⟩
 replace H := ieq H; obtain ⟨c13b0, c13b1, H⟩ | ⟨c13, c13b0, c13b1, H⟩ := H
 rotate_left
 · have H' := am H; clear H
   obtain ⟨Ao15, co15, eo15⟩ := Kd.R_slice HO_8.out
   subst eo15
   have p431 : 0 ≤ (x9_1 : Int) := dcd
   have q431 : x9_1 < (t428.length : Int) := dcd
   obtain ⟨ad431, e431, hx431_0⟩ := Kd.at_int (Kd.R_reads' HO_8.out).2.2 x9_1 p431 q431
   cases e431
   replace p431 := eq_true p431
   replace q431 := eq_true q431
   obtain ⟨p432, q432, ad432, e432, hx432_0, hx432_1, hx432_2, hx432_3⟩ := at_T94b HB HR0 (rd t428 x9_1); cases e432
   have p435 : 0 ≤ (x9_1 : Int) := dcd
   have q435 : x9_1 < (t428.length : Int) := dcd
   obtain ⟨ad435, e435, hx435_0⟩ := Kd.at_int (Kd.R_reads' HO_8.out).2.2 x9_1 p435 q435
   obtain rfl : ad431 = ad435 := (by injection e435)
   replace p435 := eq_true p435
   replace q435 := eq_true q435
   have p436 : 0 ≤ ((rd t428 x9_1) : Int) := dcd
   have q436 : (rd t428 x9_1) < (l0.length : Int) := dcd
   obtain ⟨ad436, e436, hx436_0, hx436_1, hx436_2, hx436_3⟩ := at_T94 HR0.out (rd t428 x9_1) p436 q436
   obtain rfl : ad432 = ad436 := (by injection e436)
   replace hx436_0 := crd HB hx436_0
   replace hx436_1 := crd HB hx436_1
   replace hx436_2 := crd HB hx436_2
   replace hx436_3 := crd HB hx436_3
   replace p436 := eq_true p436
   replace q436 := eq_true q436
   go_wp2
   go_roundg k1
   case measure => have := HK1.out; omega
   case rel => exact ⟨(wrap64 (x6_1 + 1)), (x7_1), (wrap64 (x9_1 + 1)), sr, sr, sr, H', ⟨by have := HK1.out; omega⟩, ⟨rL HO_8⟩, ⟨bL HB⟩⟩
 have H' := am H; clear H
 obtain ⟨Ao14, co14, eo14⟩ := Kd.R_slice HO_8.out
 subst eo14
 have p431 : 0 ≤ (x9_1 : Int) := dcd
 have q431 : x9_1 < (t428.length : Int) := dcd
 obtain ⟨ad431, e431, hx431_0⟩ := Kd.at_int (Kd.R_reads' HO_8.out).2.2 x9_1 p431 q431
 cases e431
 replace p431 := eq_true p431
 replace q431 := eq_true q431
 obtain ⟨p432, q432, ad432, e432, hx432_0, hx432_1, hx432_2, hx432_3⟩ := at_T94b HB HR0 (rd t428 x9_1); cases e432
 have p435 : 0 ≤ (x9_1 : Int) := dcd
 have q435 : x9_1 < (t428.length : Int) := dcd
 obtain ⟨ad435, e435, hx435_0⟩ := Kd.at_int (Kd.R_reads' HO_8.out).2.2 x9_1 p435 q435
 obtain rfl : ad431 = ad435 := (by injection e435)
 replace p435 := eq_true p435
 replace q435 := eq_true q435
 have p436 : 0 ≤ ((rd t428 x9_1) : Int) := dcd
 have q436 : (rd t428 x9_1) < (l0.length : Int) := dcd
 obtain ⟨ad436, e436, hx436_0, hx436_1, hx436_2, hx436_3⟩ := at_T94 HR0.out (rd t428 x9_1) p436 q436
 obtain rfl : ad432 = ad436 := (by injection e436)
 replace hx436_0 := crd HB hx436_0
 replace hx436_1 := crd HB hx436_1
 replace hx436_2 := crd HB hx436_2
 replace hx436_3 := crd HB hx436_3
 replace p436 := eq_true p436
 replace q436 := eq_true q436
 go_wp2
 go_roundg k1
 case measure => have := HK1.out; omega
 case rel => exact ⟨(wrap64 (x6_1 + 1)), (wrap64 (x7_1 + 1)), (wrap64 (x9_1 + 1)), sr, sr, sr, H', ⟨by have := HK1.out; omega⟩, ⟨rL HO_8⟩, ⟨bL HB⟩⟩
/-! ### spec_LeafOf: function 28 -/
def spec_LeafOf.f (k : Nat) (l0 : List (S94)) (a1 : Int) : Option (Int × Int × Int × Bool) := (spec_SchemaLeaves.f k l0).bind fun t438 => ((spec_l1In.f a1 0 (wrap64 ((t438.length : Int) - 1))).bind fun t441 => (if t441 = true then (if 0 ≤ a1 then (if a1 < (t438.length : Int) then ((spec_l5Max.f k l0 (rd t438 a1)).bind fun bt443 => (if 0 ≤ (rd t438 a1) then (if (rd t438 a1) < (l0.length : Int) then (some ((rd_T94 l0 (rd t438 a1)).f1, bt443.2, bt443.1, true)) else (none)) else (none))) else (none)) else (none)) else (some (0, 0, 0, false))))
theorem spec_LeafOf.calls {k : Nat} {A0 : Option Addr} {c0 : Nat} {l0 : List (S94)} {a1 r1 r2 r3 : Int} {r4 : Bool} {w : World} (hr0 : Kd.C k94 w A0 l0.length l0) (hc0 : l0.length ≤ c0) (h : spec_LeafOf.f k l0 a1 = some (r1, r2, r3, r4)) :
    Calls Try.prog 28 #[.slice A0 l0.length c0, .int .i64 a1] w fun e w' => e = .returned (.tuple #[.agg #[.int .i64 r1, .int .i64 r2, .int .i64 r3], .bool r4]) ∧ Below w.heap.size w w' := by
 have hu25 := Try.underlying25
 have HR0 := am hr0
 have HC0 := am hc0
 clear hr0 hc0
 have HB := am (Below.refl w.heap.size w)
 have H := h; clear h; unfold spec_LeafOf.f at H
 replace H := bnd H; obtain ⟨t438, A3, H⟩ := H
 replace H := bnd H; obtain ⟨t441, A4, H⟩ := H
 replace H := ibt H; obtain ⟨rfl, H⟩ | ⟨rfl, H⟩ := H
 rotate_left
 · replace H := sj4 H; obtain ⟨rfl, rfl, rfl, rfl⟩ := H
   go_enter Try.func28, Try.ntmps28
   go_wp2_with (first | ((with_reducible refine gd 4 rfl ?_); refine bxw 4 rfl #[.int .i64 0, .int .i64 0, .int .i64 0] 25 HB ?_; clear HB; intro gb437 w16 BK437 GW437 GE437 HB) | ((with_reducible refine gc 54 rfl ?_); refine gl_ (some 10) Try.func54 #[.slice A0 l0.length c0] rfl ?_; (with_reducible refine (spec_SchemaLeaves.calls ?side1 ?side2 A3.out).mono ?_); (case side1 => repeat (first | exact (Kd.C_below HR0.out HB.out) | (with_reducible refine Kd.C_alloc ?_ _) | (with_reducible refine Kd.C_drewN ?_ _) | (with_reducible refine Kd.C_drew ?_))); (case side2 => exact HC0.out); rintro e w17 ⟨v439, rfl, ho0, hb⟩; refine ⟨_, rfl, ?_⟩; have HO440 := rlb ho0 HB; replace BK437 := bkb BK437 hb; replace HB := bst HB hb; clear hb ho0; obtain ⟨Ao18, co18, eo18⟩ := Kd.R_slice HO440.out; subst eo18) | ((with_reducible refine gc 55 rfl ?_); refine gc1 (some 15) Try.func55 rfl (spec_l1In.calls A4.out) ?_; rintro w' ⟨nd, rfl⟩; (try (rw [drewN_self w17]; generalize hq_ : World.drewN w17 _ = w17; have n0_ : Aside0 (Kd.R (Kd.int .i64) 3 w17 w.heap.size (fun _ => True) (.slice Ao18 t438.length co18) t438) := ⟨by rw [← hq_]; exact (rL HO440)⟩; have n1_ : Aside0 (w17.heap[gb437]? = some (.cells #[.int .i64 0, .int .i64 0, .int .i64 0] 25 (0, 0))) := ⟨by rw [← hq_]; exact (blk_later BK437.out)⟩; have n2_ : Aside0 (Below w.heap.size w w17) := ⟨by rw [← hq_]; exact (bL HB)⟩; clear HO440 BK437 HB hq_; have HO440 := n0_; have BK437 := n1_; have HB := n2_; clear n0_ n1_ n2_)); obtain ⟨_, _, _, _, _, _⟩ := cl3 BK437))
   refine bodyPost_ret (results_ct rfl _ _ gb437 25 #[.int .i64 0, .int .i64 0, .int .i64 0] (0, 0) _ rfl (kL BK437) Try.underlying25 rfl (by kernel_rfl)) rfl ?_
   exact fin_ (bL HB)
 replace H := if_dd H; obtain ⟨c6b0, c7b0, H⟩ := H
 replace H := bnd2 H; obtain ⟨t443, t444, A8, H⟩ := H; dsimp only at H
 replace H := if_dd H; obtain ⟨c9b0, c10b0, H⟩ := H
 replace H := sj4 H; obtain ⟨rfl, rfl, rfl, rfl⟩ := H
 go_enter Try.func28, Try.ntmps28
 go_wp2_with (first | ((with_reducible refine gd 4 rfl ?_); refine bxw 4 rfl #[.int .i64 0, .int .i64 0, .int .i64 0] 25 HB ?_; clear HB; intro gb437 w11 BK437 GW437 GE437 HB) | ((with_reducible refine gc 54 rfl ?_); refine gl_ (some 10) Try.func54 #[.slice A0 l0.length c0] rfl ?_; (with_reducible refine (spec_SchemaLeaves.calls ?side1 ?side2 A3.out).mono ?_); (case side1 => repeat (first | exact (Kd.C_below HR0.out HB.out) | (with_reducible refine Kd.C_alloc ?_ _) | (with_reducible refine Kd.C_drewN ?_ _) | (with_reducible refine Kd.C_drew ?_))); (case side2 => exact HC0.out); rintro e w12 ⟨v439, rfl, ho0, hb⟩; refine ⟨_, rfl, ?_⟩; have HO440 := rlb ho0 HB; replace BK437 := bkb BK437 hb; replace HB := bst HB hb; clear hb ho0; obtain ⟨Ao13, co13, eo13⟩ := Kd.R_slice HO440.out; subst eo13) | ((with_reducible refine gc 55 rfl ?_); refine gc1 (some 15) Try.func55 rfl (spec_l1In.calls A4.out) ?_; rintro w' ⟨nd, rfl⟩; (try (rw [drewN_self w12]; generalize hq_ : World.drewN w12 _ = w12; have n0_ : Aside0 (Kd.R (Kd.int .i64) 3 w12 w.heap.size (fun _ => True) (.slice Ao13 t438.length co13) t438) := ⟨by rw [← hq_]; exact (rL HO440)⟩; have n1_ : Aside0 (w12.heap[gb437]? = some (.cells #[.int .i64 0, .int .i64 0, .int .i64 0] 25 (0, 0))) := ⟨by rw [← hq_]; exact (blk_later BK437.out)⟩; have n2_ : Aside0 (Below w.heap.size w w12) := ⟨by rw [← hq_]; exact (bL HB)⟩; clear HO440 BK437 HB hq_; have HO440 := n0_; have BK437 := n1_; have HB := n2_; clear n0_ n1_ n2_)); have p442 : 0 ≤ (a1 : Int) := dcd; have q442 : a1 < (t438.length : Int) := dcd; obtain ⟨ad442, e442, hx442_0⟩ := Kd.at_int (Kd.R_reads' HO440.out).2.2 a1 p442 q442; cases e442; replace p442 := eq_true p442; replace q442 := eq_true q442) | ((with_reducible refine gc 56 rfl ?_); refine gl_ (some 24) Try.func56 #[.slice A0 l0.length c0, .int .i64 (rd t438 a1)] rfl ?_; (with_reducible refine (spec_l5Max.calls ?side1 ?side2 A8.out).mono ?_); (case side1 => repeat (first | exact (Kd.C_below HR0.out HB.out) | (with_reducible refine Kd.C_alloc ?_ _) | (with_reducible refine Kd.C_drewN ?_ _) | (with_reducible refine Kd.C_drew ?_))); (case side2 => exact HC0.out); rintro e w14 ⟨rfl, hb⟩; refine ⟨_, rfl, ?_⟩; replace HO440 := rbe HO440 hb; replace BK437 := bkb BK437 hb; replace HB := bst HB hb; clear hb; have p445 : 0 ≤ (a1 : Int) := dcd; have q445 : a1 < (t438.length : Int) := dcd; obtain ⟨ad445, e445, hx445_0⟩ := Kd.at_int (Kd.R_reads' HO440.out).2.2 a1 p445 q445; obtain rfl : ad442 = ad445 := (by injection e445); replace p445 := eq_true p445; replace q445 := eq_true q445; have p446 : 0 ≤ ((rd t438 a1) : Int) := dcd; have q446 : (rd t438 a1) < (l0.length : Int) := dcd; obtain ⟨ad446, e446, hx446_0, hx446_1, hx446_2, hx446_3⟩ := at_T94 HR0.out (rd t438 a1) p446 q446; cases e446; replace hx446_0 := crd HB hx446_0; replace hx446_1 := crd HB hx446_1; replace hx446_2 := crd HB hx446_2; replace hx446_3 := crd HB hx446_3; replace p446 := eq_true p446; replace q446 := eq_true q446; obtain ⟨_, _, _, _, _, _⟩ := cl3 BK437))
 refine bodyPost_ret (results_ct rfl _ _ gb437 25 #[.int .i64 ((rd_T94 l0 (rd t438 a1)).f1), .int .i64 t444, .int .i64 t443] (0, 0) _ rfl (kL BK437) Try.underlying25 rfl (by kernel_rfl)) rfl ?_
 exact fin_ (bL HB)
end Go.Proofs.Ytnlgodcbnlbdkaa.PFnStats
