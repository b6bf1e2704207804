/- The machine's side of FnStats: each Go function, and what its call comes to. No condition. -/
import Derived.Test.YtnlgodcbnlbdkaaPFnStatsx0
import Derived.Test.YtnlgodcbnlbdkaaPFnStatsx12
import Derived.Test.YtnlgodcbnlbdkaaPFnStatsx13
namespace Go.Proofs.Ytnlgodcbnlbdkaa.PFnStats
open Go.RowKit Go.Proofs.YtnlgodcbnlbdkaaW.PrintWords Go.Proofs.YtnlgodcbnlbdkaaW.PrintLast Go.Proofs.YtnlgodcbnlbdkaaW.PrintMore Go.Proofs.YtnlgodcbnlbdkaaW.PrintMore2
attribute [local go_sem] max2_int min2_int max_two min_two max_three min_three max_four min_four
set_option linter.unusedVariables false
set_option linter.unusedSimpArgs false
set_option maxHeartbeats 8000000
set_option maxRecDepth 100000

/-! ### impl_statsNodes: function 21 -/
def impl_statsNodes.f (k : Nat) (a0 : Int) (a1_0 : Int) (a1_1 : Int) (a1_2 : Int) (a2_0 : Int) (a2_1 : Bool) (a2_2 : Int) (a2_3 : ByteArray) (a2_4 : Int) (a2_5 : ByteArray) : Option ((List (S76))) := (impl_longNode.f 3 a2_0).bind fun bt653 => ((some (([(([(⟨bt653.1, bt653.2.1, bt653.2.2.1, bt653.2.2.2.1, bt653.2.2.2.2⟩ : S76)] : List (S76)))] : List (List (S76))) : List (List (S76)))).bind fun y661 => (if a2_1 = true then ((impl_statText.f k a1_0 a2_4 a2_5).bind fun t664 => ((impl_textNode.f 5 t664).bind fun bt665 => ((impl_statText.f k a1_0 a2_2 a2_3).bind fun t673 => ((impl_textNode.f 6 t673).bind fun bt674 => ((some (([(([(⟨bt665.1, bt665.2.1, bt665.2.2.1, bt665.2.2.2.1, bt665.2.2.2.2⟩ : S76)] : List (S76))), (([(⟨bt674.1, bt674.2.1, bt674.2.2.1, bt674.2.2.2.1, bt674.2.2.2.2⟩ : S76)] : List (S76)))] : List (List (S76))) : List (List (S76)))).bind fun y682 => (if y661.length + y682.length < 5864062014805 then ((impl_structNode.f k a0 (y661 ++ y682)).bind fun t688 => (some t688)) else (none))))))) else ((impl_structNode.f k a0 y661).bind fun t691 => (some t691))))
def impl_statsNodes.T3 : Bool × List (List Nat × List Nat) := (true, [([], []), ([], []), ([1], [1]), ([], []), ([3], [3]), ([2, 4], [2, 4]), ([5, 5], [5]), ([6], [6]), ([], []), ([8], [8]), ([], []), ([10], [10]), ([9, 11, 6], [9, 11]), ([12, 12], [12]), ([13], [13]), ([7, 14], [7, 14]), ([0, 15, 13], [0, 15]), ([16, 16, 0, 1, 2, 3, 4, 5, 6, 7, 8, 9, 10, 11, 12, 13, 14, 15, 16], [0, 16])])
def impl_statsNodes.B3 : List Nat := [0, 0, 2, 0, 8, 30, 62, 126, 0, 256, 0, 1024, 3966, 8062, 16254, 32766, 65535, 131071]
theorem impl_statsNodes.tab3 : rtab .any (opsOf Try.f21 3) = impl_statsNodes.T3 := by kernel_rfl
theorem impl_statsNodes.bits3 : waitsOk impl_statsNodes.T3.2 impl_statsNodes.B3 = true := by kernel_rfl
theorem impl_statsNodes.calls {k : Nat} {a0 a1_0 a1_1 a1_2 a2_0 : Int} {a2_1 : Bool} {a2_2 : Int} {a2_3 : ByteArray} {a2_4 : Int} {a2_5 : ByteArray} {r : List (S76)} {w : World} (h : impl_statsNodes.f k a0 a1_0 a1_1 a1_2 a2_0 a2_1 a2_2 a2_3 a2_4 a2_5 = some r) :
    Calls Try.prog 21 #[.int .i64 a0, .agg #[.int .i64 a1_0, .int .i64 a1_1, .int .i64 a1_2], .agg #[.int .i64 a2_0, .bool a2_1, .int .i64 a2_2, .string a2_3, .int .i64 a2_4, .string a2_5]] w fun e w' => ∃ v0_ : Value, e = .returned (v0_) ∧ Kd.R k76 76 w' w.heap.size (fun _ => True) v0_ r ∧ Below w.heap.size w w' := by
 have hu25 := Try.underlying25
 have hu32 := Try.underlying32
 have hu30 := Try.underlying30
 have HB := am (Below.refl w.heap.size w)
 have H := h; clear h; unfold impl_statsNodes.f at H
 replace H := bnd5 H; obtain ⟨t653, t654, t655, t656, t657, A4, H⟩ := H; dsimp only at H
 obtain ⟨y658, hy658⟩ : ∃ y_ : List (S76), y_ = (([(⟨t653, t654, t655, t656, t657⟩ : S76)] : List (S76))) := ⟨_, rfl⟩
 replace H : ((some (([y658] : List (List (S76))) : List (List (S76)))).bind fun y661 => (if a2_1 = true then ((impl_statText.f k a1_0 a2_4 a2_5).bind fun t664 => ((impl_textNode.f 5 t664).bind fun bt665 => ((impl_statText.f k a1_0 a2_2 a2_3).bind fun t673 => ((impl_textNode.f 6 t673).bind fun bt674 => ((some (([(([(⟨bt665.1, bt665.2.1, bt665.2.2.1, bt665.2.2.2.1, bt665.2.2.2.2⟩ : S76)] : List (S76))), (([(⟨bt674.1, bt674.2.1, bt674.2.2.1, bt674.2.2.2.1, bt674.2.2.2.2⟩ : S76)] : List (S76)))] : List (List (S76))) : List (List (S76)))).bind fun y682 => (if y661.length + y682.length < 5864062014805 then ((impl_structNode.f k a0 (y661 ++ y682)).bind fun t688 => (some t688)) else (none))))))) else ((impl_structNode.f k a0 y661).bind fun t691 => (some t691)))) = some r := by first | (rw [hy658]; with_reducible exact H) | (rw [hy658]; exact H) | exact H
 have Ny658 := am hy658
 clear hy658
 replace H := bsm H; obtain ⟨y661, Ny661, H⟩ := H
 replace H := ibt H; obtain ⟨rfl, H⟩ | ⟨rfl, H⟩ := H
 rotate_left
 · replace H := bnd H; obtain ⟨t691, A42, H⟩ := H
   obtain rfl := Option.some.inj H
   go_enter Try.func21, Try.ntmps21
   go_wp2_with (first | ((with_reducible refine gd 4 rfl ?_); refine bxw 4 rfl #[.int .i64 a1_0, .int .i64 a1_1, .int .i64 a1_2] 25 HB ?_; clear HB; intro gb651 w43 BK651 GW651 GE651 HB) | ((with_reducible refine gd 5 rfl ?_); refine bxv 5 rfl #[.int .i64 a2_0, .bool false, .int .i64 a2_2, .string a2_3, .int .i64 a2_4, .string a2_5] 32 HB ?_; clear HB; intro gb652 w44 BK652 GW652 GE652 HB hg hb; obtain ⟨NB651_652, NB652_651⟩ := nbp (nbl BK651 hg); replace BK651 := bkb BK651 hb; clear hg hb; obtain ⟨hnb45, hnc45⟩ := nbo NB652_651; obtain ⟨_, _, _, _, _, _, _, _, _, _, _, _⟩ := cl6 BK652) | ((with_reducible refine gc 38 rfl ?_); refine gc1 (some 10) Try.func38 rfl (impl_longNode.calls A4.out) ?_; rintro w47 hb; replace BK651 := bkb BK651 hb; replace BK652 := bkb BK652 hb; replace HB := bst HB hb; clear hb) | ((with_reducible refine gd 11 rfl ?_); refine Kd.R_lit k76 _ 76 ?hg (N := 11) ?hd (xs := ([(⟨t653, t654, t655, t656, t657⟩ : S76)] : List (S76))) (inner := [.int .i64 t653, .int .i64 t654, .int .i64 t655, .string t656, .int .i64 t657]) (ok := fun _ => True) (okp := fun _ => True) ?hr ?hp (fun _ hk => hk) trivial (Below.refl _ _) (Nat.le_refl _) (by simp) ?_; (case hd => rfl); (case hg => rfl); (case hr => first | (go_simp; done) | (go_simp; rfl)); (case hp => exact (Reps.c5 (show Kd.M k76 _ _ _ (⟨t653, t654, t655, t656, t657⟩ : S76) [.int .i64 t653, .int .i64 t654, .int .i64 t655, .string t656, .int .i64 t657] from (k76_mkM _ _ _ (⟨t653, t654, t655, t656, t657⟩ : S76) )) (Reps.none _ _))); intro v659 w48 ho49 hb hg_ hnew_; clear hg_ hnew_; (first | rw [← Ny658.out] at ho49 | (simp only [Int.reduceToNat] at ho49; rw [← Ny658.out] at ho49)); have HO660 := rlb ho49 HB; replace BK651 := bkb BK651 hb; replace BK652 := bkb BK652 hb; replace HB := bst HB hb; clear hb ho49; obtain ⟨Ao50, co50, eo50⟩ := Kd.R_slice HO660.out; subst eo50) | ((with_reducible refine gd 12 rfl ?_); refine Kd.N_lit (Kd.slice 76 k76) _ 38 ?hg (N' := 12) ?hd (xs := ([y658] : List (List (S76)))) (inner := [.slice Ao50 y658.length co50]) (ok := (fun k_ => k_ ≠ gb651 ∧ k_ ≠ gb652)) (okp := (fun k_ => k_ ≠ gb651 ∧ k_ ≠ gb652)) ?hr ?hp (fun _ hk => hk) ((show ∀ k_, w48.heap.size ≤ k_ → (fun k_ => k_ ≠ gb651 ∧ k_ ≠ gb652) k_ from fun k_ hk => ⟨Kd.freshB (blk_later BK651.out) k_ hk, Kd.freshB (blk_later BK652.out) k_ hk⟩) _ (Nat.le_refl _)) (Below.refl _ _) (Nat.le_refl _) (by simp) ?_; (case hd => rfl); (case hg => rfl); (case hr => first | (go_simp; done) | (go_simp; rfl)); (case hp => exact (Reps.one (show Kd.FK (Kd.slice 76 k76) _ _ y658 [.slice Ao50 y658.length co50] from (Kd.FK_slice_mk (Kd.R_reads' (Kd.R_mono (ok' := (fun k_ => k_ ≠ gb651 ∧ k_ ≠ gb652)) (Kd.R_types (Kd.R_types (HO660.out) BK651.out (by decide)) BK652.out (by decide)) (fun k_ hk => ⟨hk.1.2, hk.2⟩))).2.1 (Kd.R_F (Kd.R_mono (ok' := (fun k_ => k_ ≠ gb651 ∧ k_ ≠ gb652)) (Kd.R_types (Kd.R_types (HO660.out) BK651.out (by decide)) BK652.out (by decide)) (fun k_ hk => ⟨hk.1.2, hk.2⟩))))) (Reps.none _ _))); intro v662 w51 ho52 hb hg_ hnew_; clear hg_ hnew_; (first | rw [← Ny661.out] at ho52 | (simp only [Int.reduceToNat] at ho52; rw [← Ny661.out] at ho52)); have HO663 := am (Kd.N_lower ho52 (below_size (bL HB))); replace BK651 := bkb BK651 hb; replace BK652 := bkb BK652 hb; replace HB := bst HB hb; clear HO660; clear hb ho52; obtain ⟨_, _, _, _, _, _, _, _, _, _, _, _⟩ := cl6 BK652; obtain ⟨Ao54, co54, eo54⟩ := Kd.N_slice HO663.out; subst eo54) | ((with_reducible refine gc 41 rfl ?_); refine gl_ (some 34) Try.func41 #[.int .i64 a0, .slice Ao54 y661.length co54] rfl ?_; (with_reducible refine (impl_structNode.calls ?side1 ?side2 A42.out).mono ?_); (case side1 => repeat (first | exact (Kd.N_reads' HO663.out).2.2 | (with_reducible refine Kd.C_alloc ?_ _) | (with_reducible refine Kd.C_drewN ?_ _) | (with_reducible refine Kd.C_drew ?_))); (case side2 => exact (Kd.N_reads' HO663.out).2.1); rintro e w55 ⟨v692, rfl, ho0, hb⟩; refine ⟨_, rfl, ?_⟩; have HO693 := rlb ho0 HB; replace HO663 := am (Kd.N_elder' (by (with_reducible repeat (first | apply Kd.N_alloc | apply Kd.N_drewN | apply Kd.N_drew)); exact HO663.out) (Kd.R_base ho0) hb); replace BK651 := bkb BK651 hb; replace BK652 := bkb BK652 hb; replace HB := bst HB hb; clear hb ho0))
   go_ret
   exact ⟨_, fin_ ⟨by (with_reducible repeat (first | apply Kd.R_alloc | apply Kd.R_drewN | apply Kd.R_drew)); exact HO693.out, bL HB⟩⟩
 replace H := bnd H; obtain ⟨t664, A6, H⟩ := H
 replace H := bnd5 H; obtain ⟨t665, t666, t667, t668, t669, A7, H⟩ := H; dsimp only at H
 obtain ⟨y670, hy670⟩ : ∃ y_ : List (S76), y_ = (([(⟨t665, t666, t667, t668, t669⟩ : S76)] : List (S76))) := ⟨_, rfl⟩
 replace H : ((impl_statText.f k a1_0 a2_2 a2_3).bind fun t673 => ((impl_textNode.f 6 t673).bind fun bt674 => ((some (([y670, (([(⟨bt674.1, bt674.2.1, bt674.2.2.1, bt674.2.2.2.1, bt674.2.2.2.2⟩ : S76)] : List (S76)))] : List (List (S76))) : List (List (S76)))).bind fun y682 => (if y661.length + y682.length < 5864062014805 then ((impl_structNode.f k a0 (y661 ++ y682)).bind fun t688 => (some t688)) else (none))))) = some r := by first | (rw [hy670]; with_reducible exact H) | (rw [hy670]; exact H) | exact H
 have Ny670 := am hy670
 clear hy670
 replace H := bnd H; obtain ⟨t673, A8, H⟩ := H
 replace H := bnd5 H; obtain ⟨t674, t675, t676, t677, t678, A9, H⟩ := H; dsimp only at H
 obtain ⟨y679, hy679⟩ : ∃ y_ : List (S76), y_ = (([(⟨t674, t675, t676, t677, t678⟩ : S76)] : List (S76))) := ⟨_, rfl⟩
 replace H : ((some (([y670, y679] : List (List (S76))) : List (List (S76)))).bind fun y682 => (if y661.length + y682.length < 5864062014805 then ((impl_structNode.f k a0 (y661 ++ y682)).bind fun t688 => (some t688)) else (none))) = some r := by first | (rw [hy679]; with_reducible exact H) | (rw [hy679]; exact H) | exact H
 have Ny679 := am hy679
 clear hy679
 replace H := bsm H; obtain ⟨y682, Ny682, H⟩ := H
 replace H := ifs H; obtain ⟨c10, H⟩ := H
 have LMc10 := am c10
 clear c10
 obtain ⟨y685, hy685⟩ : ∃ y_ : List (List (S76)), y_ = (y661 ++ y682) := ⟨_, rfl⟩
 replace H : ((impl_structNode.f k a0 y685).bind fun t688 => (some t688)) = some r := by first | (rw [hy685]; with_reducible exact H) | (rw [hy685]; exact H) | exact H
 have Ny685 := am hy685
 clear hy685
 replace H := bnd H; obtain ⟨t688, A11, H⟩ := H
 obtain rfl := Option.some.inj H
 go_enter Try.func21, Try.ntmps21
 try go_wp2_with (first | ((with_reducible refine gd 4 rfl ?_); refine bxw 4 rfl #[.int .i64 a1_0, .int .i64 a1_1, .int .i64 a1_2] 25 HB ?_; clear HB; intro gb651 w12 BK651 GW651 GE651 HB) | ((with_reducible refine gd 5 rfl ?_); refine bxv 5 rfl #[.int .i64 a2_0, .bool true, .int .i64 a2_2, .string a2_3, .int .i64 a2_4, .string a2_5] 32 HB ?_; clear HB; intro gb652 w13 BK652 GW652 GE652 HB hg hb; obtain ⟨NB651_652, NB652_651⟩ := nbp (nbl BK651 hg); replace BK651 := bkb BK651 hb; clear hg hb; obtain ⟨hnb14, hnc14⟩ := nbo NB652_651; obtain ⟨_, _, _, _, _, _, _, _, _, _, _, _⟩ := cl6 BK652) | ((with_reducible refine gc 38 rfl ?_); refine gc1 (some 10) Try.func38 rfl (impl_longNode.calls A4.out) ?_; rintro w16 hb; replace BK651 := bkb BK651 hb; replace BK652 := bkb BK652 hb; replace HB := bst HB hb; clear hb) | ((with_reducible refine gd 11 rfl ?_); refine Kd.R_lit k76 _ 76 ?hg (N := 11) ?hd (xs := ([(⟨t653, t654, t655, t656, t657⟩ : S76)] : List (S76))) (inner := [.int .i64 t653, .int .i64 t654, .int .i64 t655, .string t656, .int .i64 t657]) (ok := fun _ => True) (okp := fun _ => True) ?hr ?hp (fun _ hk => hk) trivial (Below.refl _ _) (Nat.le_refl _) (by simp) ?_; (case hd => rfl); (case hg => rfl); (case hr => first | (go_simp; done) | (go_simp; rfl)); (case hp => exact (Reps.c5 (show Kd.M k76 _ _ _ (⟨t653, t654, t655, t656, t657⟩ : S76) [.int .i64 t653, .int .i64 t654, .int .i64 t655, .string t656, .int .i64 t657] from (k76_mkM _ _ _ (⟨t653, t654, t655, t656, t657⟩ : S76) )) (Reps.none _ _))); intro v659 w17 ho18 hb hg_ hnew_; clear hg_ hnew_; (first | rw [← Ny658.out] at ho18 | (simp only [Int.reduceToNat] at ho18; rw [← Ny658.out] at ho18)); have HO660 := rlb ho18 HB; replace BK651 := bkb BK651 hb; replace BK652 := bkb BK652 hb; replace HB := bst HB hb; clear hb ho18; obtain ⟨Ao19, co19, eo19⟩ := Kd.R_slice HO660.out; subst eo19) | ((with_reducible refine gd 12 rfl ?_); refine Kd.N_lit (Kd.slice 76 k76) _ 38 ?hg (N' := 12) ?hd (xs := ([y658] : List (List (S76)))) (inner := [.slice Ao19 y658.length co19]) (ok := (fun k_ => k_ ≠ gb651 ∧ k_ ≠ gb652)) (okp := (fun k_ => k_ ≠ gb651 ∧ k_ ≠ gb652)) ?hr ?hp (fun _ hk => hk) ((show ∀ k_, w17.heap.size ≤ k_ → (fun k_ => k_ ≠ gb651 ∧ k_ ≠ gb652) k_ from fun k_ hk => ⟨Kd.freshB (blk_later BK651.out) k_ hk, Kd.freshB (blk_later BK652.out) k_ hk⟩) _ (Nat.le_refl _)) (Below.refl _ _) (Nat.le_refl _) (by simp) ?_; (case hd => rfl); (case hg => rfl); (case hr => first | (go_simp; done) | (go_simp; rfl)); (case hp => exact (Reps.one (show Kd.FK (Kd.slice 76 k76) _ _ y658 [.slice Ao19 y658.length co19] from (Kd.FK_slice_mk (Kd.R_reads' (Kd.R_mono (ok' := (fun k_ => k_ ≠ gb651 ∧ k_ ≠ gb652)) (Kd.R_types (Kd.R_types (HO660.out) BK651.out (by decide)) BK652.out (by decide)) (fun k_ hk => ⟨hk.1.2, hk.2⟩))).2.1 (Kd.R_F (Kd.R_mono (ok' := (fun k_ => k_ ≠ gb651 ∧ k_ ≠ gb652)) (Kd.R_types (Kd.R_types (HO660.out) BK651.out (by decide)) BK652.out (by decide)) (fun k_ hk => ⟨hk.1.2, hk.2⟩))))) (Reps.none _ _))); intro v662 w20 ho21 hb hg_ hnew_; clear hg_ hnew_; (first | rw [← Ny661.out] at ho21 | (simp only [Int.reduceToNat] at ho21; rw [← Ny661.out] at ho21)); have HO663 := am (Kd.N_lower ho21 (below_size (bL HB))); replace BK651 := bkb BK651 hb; replace BK652 := bkb BK652 hb; replace HB := bst HB hb; clear HO660; clear hb ho21; obtain ⟨_, _, _, _, _, _, _, _, _, _, _, _⟩ := cl6 BK652; obtain ⟨Ao23, co23, eo23⟩ := Kd.N_slice HO663.out; subst eo23))
 replace HO663 := am (Kd.N_drew HO663.out)
 replace BK651 := bdr BK651
 replace BK652 := bdr BK652
 replace HB := bld HB
 refine start_ (n := 18) (S := fun w' => w'.cell? ⟨gb651, 0, none⟩ = some (.int .i64 a1_0) ∧ w'.cell? ⟨gb651, 1, none⟩ = some (.int .i64 a1_1) ∧ w'.cell? ⟨gb651, 2, none⟩ = some (.int .i64 a1_2) ∧ w'.cell? ⟨gb652, 0, none⟩ = some (.int .i64 a2_0) ∧ w'.cell? ⟨gb652, 1, none⟩ = some (.bool true) ∧ w'.cell? ⟨gb652, 2, none⟩ = some (.int .i64 a2_2) ∧ w'.cell? ⟨gb652, 3, none⟩ = some (.string a2_3) ∧ w'.cell? ⟨gb652, 4, none⟩ = some (.int .i64 a2_4) ∧ w'.cell? ⟨gb652, 5, none⟩ = some (.string a2_5)) (ds := []) #[false, false, false, false, false, false, false, false, false, false, false, false, false, false, false, false, false, false] (by kernel_rfl) rfl rfl ⟨bcl BK651 0, bcl BK651 1, bcl BK651 2, bcl BK652 0, bcl BK652 1, bcl BK652 2, bcl BK652 3, bcl BK652 4, bcl BK652 5⟩ (fun hHeld => ?_); refine with_tabW impl_statsNodes.tab3 impl_statsNodes.bits3 (fun HT_ HW_ => ?_)
 generalize w20.drew = w24 at HO663 BK651 BK652 HB hHeld ⊢
 refine pu_ 0 15 ?_; refine pu_ 1 16 ?_; refine pu_ 3 18 ?_; refine pu_ 8 23 ?_; refine pu_ 10 25 ?_; refine tk_ 2 17 hHeld ?_; refine tk_ 4 19 hHeld ?_; refine tk_ 9 24 hHeld ?_; refine tk_ 11 26 hHeld ?_
 refine on_ 5 20 (fun K hK => ?_)
 refine gs_ Try.func40 #[.int .i64 a1_0, .agg #[.int .i64 a2_4, .string a2_5]] rfl ?_
 with_reducible refine (impl_statText.calls A6.out).mono ?_
 rintro e w25 ⟨rfl, hb⟩
 refine ⟨_, rfl, ?_⟩
 replace HO663 := am (Kd.N_below (by (with_reducible repeat (first | apply Kd.N_alloc | apply Kd.N_drewN | apply Kd.N_drew)); exact HO663.out) hb)
 replace BK651 := bkb BK651 hb
 replace BK652 := bkb BK652 hb
 replace HB := bst HB hb
 (try clear hb)
 (try clear hb2)
 (try clear hk)
 (try clear hi)
 refine hK.out _ _ ⟨bcl BK651 0, bcl BK651 1, bcl BK651 2, bcl BK652 0, bcl BK652 1, bcl BK652 2, bcl BK652 3, bcl BK652 4, bcl BK652 5⟩ (fun hHeld => ?_)
 clear hK K
 refine no_ (some 20) ?_
 refine on_ 6 21 (fun K hK => ?_)
 refine gs_ Try.func39 #[.int .i64 5, .string t664] rfl ?_
 with_reducible refine (impl_textNode.calls A7.out).mono ?_
 rintro e w26 ⟨rfl, hb⟩
 refine ⟨_, rfl, ?_⟩
 replace HO663 := am (Kd.N_below (by (with_reducible repeat (first | apply Kd.N_alloc | apply Kd.N_drewN | apply Kd.N_drew)); exact HO663.out) hb)
 replace BK651 := bkb BK651 hb
 replace BK652 := bkb BK652 hb
 replace HB := bst HB hb
 (try clear hb)
 (try clear hb2)
 (try clear hk)
 (try clear hi)
 refine hK.out _ _ ⟨bcl BK651 0, bcl BK651 1, bcl BK651 2, bcl BK652 0, bcl BK652 1, bcl BK652 2, bcl BK652 3, bcl BK652 4, bcl BK652 5⟩ (fun hHeld => ?_)
 clear hK K
 refine no_ (some 21) ?_
 refine join_ (σ := Value × Value) 3 #[true, true, true, true, true, true, true, true, true, true, true, true, true, true, true, false, false, false] (fun s_ => [(22, s_.1), (27, .string t673), (28, .agg #[.int .i64 t674, .int .i64 t675, .int .i64 t676, .string t677, .int .i64 t678]), (29, s_.2)]) (fun s_ w' => (w'.cell? ⟨gb651, 0, none⟩ = some (.int .i64 a1_0) ∧ w'.cell? ⟨gb651, 1, none⟩ = some (.int .i64 a1_1) ∧ w'.cell? ⟨gb651, 2, none⟩ = some (.int .i64 a1_2) ∧ w'.cell? ⟨gb652, 0, none⟩ = some (.int .i64 a2_0) ∧ w'.cell? ⟨gb652, 1, none⟩ = some (.bool true) ∧ w'.cell? ⟨gb652, 2, none⟩ = some (.int .i64 a2_2) ∧ w'.cell? ⟨gb652, 3, none⟩ = some (.string a2_3) ∧ w'.cell? ⟨gb652, 4, none⟩ = some (.int .i64 a2_4) ∧ w'.cell? ⟨gb652, 5, none⟩ = some (.string a2_5)) ∧ (Kd.N (Kd.slice 76 k76) 38 w' w.heap.size (fun k_ => some k_ ≠ (s_.1 : Value).ownBlock ∧ some k_ ≠ (s_.2 : Value).ownBlock ∧ k_ ≠ gb651 ∧ k_ ≠ gb652) (.slice Ao23 y661.length co23) y661) ∧ (Kd.R k76 76 w' w.heap.size (fun k_ => some k_ ≠ (s_.2 : Value).ownBlock) s_.1 y670) ∧ (Kd.R k76 76 w' w.heap.size (fun k_ => some k_ ≠ (s_.1 : Value).ownBlock) s_.2 y679) ∧ (w'.heap[gb651]? = some (.cells #[.int .i64 a1_0, .int .i64 a1_1, .int .i64 a1_2] 25 (0, 0))) ∧ (w'.heap[gb652]? = some (.cells #[.int .i64 a2_0, .bool true, .int .i64 a2_2, .string a2_3, .int .i64 a2_4, .string a2_5] 32 (0, 0))) ∧ (Below w.heap.size w w')) ?_ ?_
 rotate_left
 · intro hCont
   refine two_ (i := 7) (j := 12) (Ni := some 22) (Nj := some 27) #[true, true, true, true, true, true, true, true, true, true, true, true, false, false, false, false, false, false] #[true, true, true, true, true, true, true, false, true, true, true, true, true, false, false, false, false, false] rfl rfl rfl rfl (two_of HT_.out (by kernel_rfl)) (by decide) (by decide) (fun K hK => ?_) (fun K hK => ?_)
   · skip
     refine Kd.R_lit_step k76 _ 76 ?hg (N := 22) ?hd (xs := ([(⟨t665, t666, t667, t668, t669⟩ : S76)] : List (S76))) (inner := [.int .i64 t665, .int .i64 t666, .int .i64 t667, .string t668, .int .i64 t669]) (ok := fun _ => True) (okp := fun _ => True) ?hr ?hp (fun _ hk => hk) trivial (Below.refl _ _) (Nat.le_refl _) (by simp) ?_; (case hd => rfl); (case hg => rfl); (case hr => first | (go_simp; done) | (go_simp; rfl)); (case hp => exact (Reps.c5 (show Kd.M k76 _ _ _ (⟨t665, t666, t667, t668, t669⟩ : S76) [.int .i64 t665, .int .i64 t666, .int .i64 t667, .string t668, .int .i64 t669] from (k76_mkM _ _ _ (⟨t665, t666, t667, t668, t669⟩ : S76) )) (Reps.none _ _)))
     intro v671 w27 ho28 hb hg_ hnew_
     clear hg_ hnew_
     (first | rw [← Ny670.out] at ho28 | (simp only [Int.reduceToNat] at ho28; rw [← Ny670.out] at ho28))
     have HO672 := rlb ho28 HB
     replace HO663 := am (Kd.N_elder' (by (with_reducible repeat (first | apply Kd.N_alloc | apply Kd.N_drewN | apply Kd.N_drew)); exact HO663.out) (Kd.R_base ho28) hb)
     replace BK651 := bkb BK651 hb
     replace BK652 := bkb BK652 hb
     replace HB := bst HB hb
     clear hb ho28
     refine hK.out _ _ ⟨bcl BK651 0, bcl BK651 1, bcl BK651 2, bcl BK652 0, bcl BK652 1, bcl BK652 2, bcl BK652 3, bcl BK652 4, bcl BK652 5⟩ (fun hHeld => ?_)
     clear hK K
     refine no_ (some 22) ?_
     refine on_ 12 27 (fun K hK => ?_)
     refine gs_ Try.func40 #[.int .i64 a1_0, .agg #[.int .i64 a2_2, .string a2_3]] rfl ?_
     with_reducible refine (impl_statText.calls A8.out).mono ?_
     rintro e w29 ⟨rfl, hb⟩
     refine ⟨_, rfl, ?_⟩
     replace HO663 := am (Kd.N_below (by (with_reducible repeat (first | apply Kd.N_alloc | apply Kd.N_drewN | apply Kd.N_drew)); exact HO663.out) hb)
     replace HO672 := rbe HO672 hb
     replace BK651 := bkb BK651 hb
     replace BK652 := bkb BK652 hb
     replace HB := bst HB hb
     (try clear hb)
     (try clear hb2)
     (try clear hk)
     (try clear hi)
     refine hK.out _ _ ⟨bcl BK651 0, bcl BK651 1, bcl BK651 2, bcl BK652 0, bcl BK652 1, bcl BK652 2, bcl BK652 3, bcl BK652 4, bcl BK652 5⟩ (fun hHeld => ?_)
     clear hK K
     refine no_ (some 27) ?_
     refine on_ 13 28 (fun K hK => ?_)
     refine gs_ Try.func39 #[.int .i64 6, .string t673] rfl ?_
     with_reducible refine (impl_textNode.calls A9.out).mono ?_
     rintro e w30 ⟨rfl, hb⟩
     refine ⟨_, rfl, ?_⟩
     replace HO663 := am (Kd.N_below (by (with_reducible repeat (first | apply Kd.N_alloc | apply Kd.N_drewN | apply Kd.N_drew)); exact HO663.out) hb)
     replace HO672 := rbe HO672 hb
     replace BK651 := bkb BK651 hb
     replace BK652 := bkb BK652 hb
     replace HB := bst HB hb
     (try clear hb)
     (try clear hb2)
     (try clear hk)
     (try clear hi)
     refine hK.out _ _ ⟨bcl BK651 0, bcl BK651 1, bcl BK651 2, bcl BK652 0, bcl BK652 1, bcl BK652 2, bcl BK652 3, bcl BK652 4, bcl BK652 5⟩ (fun hHeld => ?_)
     clear hK K
     refine no_ (some 28) ?_
     refine on_ 14 29 (fun K hK => ?_)
     refine Kd.R_lit_step k76 _ 76 ?hg (N := 29) ?hd (xs := ([(⟨t674, t675, t676, t677, t678⟩ : S76)] : List (S76))) (inner := [.int .i64 t674, .int .i64 t675, .int .i64 t676, .string t677, .int .i64 t678]) (ok := fun _ => True) (okp := fun _ => True) ?hr ?hp (fun _ hk => hk) trivial (Below.refl _ _) (Nat.le_refl _) (by simp) ?_; (case hd => rfl); (case hg => rfl); (case hr => first | (go_simp; done) | (go_simp; rfl)); (case hp => exact (Reps.c5 (show Kd.M k76 _ _ _ (⟨t674, t675, t676, t677, t678⟩ : S76) [.int .i64 t674, .int .i64 t675, .int .i64 t676, .string t677, .int .i64 t678] from (k76_mkM _ _ _ (⟨t674, t675, t676, t677, t678⟩ : S76) )) (Reps.none _ _)))
     intro v680 w31 ho32 hb hg_ hnew_
     clear hg_ hnew_
     (first | rw [← Ny679.out] at ho32 | (simp only [Int.reduceToNat] at ho32; rw [← Ny679.out] at ho32))
     have HO681 := am (Kd.R_lower (Kd.R_new' ho32 (Kd.R_lt (rL HO672))) (below_size (bL HB)))
     replace HO663 := am (Kd.N_elder' (by (with_reducible repeat (first | apply Kd.N_alloc | apply Kd.N_drewN | apply Kd.N_drew)); exact HO663.out) (Kd.R_base ho32) hb)
     replace HO672 := am (Kd.R_elder' (rL HO672) (Kd.R_base ho32) hb)
     replace BK651 := bkb BK651 hb
     replace BK652 := bkb BK652 hb
     replace HB := bst HB hb
     clear hb ho32
     refine hK.out _ _ ⟨bcl BK651 0, bcl BK651 1, bcl BK651 2, bcl BK652 0, bcl BK652 1, bcl BK652 2, bcl BK652 3, bcl BK652 4, bcl BK652 5⟩ (fun hHeld => ?_)
     clear hK K
     refine no_ (some 29) ?_
     exact norm_ (by simp only [putAll, Act.put, List.setIfInBounds_toArray, List.set_cons_zero, List.set_cons_succ]) (hCont (v671, v680) _ ⟨hHeld, (by (with_reducible repeat (first | apply Kd.N_alloc | apply Kd.N_drewN | apply Kd.N_drew)); exact Kd.N_mono HO663.out (fun _ hk => ⟨hk.1.2, ⟨hk.2, ⟨hk.1.1.1, hk.1.1.2⟩⟩⟩)), (by (with_reducible repeat (first | apply Kd.R_alloc | apply Kd.R_drewN | apply Kd.R_drew)); exact Kd.R_mono HO672.out (fun _ hk => hk.2)), (by (with_reducible repeat (first | apply Kd.R_alloc | apply Kd.R_drewN | apply Kd.R_drew)); exact Kd.R_mono HO681.out (fun _ hk => hk.2)), (kL BK651), (kL BK652), (bL HB)⟩)
   skip
   refine gs_ Try.func40 #[.int .i64 a1_0, .agg #[.int .i64 a2_2, .string a2_3]] rfl ?_
   with_reducible refine (impl_statText.calls A8.out).mono ?_
   rintro e w27 ⟨rfl, hb⟩
   refine ⟨_, rfl, ?_⟩
   replace HO663 := am (Kd.N_below (by (with_reducible repeat (first | apply Kd.N_alloc | apply Kd.N_drewN | apply Kd.N_drew)); exact HO663.out) hb)
   replace BK651 := bkb BK651 hb
   replace BK652 := bkb BK652 hb
   replace HB := bst HB hb
   (try clear hb)
   (try clear hb2)
   (try clear hk)
   (try clear hi)
   refine hK.out _ _ ⟨bcl BK651 0, bcl BK651 1, bcl BK651 2, bcl BK652 0, bcl BK652 1, bcl BK652 2, bcl BK652 3, bcl BK652 4, bcl BK652 5⟩ (fun hHeld => ?_)
   clear hK K
   refine no_ (some 27) ?_
   refine two_ (i := 7) (j := 13) (Ni := some 22) (Nj := some 28) #[true, true, true, true, true, true, true, true, true, true, true, true, true, false, false, false, false, false] #[true, true, true, true, true, true, true, false, true, true, true, true, true, true, false, false, false, false] rfl rfl rfl rfl (two_of HT_.out (by kernel_rfl)) (by decide) (by decide) (fun K hK => ?_) (fun K hK => ?_)
   · skip
     refine Kd.R_lit_step k76 _ 76 ?hg (N := 22) ?hd (xs := ([(⟨t665, t666, t667, t668, t669⟩ : S76)] : List (S76))) (inner := [.int .i64 t665, .int .i64 t666, .int .i64 t667, .string t668, .int .i64 t669]) (ok := fun _ => True) (okp := fun _ => True) ?hr ?hp (fun _ hk => hk) trivial (Below.refl _ _) (Nat.le_refl _) (by simp) ?_; (case hd => rfl); (case hg => rfl); (case hr => first | (go_simp; done) | (go_simp; rfl)); (case hp => exact (Reps.c5 (show Kd.M k76 _ _ _ (⟨t665, t666, t667, t668, t669⟩ : S76) [.int .i64 t665, .int .i64 t666, .int .i64 t667, .string t668, .int .i64 t669] from (k76_mkM _ _ _ (⟨t665, t666, t667, t668, t669⟩ : S76) )) (Reps.none _ _)))
     intro v671 w28 ho29 hb hg_ hnew_
     clear hg_ hnew_
     (first | rw [← Ny670.out] at ho29 | (simp only [Int.reduceToNat] at ho29; rw [← Ny670.out] at ho29))
     have HO672 := rlb ho29 HB
     replace HO663 := am (Kd.N_elder' (by (with_reducible repeat (first | apply Kd.N_alloc | apply Kd.N_drewN | apply Kd.N_drew)); exact HO663.out) (Kd.R_base ho29) hb)
     replace BK651 := bkb BK651 hb
     replace BK652 := bkb BK652 hb
     replace HB := bst HB hb
     clear hb ho29
     refine hK.out _ _ ⟨bcl BK651 0, bcl BK651 1, bcl BK651 2, bcl BK652 0, bcl BK652 1, bcl BK652 2, bcl BK652 3, bcl BK652 4, bcl BK652 5⟩ (fun hHeld => ?_)
     clear hK K
     refine no_ (some 22) ?_
     refine on_ 13 28 (fun K hK => ?_)
     refine gs_ Try.func39 #[.int .i64 6, .string t673] rfl ?_
     with_reducible refine (impl_textNode.calls A9.out).mono ?_
     rintro e w30 ⟨rfl, hb⟩
     refine ⟨_, rfl, ?_⟩
     replace HO663 := am (Kd.N_below (by (with_reducible repeat (first | apply Kd.N_alloc | apply Kd.N_drewN | apply Kd.N_drew)); exact HO663.out) hb)
     replace HO672 := rbe HO672 hb
     replace BK651 := bkb BK651 hb
     replace BK652 := bkb BK652 hb
     replace HB := bst HB hb
     (try clear hb)
     (try clear hb2)
     (try clear hk)
     (try clear hi)
     refine hK.out _ _ ⟨bcl BK651 0, bcl BK651 1, bcl BK651 2, bcl BK652 0, bcl BK652 1, bcl BK652 2, bcl BK652 3, bcl BK652 4, bcl BK652 5⟩ (fun hHeld => ?_)
     clear hK K
     refine no_ (some 28) ?_
     refine on_ 14 29 (fun K hK => ?_)
     refine Kd.R_lit_step k76 _ 76 ?hg (N := 29) ?hd (xs := ([(⟨t674, t675, t676, t677, t678⟩ : S76)] : List (S76))) (inner := [.int .i64 t674, .int .i64 t675, .int .i64 t676, .string t677, .int .i64 t678]) (ok := fun _ => True) (okp := fun _ => True) ?hr ?hp (fun _ hk => hk) trivial (Below.refl _ _) (Nat.le_refl _) (by simp) ?_; (case hd => rfl); (case hg => rfl); (case hr => first | (go_simp; done) | (go_simp; rfl)); (case hp => exact (Reps.c5 (show Kd.M k76 _ _ _ (⟨t674, t675, t676, t677, t678⟩ : S76) [.int .i64 t674, .int .i64 t675, .int .i64 t676, .string t677, .int .i64 t678] from (k76_mkM _ _ _ (⟨t674, t675, t676, t677, t678⟩ : S76) )) (Reps.none _ _)))
     intro v680 w31 ho32 hb hg_ hnew_
     clear hg_ hnew_
     (first | rw [← Ny679.out] at ho32 | (simp only [Int.reduceToNat] at ho32; rw [← Ny679.out] at ho32))
     have HO681 := am (Kd.R_lower (Kd.R_new' ho32 (Kd.R_lt (rL HO672))) (below_size (bL HB)))
     replace HO663 := am (Kd.N_elder' (by (with_reducible repeat (first | apply Kd.N_alloc | apply Kd.N_drewN | apply Kd.N_drew)); exact HO663.out) (Kd.R_base ho32) hb)
     replace HO672 := am (Kd.R_elder' (rL HO672) (Kd.R_base ho32) hb)
     replace BK651 := bkb BK651 hb
     replace BK652 := bkb BK652 hb
     replace HB := bst HB hb
     clear hb ho32
     refine hK.out _ _ ⟨bcl BK651 0, bcl BK651 1, bcl BK651 2, bcl BK652 0, bcl BK652 1, bcl BK652 2, bcl BK652 3, bcl BK652 4, bcl BK652 5⟩ (fun hHeld => ?_)
     clear hK K
     refine no_ (some 29) ?_
     exact norm_ (by simp only [putAll, Act.put, List.setIfInBounds_toArray, List.set_cons_zero, List.set_cons_succ]) (hCont (v671, v680) _ ⟨hHeld, (by (with_reducible repeat (first | apply Kd.N_alloc | apply Kd.N_drewN | apply Kd.N_drew)); exact Kd.N_mono HO663.out (fun _ hk => ⟨hk.1.2, ⟨hk.2, ⟨hk.1.1.1, hk.1.1.2⟩⟩⟩)), (by (with_reducible repeat (first | apply Kd.R_alloc | apply Kd.R_drewN | apply Kd.R_drew)); exact Kd.R_mono HO672.out (fun _ hk => hk.2)), (by (with_reducible repeat (first | apply Kd.R_alloc | apply Kd.R_drewN | apply Kd.R_drew)); exact Kd.R_mono HO681.out (fun _ hk => hk.2)), (kL BK651), (kL BK652), (bL HB)⟩)
   skip
   refine gs_ Try.func39 #[.int .i64 6, .string t673] rfl ?_
   with_reducible refine (impl_textNode.calls A9.out).mono ?_
   rintro e w28 ⟨rfl, hb⟩
   refine ⟨_, rfl, ?_⟩
   replace HO663 := am (Kd.N_below (by (with_reducible repeat (first | apply Kd.N_alloc | apply Kd.N_drewN | apply Kd.N_drew)); exact HO663.out) hb)
   replace BK651 := bkb BK651 hb
   replace BK652 := bkb BK652 hb
   replace HB := bst HB hb
   (try clear hb)
   (try clear hb2)
   (try clear hk)
   (try clear hi)
   refine hK.out _ _ ⟨bcl BK651 0, bcl BK651 1, bcl BK651 2, bcl BK652 0, bcl BK652 1, bcl BK652 2, bcl BK652 3, bcl BK652 4, bcl BK652 5⟩ (fun hHeld => ?_)
   clear hK K
   refine no_ (some 28) ?_
   refine two_ (i := 7) (j := 14) (Ni := some 22) (Nj := some 29) #[true, true, true, true, true, true, true, true, true, true, true, true, true, true, false, false, false, false] #[true, true, true, true, true, true, true, false, true, true, true, true, true, true, true, false, false, false] rfl rfl rfl rfl (two_of HT_.out (by kernel_rfl)) (by decide) (by decide) (fun K hK => ?_) (fun K hK => ?_)
   rotate_left
   · skip
     refine Kd.R_lit_step k76 _ 76 ?hg (N := 29) ?hd (xs := ([(⟨t674, t675, t676, t677, t678⟩ : S76)] : List (S76))) (inner := [.int .i64 t674, .int .i64 t675, .int .i64 t676, .string t677, .int .i64 t678]) (ok := fun _ => True) (okp := fun _ => True) ?hr ?hp (fun _ hk => hk) trivial (Below.refl _ _) (Nat.le_refl _) (by simp) ?_; (case hd => rfl); (case hg => rfl); (case hr => first | (go_simp; done) | (go_simp; rfl)); (case hp => exact (Reps.c5 (show Kd.M k76 _ _ _ (⟨t674, t675, t676, t677, t678⟩ : S76) [.int .i64 t674, .int .i64 t675, .int .i64 t676, .string t677, .int .i64 t678] from (k76_mkM _ _ _ (⟨t674, t675, t676, t677, t678⟩ : S76) )) (Reps.none _ _)))
     intro v680 w29 ho30 hb hg_ hnew_
     clear hg_ hnew_
     (first | rw [← Ny679.out] at ho30 | (simp only [Int.reduceToNat] at ho30; rw [← Ny679.out] at ho30))
     have HO681 := rlb ho30 HB
     replace HO663 := am (Kd.N_elder' (by (with_reducible repeat (first | apply Kd.N_alloc | apply Kd.N_drewN | apply Kd.N_drew)); exact HO663.out) (Kd.R_base ho30) hb)
     replace BK651 := bkb BK651 hb
     replace BK652 := bkb BK652 hb
     replace HB := bst HB hb
     clear hb ho30
     refine hK.out _ _ ⟨bcl BK651 0, bcl BK651 1, bcl BK651 2, bcl BK652 0, bcl BK652 1, bcl BK652 2, bcl BK652 3, bcl BK652 4, bcl BK652 5⟩ (fun hHeld => ?_)
     clear hK K
     refine no_ (some 29) ?_
     refine on_ 7 22 (fun K hK => ?_)
     refine Kd.R_lit_step k76 _ 76 ?hg (N := 22) ?hd (xs := ([(⟨t665, t666, t667, t668, t669⟩ : S76)] : List (S76))) (inner := [.int .i64 t665, .int .i64 t666, .int .i64 t667, .string t668, .int .i64 t669]) (ok := fun _ => True) (okp := fun _ => True) ?hr ?hp (fun _ hk => hk) trivial (Below.refl _ _) (Nat.le_refl _) (by simp) ?_; (case hd => rfl); (case hg => rfl); (case hr => first | (go_simp; done) | (go_simp; rfl)); (case hp => exact (Reps.c5 (show Kd.M k76 _ _ _ (⟨t665, t666, t667, t668, t669⟩ : S76) [.int .i64 t665, .int .i64 t666, .int .i64 t667, .string t668, .int .i64 t669] from (k76_mkM _ _ _ (⟨t665, t666, t667, t668, t669⟩ : S76) )) (Reps.none _ _)))
     intro v671 w31 ho32 hb hg_ hnew_
     clear hg_ hnew_
     (first | rw [← Ny670.out] at ho32 | (simp only [Int.reduceToNat] at ho32; rw [← Ny670.out] at ho32))
     have HO672 := am (Kd.R_lower (Kd.R_new' ho32 (Kd.R_lt (rL HO681))) (below_size (bL HB)))
     replace HO663 := am (Kd.N_elder' (by (with_reducible repeat (first | apply Kd.N_alloc | apply Kd.N_drewN | apply Kd.N_drew)); exact HO663.out) (Kd.R_base ho32) hb)
     replace HO681 := am (Kd.R_elder' (rL HO681) (Kd.R_base ho32) hb)
     replace BK651 := bkb BK651 hb
     replace BK652 := bkb BK652 hb
     replace HB := bst HB hb
     clear hb ho32
     refine hK.out _ _ ⟨bcl BK651 0, bcl BK651 1, bcl BK651 2, bcl BK652 0, bcl BK652 1, bcl BK652 2, bcl BK652 3, bcl BK652 4, bcl BK652 5⟩ (fun hHeld => ?_)
     clear hK K
     refine no_ (some 22) ?_
     exact norm_ (by simp only [putAll, Act.put, List.setIfInBounds_toArray, List.set_cons_zero, List.set_cons_succ]) (hCont (v671, v680) _ ⟨hHeld, (by (with_reducible repeat (first | apply Kd.N_alloc | apply Kd.N_drewN | apply Kd.N_drew)); exact Kd.N_mono HO663.out (fun _ hk => ⟨hk.2, ⟨hk.1.2, ⟨hk.1.1.1, hk.1.1.2⟩⟩⟩)), (by (with_reducible repeat (first | apply Kd.R_alloc | apply Kd.R_drewN | apply Kd.R_drew)); exact Kd.R_mono HO672.out (fun _ hk => hk.2)), (by (with_reducible repeat (first | apply Kd.R_alloc | apply Kd.R_drewN | apply Kd.R_drew)); exact Kd.R_mono HO681.out (fun _ hk => hk.2)), (kL BK651), (kL BK652), (bL HB)⟩)
   skip
   refine Kd.R_lit_step k76 _ 76 ?hg (N := 22) ?hd (xs := ([(⟨t665, t666, t667, t668, t669⟩ : S76)] : List (S76))) (inner := [.int .i64 t665, .int .i64 t666, .int .i64 t667, .string t668, .int .i64 t669]) (ok := fun _ => True) (okp := fun _ => True) ?hr ?hp (fun _ hk => hk) trivial (Below.refl _ _) (Nat.le_refl _) (by simp) ?_; (case hd => rfl); (case hg => rfl); (case hr => first | (go_simp; done) | (go_simp; rfl)); (case hp => exact (Reps.c5 (show Kd.M k76 _ _ _ (⟨t665, t666, t667, t668, t669⟩ : S76) [.int .i64 t665, .int .i64 t666, .int .i64 t667, .string t668, .int .i64 t669] from (k76_mkM _ _ _ (⟨t665, t666, t667, t668, t669⟩ : S76) )) (Reps.none _ _)))
   intro v671 w29 ho30 hb hg_ hnew_
   clear hg_ hnew_
   (first | rw [← Ny670.out] at ho30 | (simp only [Int.reduceToNat] at ho30; rw [← Ny670.out] at ho30))
   have HO672 := rlb ho30 HB
   replace HO663 := am (Kd.N_elder' (by (with_reducible repeat (first | apply Kd.N_alloc | apply Kd.N_drewN | apply Kd.N_drew)); exact HO663.out) (Kd.R_base ho30) hb)
   replace BK651 := bkb BK651 hb
   replace BK652 := bkb BK652 hb
   replace HB := bst HB hb
   clear hb ho30
   refine hK.out _ _ ⟨bcl BK651 0, bcl BK651 1, bcl BK651 2, bcl BK652 0, bcl BK652 1, bcl BK652 2, bcl BK652 3, bcl BK652 4, bcl BK652 5⟩ (fun hHeld => ?_)
   clear hK K
   refine no_ (some 22) ?_
   refine on_ 14 29 (fun K hK => ?_)
   refine Kd.R_lit_step k76 _ 76 ?hg (N := 29) ?hd (xs := ([(⟨t674, t675, t676, t677, t678⟩ : S76)] : List (S76))) (inner := [.int .i64 t674, .int .i64 t675, .int .i64 t676, .string t677, .int .i64 t678]) (ok := fun _ => True) (okp := fun _ => True) ?hr ?hp (fun _ hk => hk) trivial (Below.refl _ _) (Nat.le_refl _) (by simp) ?_; (case hd => rfl); (case hg => rfl); (case hr => first | (go_simp; done) | (go_simp; rfl)); (case hp => exact (Reps.c5 (show Kd.M k76 _ _ _ (⟨t674, t675, t676, t677, t678⟩ : S76) [.int .i64 t674, .int .i64 t675, .int .i64 t676, .string t677, .int .i64 t678] from (k76_mkM _ _ _ (⟨t674, t675, t676, t677, t678⟩ : S76) )) (Reps.none _ _)))
   intro v680 w31 ho32 hb hg_ hnew_
   clear hg_ hnew_
   (first | rw [← Ny679.out] at ho32 | (simp only [Int.reduceToNat] at ho32; rw [← Ny679.out] at ho32))
   have HO681 := am (Kd.R_lower (Kd.R_new' ho32 (Kd.R_lt (rL HO672))) (below_size (bL HB)))
   replace HO663 := am (Kd.N_elder' (by (with_reducible repeat (first | apply Kd.N_alloc | apply Kd.N_drewN | apply Kd.N_drew)); exact HO663.out) (Kd.R_base ho32) hb)
   replace HO672 := am (Kd.R_elder' (rL HO672) (Kd.R_base ho32) hb)
   replace BK651 := bkb BK651 hb
   replace BK652 := bkb BK652 hb
   replace HB := bst HB hb
   clear hb ho32
   refine hK.out _ _ ⟨bcl BK651 0, bcl BK651 1, bcl BK651 2, bcl BK652 0, bcl BK652 1, bcl BK652 2, bcl BK652 3, bcl BK652 4, bcl BK652 5⟩ (fun hHeld => ?_)
   clear hK K
   refine no_ (some 29) ?_
   exact norm_ (by simp only [putAll, Act.put, List.setIfInBounds_toArray, List.set_cons_zero, List.set_cons_succ]) (hCont (v671, v680) _ ⟨hHeld, (by (with_reducible repeat (first | apply Kd.N_alloc | apply Kd.N_drewN | apply Kd.N_drew)); exact Kd.N_mono HO663.out (fun _ hk => ⟨hk.1.2, ⟨hk.2, ⟨hk.1.1.1, hk.1.1.2⟩⟩⟩)), (by (with_reducible repeat (first | apply Kd.R_alloc | apply Kd.R_drewN | apply Kd.R_drew)); exact Kd.R_mono HO672.out (fun _ hk => hk.2)), (by (with_reducible repeat (first | apply Kd.R_alloc | apply Kd.R_drewN | apply Kd.R_drew)); exact Kd.R_mono HO681.out (fun _ hk => hk.2)), (kL BK651), (kL BK652), (bL HB)⟩)
 rintro ⟨v671, v680⟩ w33 ⟨hS_, h0_, h1_, h2_, h3_, h4_, h5_⟩
 have n0_ : Aside0 (Kd.N (Kd.slice 76 k76) 38 w33 w.heap.size (fun k_ => some k_ ≠ (v671 : Value).ownBlock ∧ some k_ ≠ (v680 : Value).ownBlock ∧ k_ ≠ gb651 ∧ k_ ≠ gb652) (.slice Ao23 y661.length co23) y661) := ⟨h0_⟩
 have n1_ : Aside0 (Kd.R k76 76 w33 w.heap.size (fun k_ => some k_ ≠ (v680 : Value).ownBlock) v671 y670) := ⟨h1_⟩
 have n2_ : Aside0 (Kd.R k76 76 w33 w.heap.size (fun k_ => some k_ ≠ (v671 : Value).ownBlock) v680 y679) := ⟨h2_⟩
 have n3_ : Aside0 (w33.heap[gb651]? = some (.cells #[.int .i64 a1_0, .int .i64 a1_1, .int .i64 a1_2] 25 (0, 0))) := ⟨h3_⟩
 have n4_ : Aside0 (w33.heap[gb652]? = some (.cells #[.int .i64 a2_0, .bool true, .int .i64 a2_2, .string a2_3, .int .i64 a2_4, .string a2_5] 32 (0, 0))) := ⟨h4_⟩
 have n5_ : Aside0 (Below w.heap.size w w33) := ⟨h5_⟩
 clear HO663 BK651 BK652 HB h0_ h1_ h2_ h3_ h4_ h5_
 have HO663 := n0_
 have HO672 := n1_
 have HO681 := n2_
 have BK651 := n3_
 have BK652 := n4_
 have HB := n5_
 clear n0_ n1_ n2_ n3_ n4_ n5_
 have hHeld : w33.cell? ⟨gb651, 0, none⟩ = some (.int .i64 a1_0) ∧ w33.cell? ⟨gb651, 1, none⟩ = some (.int .i64 a1_1) ∧ w33.cell? ⟨gb651, 2, none⟩ = some (.int .i64 a1_2) ∧ w33.cell? ⟨gb652, 0, none⟩ = some (.int .i64 a2_0) ∧ w33.cell? ⟨gb652, 1, none⟩ = some (.bool true) ∧ w33.cell? ⟨gb652, 2, none⟩ = some (.int .i64 a2_2) ∧ w33.cell? ⟨gb652, 3, none⟩ = some (.string a2_3) ∧ w33.cell? ⟨gb652, 4, none⟩ = some (.int .i64 a2_4) ∧ w33.cell? ⟨gb652, 5, none⟩ = some (.string a2_5) := hS_
 obtain ⟨Ao34, co34, eo34⟩ := Kd.R_slice HO672.out
 (first | subst eo34 | (injection eo34 with f1_ f2_ f3_; have f4_ := f1_.symm; have f5_ := f3_.symm; clear f1_ f2_ f3_; subst f4_; subst f5_))
 obtain ⟨Ao35, co35, eo35⟩ := Kd.R_slice HO681.out
 (first | subst eo35 | (injection eo35 with f1_ f2_ f3_; have f4_ := f1_.symm; have f5_ := f3_.symm; clear f1_ f2_ f3_; subst f4_; subst f5_))
 refine norm_ (a' := ?_) ?_ ?_
 rotate_left
 · simp only [putAll, Act.put, List.setIfInBounds_toArray, List.set_cons_zero, List.set_cons_succ]
   rfl
 refine on_ 15 30 (fun K hK => ?_)
 refine Kd.N_lit_step (Kd.slice 76 k76) _ 38 ?hg (N' := 30) ?hd (xs := ([y670, y679] : List (List (S76)))) (inner := [.slice Ao34 y670.length co34, .slice Ao35 y679.length co35]) (ok := (fun k_ => some k_ ≠ (.slice Ao23 y661.length co23 : Value).ownBlock ∧ k_ ≠ gb651 ∧ k_ ≠ gb652)) (okp := (fun k_ => some k_ ≠ (.slice Ao23 y661.length co23 : Value).ownBlock ∧ k_ ≠ gb651 ∧ k_ ≠ gb652)) ?hr ?hp (fun _ hk => hk) ((show ∀ k_, w33.heap.size ≤ k_ → (fun k_ => some k_ ≠ (.slice Ao23 y661.length co23 : Value).ownBlock ∧ k_ ≠ gb651 ∧ k_ ≠ gb652) k_ from fun k_ hk => ⟨Kd.fresh' (Kd.N_lt (by (with_reducible repeat (first | apply Kd.N_alloc | apply Kd.N_drewN | apply Kd.N_drew)); exact HO663.out)) k_ hk, Kd.freshB (blk_later BK651.out) k_ hk, Kd.freshB (blk_later BK652.out) k_ hk⟩) _ (Nat.le_refl _)) (Below.refl _ _) (Nat.le_refl _) (by simp) ?_; (case hd => rfl); (case hg => rfl); (case hr => first | (go_simp; done) | (go_simp; rfl)); (case hp => exact (Reps.one (show Kd.FK (Kd.slice 76 k76) _ _ y670 [.slice Ao34 y670.length co34] from (Kd.FK_slice_mk (Kd.R_reads' (Kd.R_mono (ok' := (fun k_ => some k_ ≠ (.slice Ao23 y661.length co23 : Value).ownBlock ∧ k_ ≠ gb651 ∧ k_ ≠ gb652)) (Kd.R_types (Kd.R_types (Kd.R_apart' (HO672.out) (Kd.N_typed HO663.out) (by decide)) BK651.out (by decide)) BK652.out (by decide)) (fun k_ hk => ⟨hk.1.1.2, ⟨hk.1.2, hk.2⟩⟩))).2.1 (Kd.R_F (Kd.R_mono (ok' := (fun k_ => some k_ ≠ (.slice Ao23 y661.length co23 : Value).ownBlock ∧ k_ ≠ gb651 ∧ k_ ≠ gb652)) (Kd.R_types (Kd.R_types (Kd.R_apart' (HO672.out) (Kd.N_typed HO663.out) (by decide)) BK651.out (by decide)) BK652.out (by decide)) (fun k_ hk => ⟨hk.1.1.2, ⟨hk.1.2, hk.2⟩⟩))))) (Reps.one (show Kd.FK (Kd.slice 76 k76) _ _ y679 [.slice Ao35 y679.length co35] from (Kd.FK_slice_mk (Kd.R_reads' (Kd.R_mono (ok' := (fun k_ => some k_ ≠ (.slice Ao23 y661.length co23 : Value).ownBlock ∧ k_ ≠ gb651 ∧ k_ ≠ gb652)) (Kd.R_types (Kd.R_types (Kd.R_apart' (HO681.out) (Kd.N_typed HO663.out) (by decide)) BK651.out (by decide)) BK652.out (by decide)) (fun k_ hk => ⟨hk.1.1.2, ⟨hk.1.2, hk.2⟩⟩))).2.1 (Kd.R_F (Kd.R_mono (ok' := (fun k_ => some k_ ≠ (.slice Ao23 y661.length co23 : Value).ownBlock ∧ k_ ≠ gb651 ∧ k_ ≠ gb652)) (Kd.R_types (Kd.R_types (Kd.R_apart' (HO681.out) (Kd.N_typed HO663.out) (by decide)) BK651.out (by decide)) BK652.out (by decide)) (fun k_ hk => ⟨hk.1.1.2, ⟨hk.1.2, hk.2⟩⟩))))) (Reps.none _ _))))
 intro v683 w36 ho37 hb hg_ hnew_
 clear hg_ hnew_
 (first | rw [← Ny682.out] at ho37 | (simp only [Int.reduceToNat] at ho37; rw [← Ny682.out] at ho37))
 have HO684 := am (Kd.N_lower ho37 (below_size (bL HB)))
 replace HO663 := am (Kd.N_elder' (by (with_reducible repeat (first | apply Kd.N_alloc | apply Kd.N_drewN | apply Kd.N_drew)); exact HO663.out) (Kd.N_base ho37) hb)
 replace BK651 := bkb BK651 hb
 replace BK652 := bkb BK652 hb
 replace HB := bst HB hb
 clear HO672 HO681 hb ho37
 obtain ⟨Ao39, co39, eo39⟩ := Kd.N_slice HO684.out
 (first | subst eo39 | (injection eo39 with f1_ f2_ f3_; have f4_ := f1_.symm; have f5_ := f3_.symm; clear f1_ f2_ f3_; subst f4_; subst f5_))
 refine hK.out _ _ ⟨bcl BK651 0, bcl BK651 1, bcl BK651 2, bcl BK652 0, bcl BK652 1, bcl BK652 2, bcl BK652 3, bcl BK652 4, bcl BK652 5⟩ (fun hHeld => ?_)
 clear hK K
 refine no_ (some 30) ?_
 refine on_ 16 31 (fun K hK => ?_)
 refine Kd.N_append_rows_step (Kd.slice 76 k76) (w0 := w) w.heap.size (by rfl) (.tmp 15) (.tmp 30) 78 38 (.slice none 0 0) 24 rfl Try.underlying78 info38 rfl (by decide) (by omega) (.slice Ao23 y661.length co23) y661 y682 _ _ _ (fun k_ => k_ ≠ gb651 ∧ k_ ≠ gb652) (fun k_ => ((fun k_ => k_ ≠ gb651 ∧ k_ ≠ gb652)) k_ ∧ some k_ ≠ (.slice Ao23 y661.length co23 : Value).ownBlock) rfl rfl ?aO ?aR (fun _ hk => hk) ?aF ?aB ?aS ?aL ?_
 (case aR => exact (by skip; exact Kd.N_F (Kd.N_mono (ok' := (fun k_ => ((fun k_ => k_ ≠ gb651 ∧ k_ ≠ gb652)) k_ ∧ some k_ ≠ (.slice Ao23 y661.length co23 : Value).ownBlock)) (HO684.out) (fun k_ hk => ⟨⟨hk.2.1, hk.2.2⟩, hk.1⟩))))
 (case aB => exact (bL HB))
 (case aF => exact (fun k_ hk => ⟨Kd.freshB (blk_later BK651.out) k_ hk, Kd.freshB (blk_later BK652.out) k_ hk⟩))
 (case aO => exact (by (with_reducible repeat (first | apply Kd.N_alloc | apply Kd.N_drewN | apply Kd.N_drew)); exact Kd.N_mono HO663.out (fun _ hk => ⟨hk.1.2.2.1, hk.1.2.2.2⟩)))
 (case aS => exact (below_size (bL HB)))
 (case aL => have := LMc10.out; omega)
 intro v686 w38 ho hb hg hat
 rw [← Ny685.out] at ho
 have HO687 := am ho
 replace BK651 := am (blk_grown (blk_later BK651.out) hg (Kd.N_ne HO663.out BK651.out (by decide)))
 replace BK652 := am (blk_grown (blk_later BK652.out) hg (Kd.N_ne HO663.out BK652.out (by decide)))
 replace HO684 := am (Kd.N_afterv (ok := (fun k_ => k_ ≠ gb651 ∧ k_ ≠ gb652)) (by (with_reducible repeat (first | apply Kd.N_alloc | apply Kd.N_drewN | apply Kd.N_drew)); exact Kd.N_mono HO684.out (fun _ hk => ⟨⟨hk.2.1, hk.2.2⟩, hk.1⟩)) hg hat)
 replace HB := am hb
 clear HO663 ho hb hg hat
 refine hK.out _ _ ⟨bcl BK651 0, bcl BK651 1, bcl BK651 2, bcl BK652 0, bcl BK652 1, bcl BK652 2, bcl BK652 3, bcl BK652 4, bcl BK652 5⟩ (fun hHeld => ?_)
 clear hK K
 refine no_ (some 31) ?_; refine pu_ 17 7 ?_
 refine done_ (done_of HT_.out (by kernel_rfl)) ?_
 obtain ⟨Ao40, co40, eo40⟩ := Kd.N_slice HO687.out
 subst eo40
 try go_wp2_with (first | ((with_reducible refine gc 41 rfl ?_); refine gl_ (some 34) Try.func41 #[.int .i64 a0, .slice Ao40 y685.length co40] rfl ?_; (with_reducible refine (impl_structNode.calls ?side1 ?side2 A11.out).mono ?_); (case side1 => repeat (first | exact (Kd.N_reads' HO687.out).2.2 | (with_reducible refine Kd.C_alloc ?_ _) | (with_reducible refine Kd.C_drewN ?_ _) | (with_reducible refine Kd.C_drew ?_))); (case side2 => exact (Kd.N_reads' HO687.out).2.1); rintro e w41 ⟨v689, rfl, ho0, hb⟩; refine ⟨_, rfl, ?_⟩; have HO690 := rlb ho0 HB; replace HO684 := am (Kd.N_elder' (by (with_reducible repeat (first | apply Kd.N_alloc | apply Kd.N_drewN | apply Kd.N_drew)); exact HO684.out) (Kd.R_base ho0) hb); replace HO687 := am (Kd.N_elder' (by (with_reducible repeat (first | apply Kd.N_alloc | apply Kd.N_drewN | apply Kd.N_drew)); exact HO687.out) (Kd.R_base ho0) hb); replace BK651 := bkb BK651 hb; replace BK652 := bkb BK652 hb; replace HB := bst HB hb; clear hb ho0))
 go_ret
 exact ⟨_, fin_ ⟨by (with_reducible repeat (first | apply Kd.R_alloc | apply Kd.R_drewN | apply Kd.R_drew)); exact HO690.out, bL HB⟩⟩
/-! ### impl_StatsTree: function 9 -/
def impl_StatsTree.f (k : Nat) (a0_0 : Int) (a0_1 : Int) (a0_2 : Int) (a1_0 : Int) (a1_1 : Bool) (a1_2 : Int) (a1_3 : ByteArray) (a1_4 : Int) (a1_5 : ByteArray) : Option ((List (S76)) × Bool) := (impl_statsOk.f k a0_0 a0_1 a0_2 a1_0 a1_1 a1_2 a1_3 a1_4 a1_5).bind fun t696 => (if t696 = true then ((impl_statsNodes.f k 0 a0_0 a0_1 a0_2 a1_0 a1_1 a1_2 a1_3 a1_4 a1_5).bind fun t697 => (some (t697, true))) else (some (([] : List (S76)), false)))
theorem impl_StatsTree.calls {k : Nat} {a0_0 a0_1 a0_2 a1_0 : Int} {a1_1 : Bool} {a1_2 : Int} {a1_3 : ByteArray} {a1_4 : Int} {a1_5 : ByteArray} {r1 : List (S76)} {r2 : Bool} {w : World} (h : impl_StatsTree.f k a0_0 a0_1 a0_2 a1_0 a1_1 a1_2 a1_3 a1_4 a1_5 = some (r1, r2)) :
    Calls Try.prog 9 #[.agg #[.int .i64 a0_0, .int .i64 a0_1, .int .i64 a0_2], .agg #[.int .i64 a1_0, .bool a1_1, .int .i64 a1_2, .string a1_3, .int .i64 a1_4, .string a1_5]] w fun e w' => ∃ v0_ : Value, e = .returned (.tuple #[v0_, .bool r2]) ∧ Kd.R k76 76 w' w.heap.size (fun _ => True) v0_ r1 ∧ Below w.heap.size w w' := by
 have hu25 := Try.underlying25
 have hu32 := Try.underlying32
 have HB := am (Below.refl w.heap.size w)
 have H := h; clear h; unfold impl_StatsTree.f at H
 replace H := bnd H; obtain ⟨t696, A3, H⟩ := H
 replace H := ibt H; obtain ⟨rfl, H⟩ | ⟨rfl, H⟩ := H
 rotate_left
 · replace H := sj2 H; obtain ⟨rfl, rfl⟩ := H
   go_enter Try.func9, Try.ntmps9
   go_wp2_with (first | ((with_reducible refine gd 2 rfl ?_); refine bxw 2 rfl #[.int .i64 a0_0, .int .i64 a0_1, .int .i64 a0_2] 25 HB ?_; clear HB; intro gb694 w15 BK694 GW694 GE694 HB) | ((with_reducible refine gd 3 rfl ?_); refine bxv 3 rfl #[.int .i64 a1_0, .bool a1_1, .int .i64 a1_2, .string a1_3, .int .i64 a1_4, .string a1_5] 32 HB ?_; clear HB; intro gb695 w16 BK695 GW695 GE695 HB hg hb; obtain ⟨NB694_695, NB695_694⟩ := nbp (nbl BK694 hg); replace BK694 := bkb BK694 hb; clear hg hb; obtain ⟨hnb17, hnc17⟩ := nbo NB694_695; obtain ⟨_, _, _, _, _, _⟩ := cl3 BK694; obtain ⟨_, _, _, _, _, _, _, _, _, _, _, _⟩ := cl6 BK695) | ((with_reducible refine gc 20 rfl ?_); refine gc1 (some 8) Try.func20 rfl (impl_statsOk.calls A3.out) ?_; rintro w20 hb; replace BK694 := bkb BK694 hb; replace BK695 := bkb BK695 hb; replace HB := bst HB hb; clear hb))
   go_ret2
   exact ⟨_, fin_ ⟨by first | exact Kd.R_nil _ _ _ _ _ | exact Kd.N_nil _ _ _ _ _ | exact Kd.V_nil _ _ _ _ _ | exact Kd.Q_nil _ _ _ _ _ | exact Kd.S_nil _ _ _ _ _, bL HB⟩⟩
 replace H := bnd H; obtain ⟨t697, A5, H⟩ := H
 replace H := sj2 H; obtain ⟨rfl, rfl⟩ := H
 go_enter Try.func9, Try.ntmps9
 go_wp2_with (first | ((with_reducible refine gd 2 rfl ?_); refine bxw 2 rfl #[.int .i64 a0_0, .int .i64 a0_1, .int .i64 a0_2] 25 HB ?_; clear HB; intro gb694 w6 BK694 GW694 GE694 HB) | ((with_reducible refine gd 3 rfl ?_); refine bxv 3 rfl #[.int .i64 a1_0, .bool a1_1, .int .i64 a1_2, .string a1_3, .int .i64 a1_4, .string a1_5] 32 HB ?_; clear HB; intro gb695 w7 BK695 GW695 GE695 HB hg hb; obtain ⟨NB694_695, NB695_694⟩ := nbp (nbl BK694 hg); replace BK694 := bkb BK694 hb; clear hg hb; obtain ⟨hnb8, hnc8⟩ := nbo NB694_695; obtain ⟨_, _, _, _, _, _⟩ := cl3 BK694; obtain ⟨_, _, _, _, _, _, _, _, _, _, _, _⟩ := cl6 BK695) | ((with_reducible refine gc 20 rfl ?_); refine gc1 (some 8) Try.func20 rfl (impl_statsOk.calls A3.out) ?_; rintro w11 hb; replace BK694 := bkb BK694 hb; replace BK695 := bkb BK695 hb; replace HB := bst HB hb; clear hb; obtain ⟨_, _, _, _, _, _⟩ := cl3 BK694; obtain ⟨_, _, _, _, _, _, _, _, _, _, _, _⟩ := cl6 BK695) | ((with_reducible refine gc 21 rfl ?_); refine gc2 (some 12) Try.func21 rfl (impl_statsNodes.calls A5.out) ?_; rintro v698 w14 ⟨ho0, hb⟩; have HO699 := rlb ho0 HB; replace BK694 := bkb BK694 hb; replace BK695 := bkb BK695 hb; replace HB := bst HB hb; clear hb ho0))
 go_ret2
 exact ⟨_, fin_ ⟨by (with_reducible repeat (first | apply Kd.R_alloc | apply Kd.R_drewN | apply Kd.R_drew)); exact HO699.out, bL HB⟩⟩
/-! ### impl_isType: function 76 -/
def impl_isType.j0 : Nat → Bool → Int → Bool → Option (Bool)
  | 0, _, _, _ => none
  | k + 1, x1, x5, x6 => if x6 = true then (some (!x1)) else (if x5 = 5 then (some true) else (if x5 = 6 then (some true) else (if x5 = 8 then (some true) else (if x5 = 9 then (some true) else (if x5 = 12 then (some true) else (some false))))))
def impl_isType.f (k : Nat) (a0 : Int) (a1 : Bool) : Option (Bool) := if a0 = 1 then (impl_isType.j0 k a1 a0 (a0 == 1)) else (impl_isType.j0 k a1 a0 (a0 == 2))
theorem impl_isType.calls {k : Nat} {a0 : Int} {a1 r : Bool} {w : World} (h : impl_isType.f k a0 a1 = some r) :
    Calls Try.prog 76 #[.int .i64 a0, .bool a1] w fun e w' => e = .returned (.bool r) ∧ Drawn0 w w' := by
 have H := h; clear h; unfold impl_isType.f at H
 have HC3 := am H
 clear H
 go_enter Try.func76, Try.ntmps76
 go_upto_if 6 with (fail)
 go_cut [6] (fun v6 wc => ∃ (kq : Nat) (x6_2 : Bool), v6 = .bool x6_2 ∧ Aside0 (impl_isType.j0 kq a1 a0 x6_2 = some r) ∧ Aside0 (kq ≤ k) ∧ Drawn0 w wc)
 case first =>
  have H := HC3.out
  clear HC3
  replace H := ieq H; obtain ⟨c4b0, c4b1, H⟩ | ⟨c4, c4b0, c4b1, H⟩ := H
  · (first | rw [c4b0] | rw [c4b1] | (simp only [i64_w, i32_w]; rw [c4b0]) | skip)
    have H' := am H; clear H
    go_wp2
    go_meet
    case rel => exact ⟨_, ((a0 == 1)), sr, H', ⟨by first | omega | exact Nat.le_refl _⟩, by repeat (first | exact Drawn0.refl _ | apply Drawn0.step)⟩
  (first | rw [c4b0] | rw [c4b1] | (simp only [i64_w, i32_w]; rw [c4b0]) | skip)
  have H' := am H; clear H
  go_wp2
  go_meet
  case rel => exact ⟨_, ((a0 == 2)), sr, H', ⟨by first | omega | exact Nat.le_refl _⟩, by repeat (first | exact Drawn0.refl _ | apply Drawn0.step)⟩
 clear HC3
 obtain ⟨kq, x6_2, rfl, HA, HJ2, ⟨mc2, rfl⟩⟩ := hcut
 cases kq with
 | zero => exact absurd HA.out (by simp [impl_isType.j0])
 | succ kj2 => ?_
 have H := HA.out
 clear HA
 simp only [impl_isType.j0] at H
 replace H := ibt H; obtain ⟨rfl, H⟩ | ⟨rfl, H⟩ := H
 · obtain rfl := Option.some.inj H
   go_wp2
   go_ret
   exact ⟨sr, drl⟩
 replace H := ieq H; obtain ⟨c6b0, c6b1, H⟩ | ⟨c6, c6b0, c6b1, H⟩ := H
 · obtain rfl := Option.some.inj H
   go_wp2
   go_ret
   exact ⟨sr, drl⟩
 replace H := ieq H; obtain ⟨c7b0, c7b1, H⟩ | ⟨c7, c7b0, c7b1, H⟩ := H
 · obtain rfl := Option.some.inj H
   go_wp2
   go_ret
   exact ⟨sr, drl⟩
 replace H := ieq H; obtain ⟨c8b0, c8b1, H⟩ | ⟨c8, c8b0, c8b1, H⟩ := H
 · obtain rfl := Option.some.inj H
   go_wp2
   go_ret
   exact ⟨sr, drl⟩
 replace H := ieq H; obtain ⟨c9b0, c9b1, H⟩ | ⟨c9, c9b0, c9b1, H⟩ := H
 · obtain rfl := Option.some.inj H
   go_wp2
   go_ret
   exact ⟨sr, drl⟩
 replace H := ieq H; obtain ⟨c10b0, c10b1, H⟩ | ⟨c10, c10b0, c10b1, H⟩ := H
 · obtain rfl := Option.some.inj H
   go_wp2
   go_ret
   exact ⟨sr, drl⟩
 obtain rfl := Option.some.inj H
 go_wp2
 go_ret
 exact ⟨sr, drl⟩
end Go.Proofs.Ytnlgodcbnlbdkaa.PFnStats
