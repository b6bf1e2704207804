/- The machine's side of FnStats: each Go function, and what its call comes to. No condition. -/
import Derived.Test.YtnlgodcbnlbdkaaPFnStatsx0
import Derived.Test.YtnlgodcbnlbdkaaPFnStatsx1
import Derived.Test.YtnlgodcbnlbdkaaPFnStatsx3
import Derived.Test.YtnlgodcbnlbdkaaPFnStatsx9
namespace Go.Proofs.Ytnlgodcbnlbdkaa.PFnStats
open Go.RowKit Go.Proofs.YtnlgodcbnlbdkaaW.PrintWords Go.Proofs.YtnlgodcbnlbdkaaW.PrintLast Go.Proofs.YtnlgodcbnlbdkaaW.PrintMore Go.Proofs.YtnlgodcbnlbdkaaW.PrintMore2
attribute [local go_sem] max2_int min2_int max_two min_two max_three min_three max_four min_four
set_option linter.unusedVariables false
set_option linter.unusedSimpArgs false
set_option maxHeartbeats 8000000
set_option maxRecDepth 100000

attribute [local go_sem high] eqA30
/-! ### spec_l15Spoil: function 13 -/
def spec_l15Spoil.f (s0_0 : List Int) (s0_1 : Int) (s0_2 : Int) (a1_0 : Int) (a1_1 : Int) (a1_2 : Int) (l2 : List (S36)) : Option (Int × Int × Int × (List (S36)) × Int × Int) := (some (([] : List (S36)) : List (S36))).bind fun y449 => (if y449.length + l2.length < 3518437208883 then ((some (y449 ++ l2 : List (S36))).bind fun y452 => ((spec_l1Below.f s0_0 s0_1 s0_2 25).bind fun bt455 => (if bt455.1 = 0 then ((spec_l1PickInt.f s0_0 bt455.2.1 bt455.2.2 (([3, 7, a1_0] : List Int))).bind fun bt461 => (some (bt461.1, a1_1, a1_2, y452, bt461.2.1, bt461.2.2))) else (if bt455.1 = 1 then ((spec_l1PickInt.f s0_0 bt455.2.1 bt455.2.2 (([(-1), wrap64 (a1_2 + 1), 7] : List Int))).bind fun bt467 => (some (a1_0, bt467.1, a1_2, y452, bt467.2.1, bt467.2.2))) else (if bt455.1 = 2 then ((spec_l1PickInt.f s0_0 bt455.2.1 bt455.2.2 (([(-1), 7, wrap64 (a1_2 + 1)] : List Int))).bind fun bt473 => (some (a1_0, a1_1, bt473.1, y452, bt473.2.1, bt473.2.2))) else (if bt455.1 = 3 then (if (y452.length : Int) > 0 then ((spec_l1Below.f s0_0 bt455.2.1 bt455.2.2 (y452.length : Int)).bind fun bt476 => ((spec_l1Below.f s0_0 bt476.2.1 bt476.2.2 2).bind fun bt479 => ((spec_l1Below.f s0_0 bt479.2.1 bt479.2.2 4).bind fun bt482 => ((spec_l1Below.f s0_0 bt482.2.1 bt482.2.2 3).bind fun bt485 => (if 0 ≤ bt476.1 then (if bt476.1 < (y452.length : Int) then (some (a1_0, a1_1, a1_2, (y452.set (bt476.1 : Int).toNat (⟨bt479.1, bt482.1, (⟨bt485.1, (⟨#[]⟩ : ByteArray)⟩ : S30)⟩ : S36)), bt485.2.1, bt485.2.2)) else (none)) else (none)))))) else (some (a1_0, a1_1, a1_2, y452, bt455.2.1, bt455.2.2))) else (some (a1_0, a1_1, a1_2, y452, bt455.2.1, bt455.2.2)))))))) else (none))
theorem spec_l15Spoil.calls {g : Nat} {s0_0 : List Int} {s0_1 s0_2 a1_0 a1_1 a1_2 : Int} {A2 : Option Addr} {c2 : Nat} {l2 : List (S36)} {r1 r2 r3 : Int} {r4 : List (S36)} {r5 r6 : Int} {w0 w : World} (hI : IsS57 w0 w g s0_0 s0_1 s0_2) (hB : Below w0.heap.size w0 w) (hr2 : ∀ W_, KeepBut w W_ g none → Kd.C k36 W_ A2 l2.length l2) (hc2 : l2.length ≤ c2) (h : spec_l15Spoil.f s0_0 s0_1 s0_2 a1_0 a1_1 a1_2 l2 = some (r1, r2, r3, r4, r5, r6)) :
    Calls Try.prog 13 #[.pointer (some ⟨g, 0, none⟩), .agg #[.int .i64 a1_0, .int .i64 a1_1, .int .i64 a1_2], .slice A2 l2.length c2] w fun e w' => ∃ v3_ : Value, e = .returned (.tuple #[.agg #[.int .i64 r1, .int .i64 r2, .int .i64 r3], v3_]) ∧ Kd.R k36 36 w' w.heap.size (fun _ => True) v3_ r4 ∧ IsS57 w0 w' g s0_0 r5 r6 ∧ Below w0.heap.size w0 w' ∧ KeepBut w w' g none := by
 have hu25 := Try.underlying25
 have hu30 := Try.underlying30
 have hu36 := Try.underlying36
 have HR2 := am hr2
 have HC2 := am hc2
 clear hr2 hc2
 have HI0 := am hI
 have HGE0 := am (IsS57.ge hI)
 have HK := am (KeepBut.refl w g none)
 have HL := am hB.size
 clear hI
 have HW0 := am hB.size
 have HB := am hB
 clear hB
 have H : ((some (([] : List (S36)) : List (S36))).bind fun y449 => (if y449.length + l2.length < 3518437208883 then ((some (y449 ++ l2 : List (S36))).bind fun y452 => ((spec_l1Below.f s0_0 s0_1 s0_2 25).bind fun bt455 => (if bt455.1 = 0 then ((spec_l1PickInt.f s0_0 bt455.2.1 bt455.2.2 (([3, 7, a1_0] : List Int))).bind fun bt461 => (some (bt461.1, a1_1, a1_2, y452, bt461.2.1, bt461.2.2))) else (if bt455.1 = 1 then ((spec_l1PickInt.f s0_0 bt455.2.1 bt455.2.2 (([(-1), wrap64 (a1_2 + 1), 7] : List Int))).bind fun bt467 => (some (a1_0, bt467.1, a1_2, y452, bt467.2.1, bt467.2.2))) else (if bt455.1 = 2 then ((spec_l1PickInt.f s0_0 bt455.2.1 bt455.2.2 (([(-1), 7, wrap64 (a1_2 + 1)] : List Int))).bind fun bt473 => (some (a1_0, a1_1, bt473.1, y452, bt473.2.1, bt473.2.2))) else (if bt455.1 = 3 then (if (y452.length : Int) > 0 then ((spec_l1Below.f s0_0 bt455.2.1 bt455.2.2 (y452.length : Int)).bind fun bt476 => ((spec_l1Below.f s0_0 bt476.2.1 bt476.2.2 2).bind fun bt479 => ((spec_l1Below.f s0_0 bt479.2.1 bt479.2.2 4).bind fun bt482 => ((spec_l1Below.f s0_0 bt482.2.1 bt482.2.2 3).bind fun bt485 => (if 0 ≤ bt476.1 then (if bt476.1 < (y452.length : Int) then (some (a1_0, a1_1, a1_2, (y452.set (bt476.1 : Int).toNat (⟨bt479.1, bt482.1, (⟨bt485.1, (⟨#[]⟩ : ByteArray)⟩ : S30)⟩ : S36)), bt485.2.1, bt485.2.2)) else (none)) else (none)))))) else (some (a1_0, a1_1, a1_2, y452, bt455.2.1, bt455.2.2))) else (some (a1_0, a1_1, a1_2, y452, bt455.2.1, bt455.2.2)))))))) else (none))) = some (r1, r2, r3, r4, r5, r6) := h
 clear h
 replace H := bsm H; obtain ⟨y449, Ny449, H⟩ := H
 replace H := ifs H; obtain ⟨c4, H⟩ := H
 have LMc4 := am c4
 clear c4
 replace H := bsm H; obtain ⟨y452, Ny452, H⟩ := H
 replace H := bnd3 H; obtain ⟨t455, t456, t457, A5, H⟩ := H; dsimp only at H
 replace H := ieq H; obtain ⟨c6b0, c6b1, H⟩ | ⟨c6, c6b0, c6b1, H⟩ := H
 · obtain ⟨y458, hy458⟩ : ∃ y_ : List Int, y_ = (([3, 7, a1_0] : List Int)) := ⟨_, rfl⟩
   replace H : ((spec_l1PickInt.f s0_0 t456 t457 y458).bind fun bt461 => (some (bt461.1, a1_1, a1_2, y452, bt461.2.1, bt461.2.2))) = some (r1, r2, r3, r4, r5, r6) := by first | (rw [hy458]; with_reducible exact H) | (rw [hy458]; exact H) | exact H
   have Ny458 := am hy458
   clear hy458
   replace H := bnd3 H; obtain ⟨t461, t462, t463, A7, H⟩ := H; dsimp only at H
   replace H := sj6 H; obtain ⟨rfl, rfl, rfl, rfl, rfl, rfl⟩ := H
   go_enter Try.func13, Try.ntmps13
   go_wp2_with (first | ((with_reducible refine gd 4 rfl ?_); refine IsS57.bx 4 rfl #[.int .i64 a1_0, .int .i64 a1_1, .int .i64 a1_2] 25 HI0 HK HB HW0 ?_; clear HI0 HK HB; intro gb447 w8 BK447 GW447 GE447 NB0_447 NB447_0 HI0 HK HB) | ((with_reducible refine gd 6 rfl ?_); refine IsS57.bv 6 rfl #[.int .i64 0, .int .i64 0, .int .i64 0] 25 HI0 HK HB HW0 ?_; clear HI0 HK HB; intro gb448 w9 BK448 GW448 GE448 NB0_448 NB448_0 HI0 HK HB hg hb; obtain ⟨NB447_448, NB448_447⟩ := nbp (nbl BK447 hg); replace BK447 := bkb BK447 hb; clear hg hb) | ((with_reducible refine gd 9 rfl ?_); refine Kd.R_lit k36 _ 36 ?hg (N := 9) ?hd (xs := ([] : List (S36))) (inner := []) (ok := fun _ => True) (okp := fun _ => True) ?hr ?hp (fun _ hk => hk) trivial (Below.refl _ _) (Nat.le_refl _) (by simp) ?_; (case hd => rfl); (case hg => rfl); (case hr => first | (go_simp; done) | (go_simp; rfl)); (case hp => exact (Reps.none _ _)); intro v450 w10 ho11 hb hg_ hnew_; clear hg_ hnew_; (first | rw [← Ny449.out] at ho11 | (simp only [Int.reduceToNat] at ho11; rw [← Ny449.out] at ho11)); have HO451 := rlk ho11 HK; replace BK447 := bkb BK447 hb; replace BK448 := bkb BK448 hb; replace HK := kbe HK hb; replace HB := bst HB hb; replace HI0 := IsS57.be HI0 hb; clear hb ho11) | ((with_reducible refine gate_builtin (b := .append) (xs := #[.tmp 9, .tmp 10]) rfl ?_); at_builtin; refine Kd.R_append_rows k36 w.heap.size rfl (.tmp 9) (.tmp 10) 26 36 (.agg #[(.int .i64 0), (.int .i64 0), (.int .i64 0), (.string ⟨#[]⟩)]) 40 rfl Try.underlying26 info36 rfl (by decide) (by omega) v450 y449 l2 _ _ _ (fun _ => True) (fun _ => False) rfl rfl ?aO ?aR (fun _ _ h => h) (fun _ h => h.elim) ?aF (Below.refl _ _) ?aS ?aL ?_; (case aR => exact Kd.C_foot_now HR2.out (pL HK)); (case aF => exact (fun _ _ => trivial)); (case aO => exact (rL HO451)); (case aS => exact (keep_size (w := w) (g := g) (row := none) (pL HK))); (case aL => have := LMc4.out; omega); intro v453 w12 ho hb hg hat; rw [← Ny452.out] at ho; have HO454 := am ho; replace HI0 := IsS57.gr HI0 hg HO451; replace BK447 := bgr BK447 hg HO451; replace BK448 := bgr BK448 hg HO451; replace HB := bwk HB HL hb; replace HK := kgr HK hg HO451; clear HO451; clear ho hb hg hat) | ((with_reducible refine gc 27 rfl ?_); refine gc1 (some 13) Try.func27 rfl (spec_l1Below.calls (IsS57.l HI0) (bL HB) A5.out) ?_; rintro w13 ⟨hi, hb, hk⟩; replace BK447 := kbk hk BK447 NB447_0; replace BK448 := kbk hk BK448 NB448_0; replace HO454 := IsS57.rk HI0 HO454 hk; replace HK := ktr HK hk; replace HB := am hb; replace HI0 := am hi; clear hb hk hi; obtain ⟨hnb14, hnc14⟩ := nbo NB447_448; obtain ⟨hnb15, hnc15⟩ := nbo NB447_0; obtain ⟨_, _, _, _, _, _⟩ := cl3 BK447) | ((with_reducible refine gd 19 rfl ?_); refine Kd.R_lit (Kd.int .i64) _ 3 ?hg (N := 19) ?hd (xs := ([3, 7, a1_0] : List Int)) (inner := [.int .i64 3, .int .i64 7, .int .i64 a1_0]) (ok := fun _ => True) (okp := fun _ => True) ?hr ?hp (fun _ hk => hk) trivial (Below.refl _ _) (Nat.le_refl _) (by simp) ?_; (case hd => rfl); (case hg => rfl); (case hr => first | (go_simp; done) | (go_simp; rfl)); (case hp => exact (Reps.one (show Kd.M (Kd.int .i64) _ _ _ 3 [.int .i64 3] from rfl) (Reps.one (show Kd.M (Kd.int .i64) _ _ _ 7 [.int .i64 7] from rfl) (Reps.one (show Kd.M (Kd.int .i64) _ _ _ a1_0 [.int .i64 a1_0] from rfl) (Reps.none _ _))))); intro v459 w17 ho18 hb hg_ hnew_; clear hg_ hnew_; (first | rw [← Ny458.out] at ho18 | (simp only [Int.reduceToNat] at ho18; rw [← Ny458.out] at ho18)); have HO460 := rlk ho18 HK; replace HO454 := rbe HO454 hb; replace BK447 := bkb BK447 hb; replace BK448 := bkb BK448 hb; replace HK := kbe HK hb; replace HB := bst HB hb; replace HI0 := IsS57.be HI0 hb; clear hb ho18; obtain ⟨Ao19, co19, eo19⟩ := Kd.R_slice HO460.out; subst eo19) | ((with_reducible refine gc 29 rfl ?_); refine gc1 (some 20) Try.func29 rfl (spec_l1PickInt.calls (IsS57.l HI0) (bL HB) (C_later (Kd.R_reads' HO460.out).2.2) ((Kd.R_reads' HO460.out).2.1) (far_slice (IsS57.own_ne HI0.out HO460.out (by decide))) A7.out) ?_; rintro w20 ⟨hi, hb, hk⟩; replace BK447 := kbk hk BK447 NB447_0; replace BK448 := kbk hk BK448 NB448_0; replace HO454 := IsS57.rk HI0 HO454 hk; replace HO460 := IsS57.rk HI0 HO460 hk; replace HK := ktr HK hk; replace HB := am hb; replace HI0 := am hi; clear hb hk hi; obtain ⟨_, _, _, _, _, _⟩ := cl3 BK447; obtain ⟨hnb22, hnc22⟩ := nbo NB448_0; obtain ⟨_, _, _, _, _, _⟩ := cl3 BK448))
   refine bodyPost_ret (results_ct rfl _ _ gb448 25 #[.int .i64 t461, .int .i64 a1_1, .int .i64 a1_2] (0, 0) _ rfl (kL BK448) Try.underlying25 rfl (by kernel_rfl)) rfl ?_
   exact ⟨_, fin_ ⟨by (with_reducible repeat (first | apply Kd.R_alloc | apply Kd.R_drewN | apply Kd.R_drew)); exact Kd.R_mono (Kd.R_far (p := ⟨gb448, 2, none⟩) (Kd.R_far (p := ⟨gb448, 1, none⟩) (Kd.R_far (p := ⟨gb448, 0, none⟩) (Kd.R_far (p := ⟨gb447, 0, none⟩) (Kd.R_types (Kd.R_types HO454.out BK447.out (by decide)) BK448.out (by decide)) (fun _ hk => hk.1.2) (.int .i64 t461)) (fun _ hk => hk.2) (.int .i64 t461)) (fun _ hk => hk.2) (.int .i64 a1_1)) (fun _ hk => hk.2) (.int .i64 a1_2)) (fun _ hk => trivial), IsS57.l HI0, bL HB, pL HK⟩⟩
 replace H := ieq H; obtain ⟨c24b0, c24b1, H⟩ | ⟨c24, c24b0, c24b1, H⟩ := H
 · obtain ⟨y464, hy464⟩ : ∃ y_ : List Int, y_ = (([(-1), wrap64 (a1_2 + 1), 7] : List Int)) := ⟨_, rfl⟩
   replace H : ((spec_l1PickInt.f s0_0 t456 t457 y464).bind fun bt467 => (some (a1_0, bt467.1, a1_2, y452, bt467.2.1, bt467.2.2))) = some (r1, r2, r3, r4, r5, r6) := by first | (rw [hy464]; with_reducible exact H) | (rw [hy464]; exact H) | exact H
   have Ny464 := am hy464
   clear hy464
   replace H := bnd3 H; obtain ⟨t467, t468, t469, A25, H⟩ := H; dsimp only at H
   replace H := sj6 H; obtain ⟨rfl, rfl, rfl, rfl, rfl, rfl⟩ := H
   go_enter Try.func13, Try.ntmps13
   go_wp2_with (first | ((with_reducible refine gd 4 rfl ?_); refine IsS57.bx 4 rfl #[.int .i64 a1_0, .int .i64 a1_1, .int .i64 a1_2] 25 HI0 HK HB HW0 ?_; clear HI0 HK HB; intro gb447 w26 BK447 GW447 GE447 NB0_447 NB447_0 HI0 HK HB) | ((with_reducible refine gd 6 rfl ?_); refine IsS57.bv 6 rfl #[.int .i64 0, .int .i64 0, .int .i64 0] 25 HI0 HK HB HW0 ?_; clear HI0 HK HB; intro gb448 w27 BK448 GW448 GE448 NB0_448 NB448_0 HI0 HK HB hg hb; obtain ⟨NB447_448, NB448_447⟩ := nbp (nbl BK447 hg); replace BK447 := bkb BK447 hb; clear hg hb) | ((with_reducible refine gd 9 rfl ?_); refine Kd.R_lit k36 _ 36 ?hg (N := 9) ?hd (xs := ([] : List (S36))) (inner := []) (ok := fun _ => True) (okp := fun _ => True) ?hr ?hp (fun _ hk => hk) trivial (Below.refl _ _) (Nat.le_refl _) (by simp) ?_; (case hd => rfl); (case hg => rfl); (case hr => first | (go_simp; done) | (go_simp; rfl)); (case hp => exact (Reps.none _ _)); intro v450 w28 ho29 hb hg_ hnew_; clear hg_ hnew_; (first | rw [← Ny449.out] at ho29 | (simp only [Int.reduceToNat] at ho29; rw [← Ny449.out] at ho29)); have HO451 := rlk ho29 HK; replace BK447 := bkb BK447 hb; replace BK448 := bkb BK448 hb; replace HK := kbe HK hb; replace HB := bst HB hb; replace HI0 := IsS57.be HI0 hb; clear hb ho29) | ((with_reducible refine gate_builtin (b := .append) (xs := #[.tmp 9, .tmp 10]) rfl ?_); at_builtin; refine Kd.R_append_rows k36 w.heap.size rfl (.tmp 9) (.tmp 10) 26 36 (.agg #[(.int .i64 0), (.int .i64 0), (.int .i64 0), (.string ⟨#[]⟩)]) 40 rfl Try.underlying26 info36 rfl (by decide) (by omega) v450 y449 l2 _ _ _ (fun _ => True) (fun _ => False) rfl rfl ?aO ?aR (fun _ _ h => h) (fun _ h => h.elim) ?aF (Below.refl _ _) ?aS ?aL ?_; (case aR => exact Kd.C_foot_now HR2.out (pL HK)); (case aF => exact (fun _ _ => trivial)); (case aO => exact (rL HO451)); (case aS => exact (keep_size (w := w) (g := g) (row := none) (pL HK))); (case aL => have := LMc4.out; omega); intro v453 w30 ho hb hg hat; rw [← Ny452.out] at ho; have HO454 := am ho; replace HI0 := IsS57.gr HI0 hg HO451; replace BK447 := bgr BK447 hg HO451; replace BK448 := bgr BK448 hg HO451; replace HB := bwk HB HL hb; replace HK := kgr HK hg HO451; clear HO451; clear ho hb hg hat) | ((with_reducible refine gc 27 rfl ?_); refine gc1 (some 13) Try.func27 rfl (spec_l1Below.calls (IsS57.l HI0) (bL HB) A5.out) ?_; rintro w31 ⟨hi, hb, hk⟩; replace BK447 := kbk hk BK447 NB447_0; replace BK448 := kbk hk BK448 NB448_0; replace HO454 := IsS57.rk HI0 HO454 hk; replace HK := ktr HK hk; replace HB := am hb; replace HI0 := am hi; clear hb hk hi; obtain ⟨hnb32, hnc32⟩ := nbo NB447_448; obtain ⟨hnb33, hnc33⟩ := nbo NB447_0; obtain ⟨_, _, _, _, _, _⟩ := cl3 BK447) | ((with_reducible refine gd 28 rfl ?_); refine Kd.R_lit (Kd.int .i64) _ 3 ?hg (N := 28) ?hd (xs := ([(-1), wrap64 (a1_2 + 1), 7] : List Int)) (inner := [.int .i64 (-1), .int .i64 (wrap64 (a1_2 + 1)), .int .i64 7]) (ok := fun _ => True) (okp := fun _ => True) ?hr ?hp (fun _ hk => hk) trivial (Below.refl _ _) (Nat.le_refl _) (by simp) ?_; (case hd => rfl); (case hg => rfl); (case hr => first | (go_simp; done) | (go_simp; rfl)); (case hp => exact (Reps.one (show Kd.M (Kd.int .i64) _ _ _ (-1) [.int .i64 (-1)] from rfl) (Reps.one (show Kd.M (Kd.int .i64) _ _ _ (wrap64 (a1_2 + 1)) [.int .i64 (wrap64 (a1_2 + 1))] from rfl) (Reps.one (show Kd.M (Kd.int .i64) _ _ _ 7 [.int .i64 7] from rfl) (Reps.none _ _))))); intro v465 w35 ho36 hb hg_ hnew_; clear hg_ hnew_; (first | rw [← Ny464.out] at ho36 | (simp only [Int.reduceToNat] at ho36; rw [← Ny464.out] at ho36)); have HO466 := rlk ho36 HK; replace HO454 := rbe HO454 hb; replace BK447 := bkb BK447 hb; replace BK448 := bkb BK448 hb; replace HK := kbe HK hb; replace HB := bst HB hb; replace HI0 := IsS57.be HI0 hb; clear hb ho36; obtain ⟨Ao37, co37, eo37⟩ := Kd.R_slice HO466.out; subst eo37) | ((with_reducible refine gc 29 rfl ?_); refine gc1 (some 29) Try.func29 rfl (spec_l1PickInt.calls (IsS57.l HI0) (bL HB) (C_later (Kd.R_reads' HO466.out).2.2) ((Kd.R_reads' HO466.out).2.1) (far_slice (IsS57.own_ne HI0.out HO466.out (by decide))) A25.out) ?_; rintro w38 ⟨hi, hb, hk⟩; replace BK447 := kbk hk BK447 NB447_0; replace BK448 := kbk hk BK448 NB448_0; replace HO454 := IsS57.rk HI0 HO454 hk; replace HO466 := IsS57.rk HI0 HO466 hk; replace HK := ktr HK hk; replace HB := am hb; replace HI0 := am hi; clear hb hk hi; obtain ⟨_, _, _, _, _, _⟩ := cl3 BK447; obtain ⟨hnb40, hnc40⟩ := nbo NB448_0; obtain ⟨_, _, _, _, _, _⟩ := cl3 BK448))
   refine bodyPost_ret (results_ct rfl _ _ gb448 25 #[.int .i64 a1_0, .int .i64 t467, .int .i64 a1_2] (0, 0) _ rfl (kL BK448) Try.underlying25 rfl (by kernel_rfl)) rfl ?_
   exact ⟨_, fin_ ⟨by (with_reducible repeat (first | apply Kd.R_alloc | apply Kd.R_drewN | apply Kd.R_drew)); exact Kd.R_mono (Kd.R_far (p := ⟨gb448, 2, none⟩) (Kd.R_far (p := ⟨gb448, 1, none⟩) (Kd.R_far (p := ⟨gb448, 0, none⟩) (Kd.R_far (p := ⟨gb447, 1, none⟩) (Kd.R_types (Kd.R_types HO454.out BK447.out (by decide)) BK448.out (by decide)) (fun _ hk => hk.1.2) (.int .i64 t467)) (fun _ hk => hk.2) (.int .i64 a1_0)) (fun _ hk => hk.2) (.int .i64 t467)) (fun _ hk => hk.2) (.int .i64 a1_2)) (fun _ hk => trivial), IsS57.l HI0, bL HB, pL HK⟩⟩
 replace H := ieq H; obtain ⟨c42b0, c42b1, H⟩ | ⟨c42, c42b0, c42b1, H⟩ := H
 · obtain ⟨y470, hy470⟩ : ∃ y_ : List Int, y_ = (([(-1), 7, wrap64 (a1_2 + 1)] : List Int)) := ⟨_, rfl⟩
   replace H : ((spec_l1PickInt.f s0_0 t456 t457 y470).bind fun bt473 => (some (a1_0, a1_1, bt473.1, y452, bt473.2.1, bt473.2.2))) = some (r1, r2, r3, r4, r5, r6) := by first | (rw [hy470]; with_reducible exact H) | (rw [hy470]; exact H) | exact H
   have Ny470 := am hy470
   clear hy470
   replace H := bnd3 H; obtain ⟨t473, t474, t475, A43, H⟩ := H; dsimp only at H
   replace H := sj6 H; obtain ⟨rfl, rfl, rfl, rfl, rfl, rfl⟩ := H
   go_enter Try.func13, Try.ntmps13
   go_wp2_with (first | ((with_reducible refine gd 4 rfl ?_); refine IsS57.bx 4 rfl #[.int .i64 a1_0, .int .i64 a1_1, .int .i64 a1_2] 25 HI0 HK HB HW0 ?_; clear HI0 HK HB; intro gb447 w44 BK447 GW447 GE447 NB0_447 NB447_0 HI0 HK HB) | ((with_reducible refine gd 6 rfl ?_); refine IsS57.bv 6 rfl #[.int .i64 0, .int .i64 0, .int .i64 0] 25 HI0 HK HB HW0 ?_; clear HI0 HK HB; intro gb448 w45 BK448 GW448 GE448 NB0_448 NB448_0 HI0 HK HB hg hb; obtain ⟨NB447_448, NB448_447⟩ := nbp (nbl BK447 hg); replace BK447 := bkb BK447 hb; clear hg hb) | ((with_reducible refine gd 9 rfl ?_); refine Kd.R_lit k36 _ 36 ?hg (N := 9) ?hd (xs := ([] : List (S36))) (inner := []) (ok := fun _ => True) (okp := fun _ => True) ?hr ?hp (fun _ hk => hk) trivial (Below.refl _ _) (Nat.le_refl _) (by simp) ?_; (case hd => rfl); (case hg => rfl); (case hr => first | (go_simp; done) | (go_simp; rfl)); (case hp => exact (Reps.none _ _)); intro v450 w46 ho47 hb hg_ hnew_; clear hg_ hnew_; (first | rw [← Ny449.out] at ho47 | (simp only [Int.reduceToNat] at ho47; rw [← Ny449.out] at ho47)); have HO451 := rlk ho47 HK; replace BK447 := bkb BK447 hb; replace BK448 := bkb BK448 hb; replace HK := kbe HK hb; replace HB := bst HB hb; replace HI0 := IsS57.be HI0 hb; clear hb ho47) | ((with_reducible refine gate_builtin (b := .append) (xs := #[.tmp 9, .tmp 10]) rfl ?_); at_builtin; refine Kd.R_append_rows k36 w.heap.size rfl (.tmp 9) (.tmp 10) 26 36 (.agg #[(.int .i64 0), (.int .i64 0), (.int .i64 0), (.string ⟨#[]⟩)]) 40 rfl Try.underlying26 info36 rfl (by decide) (by omega) v450 y449 l2 _ _ _ (fun _ => True) (fun _ => False) rfl rfl ?aO ?aR (fun _ _ h => h) (fun _ h => h.elim) ?aF (Below.refl _ _) ?aS ?aL ?_; (case aR => exact Kd.C_foot_now HR2.out (pL HK)); (case aF => exact (fun _ _ => trivial)); (case aO => exact (rL HO451)); (case aS => exact (keep_size (w := w) (g := g) (row := none) (pL HK))); (case aL => have := LMc4.out; omega); intro v453 w48 ho hb hg hat; rw [← Ny452.out] at ho; have HO454 := am ho; replace HI0 := IsS57.gr HI0 hg HO451; replace BK447 := bgr BK447 hg HO451; replace BK448 := bgr BK448 hg HO451; replace HB := bwk HB HL hb; replace HK := kgr HK hg HO451; clear HO451; clear ho hb hg hat) | ((with_reducible refine gc 27 rfl ?_); refine gc1 (some 13) Try.func27 rfl (spec_l1Below.calls (IsS57.l HI0) (bL HB) A5.out) ?_; rintro w49 ⟨hi, hb, hk⟩; replace BK447 := kbk hk BK447 NB447_0; replace BK448 := kbk hk BK448 NB448_0; replace HO454 := IsS57.rk HI0 HO454 hk; replace HK := ktr HK hk; replace HB := am hb; replace HI0 := am hi; clear hb hk hi; obtain ⟨hnb50, hnc50⟩ := nbo NB447_448; obtain ⟨hnb51, hnc51⟩ := nbo NB447_0; obtain ⟨_, _, _, _, _, _⟩ := cl3 BK447) | ((with_reducible refine gd 37 rfl ?_); refine Kd.R_lit (Kd.int .i64) _ 3 ?hg (N := 37) ?hd (xs := ([(-1), 7, wrap64 (a1_2 + 1)] : List Int)) (inner := [.int .i64 (-1), .int .i64 7, .int .i64 (wrap64 (a1_2 + 1))]) (ok := fun _ => True) (okp := fun _ => True) ?hr ?hp (fun _ hk => hk) trivial (Below.refl _ _) (Nat.le_refl _) (by simp) ?_; (case hd => rfl); (case hg => rfl); (case hr => first | (go_simp; done) | (go_simp; rfl)); (case hp => exact (Reps.one (show Kd.M (Kd.int .i64) _ _ _ (-1) [.int .i64 (-1)] from rfl) (Reps.one (show Kd.M (Kd.int .i64) _ _ _ 7 [.int .i64 7] from rfl) (Reps.one (show Kd.M (Kd.int .i64) _ _ _ (wrap64 (a1_2 + 1)) [.int .i64 (wrap64 (a1_2 + 1))] from rfl) (Reps.none _ _))))); intro v471 w53 ho54 hb hg_ hnew_; clear hg_ hnew_; (first | rw [← Ny470.out] at ho54 | (simp only [Int.reduceToNat] at ho54; rw [← Ny470.out] at ho54)); have HO472 := rlk ho54 HK; replace HO454 := rbe HO454 hb; replace BK447 := bkb BK447 hb; replace BK448 := bkb BK448 hb; replace HK := kbe HK hb; replace HB := bst HB hb; replace HI0 := IsS57.be HI0 hb; clear hb ho54; obtain ⟨Ao55, co55, eo55⟩ := Kd.R_slice HO472.out; subst eo55) | ((with_reducible refine gc 29 rfl ?_); refine gc1 (some 38) Try.func29 rfl (spec_l1PickInt.calls (IsS57.l HI0) (bL HB) (C_later (Kd.R_reads' HO472.out).2.2) ((Kd.R_reads' HO472.out).2.1) (far_slice (IsS57.own_ne HI0.out HO472.out (by decide))) A43.out) ?_; rintro w56 ⟨hi, hb, hk⟩; replace BK447 := kbk hk BK447 NB447_0; replace BK448 := kbk hk BK448 NB448_0; replace HO454 := IsS57.rk HI0 HO454 hk; replace HO472 := IsS57.rk HI0 HO472 hk; replace HK := ktr HK hk; replace HB := am hb; replace HI0 := am hi; clear hb hk hi; obtain ⟨_, _, _, _, _, _⟩ := cl3 BK447; obtain ⟨hnb58, hnc58⟩ := nbo NB448_0; obtain ⟨_, _, _, _, _, _⟩ := cl3 BK448))
   refine bodyPost_ret (results_ct rfl _ _ gb448 25 #[.int .i64 a1_0, .int .i64 a1_1, .int .i64 t473] (0, 0) _ rfl (kL BK448) Try.underlying25 rfl (by kernel_rfl)) rfl ?_
   exact ⟨_, fin_ ⟨by (with_reducible repeat (first | apply Kd.R_alloc | apply Kd.R_drewN | apply Kd.R_drew)); exact Kd.R_mono (Kd.R_far (p := ⟨gb448, 2, none⟩) (Kd.R_far (p := ⟨gb448, 1, none⟩) (Kd.R_far (p := ⟨gb448, 0, none⟩) (Kd.R_far (p := ⟨gb447, 2, none⟩) (Kd.R_types (Kd.R_types HO454.out BK447.out (by decide)) BK448.out (by decide)) (fun _ hk => hk.1.2) (.int .i64 t473)) (fun _ hk => hk.2) (.int .i64 a1_0)) (fun _ hk => hk.2) (.int .i64 a1_1)) (fun _ hk => hk.2) (.int .i64 t473)) (fun _ hk => trivial), IsS57.l HI0, bL HB, pL HK⟩⟩
 replace H := ieq H; obtain ⟨c60b0, c60b1, H⟩ | ⟨c60, c60b0, c60b1, H⟩ := H
 rotate_left
 · replace H := sj6 H; obtain ⟨rfl, rfl, rfl, rfl, rfl, rfl⟩ := H
   go_enter Try.func13, Try.ntmps13
   go_wp2_with (first | ((with_reducible refine gd 4 rfl ?_); refine IsS57.bx 4 rfl #[.int .i64 a1_0, .int .i64 a1_1, .int .i64 a1_2] 25 HI0 HK HB HW0 ?_; clear HI0 HK HB; intro gb447 w99 BK447 GW447 GE447 NB0_447 NB447_0 HI0 HK HB) | ((with_reducible refine gd 6 rfl ?_); refine IsS57.bv 6 rfl #[.int .i64 0, .int .i64 0, .int .i64 0] 25 HI0 HK HB HW0 ?_; clear HI0 HK HB; intro gb448 w100 BK448 GW448 GE448 NB0_448 NB448_0 HI0 HK HB hg hb; obtain ⟨NB447_448, NB448_447⟩ := nbp (nbl BK447 hg); replace BK447 := bkb BK447 hb; clear hg hb) | ((with_reducible refine gd 9 rfl ?_); refine Kd.R_lit k36 _ 36 ?hg (N := 9) ?hd (xs := ([] : List (S36))) (inner := []) (ok := fun _ => True) (okp := fun _ => True) ?hr ?hp (fun _ hk => hk) trivial (Below.refl _ _) (Nat.le_refl _) (by simp) ?_; (case hd => rfl); (case hg => rfl); (case hr => first | (go_simp; done) | (go_simp; rfl)); (case hp => exact (Reps.none _ _)); intro v450 w101 ho102 hb hg_ hnew_; clear hg_ hnew_; (first | rw [← Ny449.out] at ho102 | (simp only [Int.reduceToNat] at ho102; rw [← Ny449.out] at ho102)); have HO451 := rlk ho102 HK; replace BK447 := bkb BK447 hb; replace BK448 := bkb BK448 hb; replace HK := kbe HK hb; replace HB := bst HB hb; replace HI0 := IsS57.be HI0 hb; clear hb ho102) | ((with_reducible refine gate_builtin (b := .append) (xs := #[.tmp 9, .tmp 10]) rfl ?_); at_builtin; refine Kd.R_append_rows k36 w.heap.size rfl (.tmp 9) (.tmp 10) 26 36 (.agg #[(.int .i64 0), (.int .i64 0), (.int .i64 0), (.string ⟨#[]⟩)]) 40 rfl Try.underlying26 info36 rfl (by decide) (by omega) v450 y449 l2 _ _ _ (fun _ => True) (fun _ => False) rfl rfl ?aO ?aR (fun _ _ h => h) (fun _ h => h.elim) ?aF (Below.refl _ _) ?aS ?aL ?_; (case aR => exact Kd.C_foot_now HR2.out (pL HK)); (case aF => exact (fun _ _ => trivial)); (case aO => exact (rL HO451)); (case aS => exact (keep_size (w := w) (g := g) (row := none) (pL HK))); (case aL => have := LMc4.out; omega); intro v453 w103 ho hb hg hat; rw [← Ny452.out] at ho; have HO454 := am ho; replace HI0 := IsS57.gr HI0 hg HO451; replace BK447 := bgr BK447 hg HO451; replace BK448 := bgr BK448 hg HO451; replace HB := bwk HB HL hb; replace HK := kgr HK hg HO451; clear HO451; clear ho hb hg hat) | ((with_reducible refine gc 27 rfl ?_); refine gc1 (some 13) Try.func27 rfl (spec_l1Below.calls (IsS57.l HI0) (bL HB) A5.out) ?_; rintro w104 ⟨hi, hb, hk⟩; replace BK447 := kbk hk BK447 NB447_0; replace BK448 := kbk hk BK448 NB448_0; replace HO454 := IsS57.rk HI0 HO454 hk; replace HK := ktr HK hk; replace HB := am hb; replace HI0 := am hi; clear hb hk hi; obtain ⟨hnb105, hnc105⟩ := nbo NB447_448; obtain ⟨hnb106, hnc106⟩ := nbo NB447_0; obtain ⟨_, _, _, _, _, _⟩ := cl3 BK447; obtain ⟨hnb108, hnc108⟩ := nbo NB448_0; obtain ⟨_, _, _, _, _, _⟩ := cl3 BK448))
   refine bodyPost_ret (results_ct rfl _ _ gb448 25 #[.int .i64 a1_0, .int .i64 a1_1, .int .i64 a1_2] (0, 0) _ rfl (kL BK448) Try.underlying25 rfl (by kernel_rfl)) rfl ?_
   exact ⟨_, fin_ ⟨by (with_reducible repeat (first | apply Kd.R_alloc | apply Kd.R_drewN | apply Kd.R_drew)); exact Kd.R_mono (Kd.R_far (p := ⟨gb448, 2, none⟩) (Kd.R_far (p := ⟨gb448, 1, none⟩) (Kd.R_far (p := ⟨gb448, 0, none⟩) (Kd.R_types HO454.out BK448.out (by decide)) (fun _ hk => hk.2) (.int .i64 a1_0)) (fun _ hk => hk.2) (.int .i64 a1_1)) (fun _ hk => hk.2) (.int .i64 a1_2)) (fun _ hk => trivial), IsS57.l HI0, bL HB, pL HK⟩⟩
 by_cases c61 : (y452.length : Int) > 0
 rotate_left
 · rw [if_neg c61] at H
   have c61b0 : decide (0 < (y452.length : Int)) = false := decide_eq_false c61
   have c61b1 : decide (0 < y452.length) = false := decide_eq_false (by omega)
   clear c61
   replace H := sj6 H; obtain ⟨rfl, rfl, rfl, rfl, rfl, rfl⟩ := H
   go_enter Try.func13, Try.ntmps13
   go_wp2_with (first | ((with_reducible refine gd 4 rfl ?_); refine IsS57.bx 4 rfl #[.int .i64 a1_0, .int .i64 a1_1, .int .i64 a1_2] 25 HI0 HK HB HW0 ?_; clear HI0 HK HB; intro gb447 w87 BK447 GW447 GE447 NB0_447 NB447_0 HI0 HK HB) | ((with_reducible refine gd 6 rfl ?_); refine IsS57.bv 6 rfl #[.int .i64 0, .int .i64 0, .int .i64 0] 25 HI0 HK HB HW0 ?_; clear HI0 HK HB; intro gb448 w88 BK448 GW448 GE448 NB0_448 NB448_0 HI0 HK HB hg hb; obtain ⟨NB447_448, NB448_447⟩ := nbp (nbl BK447 hg); replace BK447 := bkb BK447 hb; clear hg hb) | ((with_reducible refine gd 9 rfl ?_); refine Kd.R_lit k36 _ 36 ?hg (N := 9) ?hd (xs := ([] : List (S36))) (inner := []) (ok := fun _ => True) (okp := fun _ => True) ?hr ?hp (fun _ hk => hk) trivial (Below.refl _ _) (Nat.le_refl _) (by simp) ?_; (case hd => rfl); (case hg => rfl); (case hr => first | (go_simp; done) | (go_simp; rfl)); (case hp => exact (Reps.none _ _)); intro v450 w89 ho90 hb hg_ hnew_; clear hg_ hnew_; (first | rw [← Ny449.out] at ho90 | (simp only [Int.reduceToNat] at ho90; rw [← Ny449.out] at ho90)); have HO451 := rlk ho90 HK; replace BK447 := bkb BK447 hb; replace BK448 := bkb BK448 hb; replace HK := kbe HK hb; replace HB := bst HB hb; replace HI0 := IsS57.be HI0 hb; clear hb ho90) | ((with_reducible refine gate_builtin (b := .append) (xs := #[.tmp 9, .tmp 10]) rfl ?_); at_builtin; refine Kd.R_append_rows k36 w.heap.size rfl (.tmp 9) (.tmp 10) 26 36 (.agg #[(.int .i64 0), (.int .i64 0), (.int .i64 0), (.string ⟨#[]⟩)]) 40 rfl Try.underlying26 info36 rfl (by decide) (by omega) v450 y449 l2 _ _ _ (fun _ => True) (fun _ => False) rfl rfl ?aO ?aR (fun _ _ h => h) (fun _ h => h.elim) ?aF (Below.refl _ _) ?aS ?aL ?_; (case aR => exact Kd.C_foot_now HR2.out (pL HK)); (case aF => exact (fun _ _ => trivial)); (case aO => exact (rL HO451)); (case aS => exact (keep_size (w := w) (g := g) (row := none) (pL HK))); (case aL => have := LMc4.out; omega); intro v453 w91 ho hb hg hat; rw [← Ny452.out] at ho; have HO454 := am ho; replace HI0 := IsS57.gr HI0 hg HO451; replace BK447 := bgr BK447 hg HO451; replace BK448 := bgr BK448 hg HO451; replace HB := bwk HB HL hb; replace HK := kgr HK hg HO451; clear HO451; clear ho hb hg hat) | ((with_reducible refine gc 27 rfl ?_); refine gc1 (some 13) Try.func27 rfl (spec_l1Below.calls (IsS57.l HI0) (bL HB) A5.out) ?_; rintro w92 ⟨hi, hb, hk⟩; replace BK447 := kbk hk BK447 NB447_0; replace BK448 := kbk hk BK448 NB448_0; replace HO454 := IsS57.rk HI0 HO454 hk; replace HK := ktr HK hk; replace HB := am hb; replace HI0 := am hi; clear hb hk hi; obtain ⟨Ao93, co93, eo93⟩ := Kd.R_slice HO454.out; subst eo93; obtain ⟨hnb94, hnc94⟩ := nbo NB447_448; obtain ⟨hnb95, hnc95⟩ := nbo NB447_0; obtain ⟨_, _, _, _, _, _⟩ := cl3 BK447; obtain ⟨hnb97, hnc97⟩ := nbo NB448_0; obtain ⟨_, _, _, _, _, _⟩ := cl3 BK448))
   refine bodyPost_ret (results_ct rfl _ _ gb448 25 #[.int .i64 a1_0, .int .i64 a1_1, .int .i64 a1_2] (0, 0) _ rfl (kL BK448) Try.underlying25 rfl (by kernel_rfl)) rfl ?_
   exact ⟨_, fin_ ⟨by (with_reducible repeat (first | apply Kd.R_alloc | apply Kd.R_drewN | apply Kd.R_drew)); exact Kd.R_mono (Kd.R_far (p := ⟨gb448, 2, none⟩) (Kd.R_far (p := ⟨gb448, 1, none⟩) (Kd.R_far (p := ⟨gb448, 0, none⟩) (Kd.R_types HO454.out BK448.out (by decide)) (fun _ hk => hk.2) (.int .i64 a1_0)) (fun _ hk => hk.2) (.int .i64 a1_1)) (fun _ hk => hk.2) (.int .i64 a1_2)) (fun _ hk => trivial), IsS57.l HI0, bL HB, pL HK⟩⟩
 rw [if_pos c61] at H
 have c61b0 : decide (0 < (y452.length : Int)) = true := decide_eq_true c61
 have c61b1 : decide (0 < y452.length) = true := decide_eq_true (by omega)
 clear c61
 replace H := bnd3 H; obtain ⟨t476, t477, t478, A62, H⟩ := H; dsimp only at H
 replace H := bnd3 H; obtain ⟨t479, t480, t481, A63, H⟩ := H; dsimp only at H
 replace H := bnd3 H; obtain ⟨t482, t483, t484, A64, H⟩ := H; dsimp only at H
 replace H := bnd3 H; obtain ⟨t485, t486, t487, A65, H⟩ := H; dsimp only at H
 replace H := if_dd H; obtain ⟨c66b0, c67b0, H⟩ := H
 obtain ⟨y488, hy488⟩ : ∃ y_ : List (S36), y_ = (y452.set (t476 : Int).toNat (⟨t479, t482, (⟨t485, (⟨#[]⟩ : ByteArray)⟩ : S30)⟩ : S36)) := ⟨_, rfl⟩
 replace H : (some (a1_0, a1_1, a1_2, y488, t486, t487)) = some (r1, r2, r3, r4, r5, r6) := by first | (rw [hy488]; with_reducible exact H) | (rw [hy488]; exact H) | exact H
 have Ny488 := am hy488
 clear hy488
 replace H := sj6 H; obtain ⟨rfl, rfl, rfl, rfl, rfl, rfl⟩ := H
 go_enter Try.func13, Try.ntmps13
 go_wp2_with (first | ((with_reducible refine gd 4 rfl ?_); refine IsS57.bx 4 rfl #[.int .i64 a1_0, .int .i64 a1_1, .int .i64 a1_2] 25 HI0 HK HB HW0 ?_; clear HI0 HK HB; intro gb447 w69 BK447 GW447 GE447 NB0_447 NB447_0 HI0 HK HB) | ((with_reducible refine gd 6 rfl ?_); refine IsS57.bv 6 rfl #[.int .i64 0, .int .i64 0, .int .i64 0] 25 HI0 HK HB HW0 ?_; clear HI0 HK HB; intro gb448 w70 BK448 GW448 GE448 NB0_448 NB448_0 HI0 HK HB hg hb; obtain ⟨NB447_448, NB448_447⟩ := nbp (nbl BK447 hg); replace BK447 := bkb BK447 hb; clear hg hb) | ((with_reducible refine gd 9 rfl ?_); refine Kd.R_lit k36 _ 36 ?hg (N := 9) ?hd (xs := ([] : List (S36))) (inner := []) (ok := fun _ => True) (okp := fun _ => True) ?hr ?hp (fun _ hk => hk) trivial (Below.refl _ _) (Nat.le_refl _) (by simp) ?_; (case hd => rfl); (case hg => rfl); (case hr => first | (go_simp; done) | (go_simp; rfl)); (case hp => exact (Reps.none _ _)); intro v450 w71 ho72 hb hg_ hnew_; clear hg_ hnew_; (first | rw [← Ny449.out] at ho72 | (simp only [Int.reduceToNat] at ho72; rw [← Ny449.out] at ho72)); have HO451 := rlk ho72 HK; replace BK447 := bkb BK447 hb; replace BK448 := bkb BK448 hb; replace HK := kbe HK hb; replace HB := bst HB hb; replace HI0 := IsS57.be HI0 hb; clear hb ho72) | ((with_reducible refine gate_builtin (b := .append) (xs := #[.tmp 9, .tmp 10]) rfl ?_); at_builtin; refine Kd.R_append_rows k36 w.heap.size rfl (.tmp 9) (.tmp 10) 26 36 (.agg #[(.int .i64 0), (.int .i64 0), (.int .i64 0), (.string ⟨#[]⟩)]) 40 rfl Try.underlying26 info36 rfl (by decide) (by omega) v450 y449 l2 _ _ _ (fun _ => True) (fun _ => False) rfl rfl ?aO ?aR (fun _ _ h => h) (fun _ h => h.elim) ?aF (Below.refl _ _) ?aS ?aL ?_; (case aR => exact Kd.C_foot_now HR2.out (pL HK)); (case aF => exact (fun _ _ => trivial)); (case aO => exact (rL HO451)); (case aS => exact (keep_size (w := w) (g := g) (row := none) (pL HK))); (case aL => have := LMc4.out; omega); intro v453 w73 ho hb hg hat; rw [← Ny452.out] at ho; have HO454 := am ho; replace HI0 := IsS57.gr HI0 hg HO451; replace BK447 := bgr BK447 hg HO451; replace BK448 := bgr BK448 hg HO451; replace HB := bwk HB HL hb; replace HK := kgr HK hg HO451; clear HO451; clear ho hb hg hat) | ((with_reducible refine gc 27 rfl ?_); refine gc1 (some 13) Try.func27 rfl (spec_l1Below.calls (IsS57.l HI0) (bL HB) A5.out) ?_; rintro w74 ⟨hi, hb, hk⟩; replace BK447 := kbk hk BK447 NB447_0; replace BK448 := kbk hk BK448 NB448_0; replace HO454 := IsS57.rk HI0 HO454 hk; replace HK := ktr HK hk; replace HB := am hb; replace HI0 := am hi; clear hb hk hi; obtain ⟨Ao75, co75, eo75⟩ := Kd.R_slice HO454.out; subst eo75) | ((with_reducible refine gc 27 rfl ?_); refine gc1 (some 49) Try.func27 rfl (spec_l1Below.calls (IsS57.l HI0) (bL HB) A62.out) ?_; rintro w76 ⟨hi, hb, hk⟩; replace BK447 := kbk hk BK447 NB447_0; replace BK448 := kbk hk BK448 NB448_0; replace HO454 := IsS57.rk HI0 HO454 hk; replace HK := ktr HK hk; replace HB := am hb; replace HI0 := am hi; clear hb hk hi) | ((with_reducible refine gc 27 rfl ?_); refine gc1 (some 51) Try.func27 rfl (spec_l1Below.calls (IsS57.l HI0) (bL HB) A63.out) ?_; rintro w77 ⟨hi, hb, hk⟩; replace BK447 := kbk hk BK447 NB447_0; replace BK448 := kbk hk BK448 NB448_0; replace HO454 := IsS57.rk HI0 HO454 hk; replace HK := ktr HK hk; replace HB := am hb; replace HI0 := am hi; clear hb hk hi) | ((with_reducible refine gc 27 rfl ?_); refine gc1 (some 53) Try.func27 rfl (spec_l1Below.calls (IsS57.l HI0) (bL HB) A64.out) ?_; rintro w78 ⟨hi, hb, hk⟩; replace BK447 := kbk hk BK447 NB447_0; replace BK448 := kbk hk BK448 NB448_0; replace HO454 := IsS57.rk HI0 HO454 hk; replace HK := ktr HK hk; replace HB := am hb; replace HI0 := am hi; clear hb hk hi) | ((with_reducible refine gc 27 rfl ?_); refine gc1 (some 55) Try.func27 rfl (spec_l1Below.calls (IsS57.l HI0) (bL HB) A65.out) ?_; rintro w79 ⟨hi, hb, hk⟩; replace BK447 := kbk hk BK447 NB447_0; replace BK448 := kbk hk BK448 NB448_0; replace HO454 := IsS57.rk HI0 HO454 hk; replace HK := ktr HK hk; replace HB := am hb; replace HI0 := am hi; clear hb hk hi; have p68 : 0 ≤ (t476 : Int) := dcd; have q68 : (t476 : Int) < ((y452.length : Int) : Int) := dcd; obtain ⟨go68, co68, eo68, gb68, gl68, cl68, HG68⟩ := Kd.R_form HO454.out (by omega); (first | cases eo68 | (injection eo68 with ea_ en_ ec_; (first | subst ea_ | (injection ea_ with ea_; subst ea_)); subst ec_; clear en_)); have GB68 := am gb68; have GG68 := am HG68; clear gb68 gl68 HG68; obtain ⟨ce68, hcl68, hM68, hcc68, hfr68⟩ := Kd.R_elem HO454.out z36 (t476 : Int) p68 q68; obtain rfl := k36_openM hM68; have hx68_0 : w79.cell? ⟨go68, (t476 : Int).toNat * 4, none⟩ = some (.int .i64 ((rd_T36 y452 t476).f0)) := hcc68 0 _ rfl; have hx68_1 : w79.cell? ⟨go68, (t476 : Int).toNat * 4 + 1, none⟩ = some (.int .i64 ((rd_T36 y452 t476).f1)) := hcc68 1 _ rfl; have hx68_2 : w79.cell? ⟨go68, (t476 : Int).toNat * 4 + 2, none⟩ = some (.int .i64 ((rd_T36 y452 t476).f2.f0)) := hcc68 2 _ rfl; have hx68_3 : w79.cell? ⟨go68, (t476 : Int).toNat * 4 + 3, none⟩ = some (.string ((rd_T36 y452 t476).f2.f1)) := hcc68 3 _ rfl; have hf68_0 : w79.frozen? ⟨go68, (t476 : Int).toNat * 4, none⟩ = false := hfr68 0; have hf68_1 : w79.frozen? ⟨go68, (t476 : Int).toNat * 4 + 1, none⟩ = false := hfr68 1; have hf68_2 : w79.frozen? ⟨go68, (t476 : Int).toNat * 4 + 2, none⟩ = false := hfr68 2; have hf68_3 : w79.frozen? ⟨go68, (t476 : Int).toNat * 4 + 3, none⟩ = false := hfr68 3; clear hcl68 hcc68 hfr68 hM68; replace p68 := eq_true p68; replace q68 := eq_true q68; have HX80 := am (show Kd.R k36 36 w79 w.heap.size (fun _ => True) (.slice (some ⟨go68, 0, none⟩) y452.length co75) y452 from (rL HO454)); obtain ⟨ce80, hcl80, hM80, hcc80, hfr80⟩ := Kd.R_elem HX80.out z36 (t476 : Int) (dcd) (by have h_ : (t476 : Int) < ((y452.length : Int) : Int) := dcd; first | exact h_ | (have e_ := (Kd.R_reads' HO454.out).1; omega) | simpa using h_); obtain rfl := k36_openM hM80; have HP80 := Kd.R_seg HX80.out (t476 : Int) (dcd) (by have h_ : (t476 : Int) < ((y452.length : Int) : Int) := dcd; first | exact h_ | (have e_ := (Kd.R_reads' HO454.out).1; omega) | simpa using h_) (seg := [.int .i64 t479, .int .i64 t482, .int .i64 t485, .string ⟨#[]⟩]) (j := 0) hcl80 hcc80 (show 4 ≤ 4 from by decide) (x' := (⟨t479, t482, (⟨t485, (⟨#[]⟩ : ByteArray)⟩ : S30)⟩ : S36)) (k36_mkM _ _ _ (⟨t479, t482, (⟨t485, (⟨#[]⟩ : ByteArray)⟩ : S30)⟩ : S36) ) (fun _ hk => hk); have hx80_0 := hcc80 0 _ rfl; (try simp only [show (k36).sz = 4 from rfl, Nat.mul_one, Nat.add_zero] at hx80_0); have hf80_0 := hfr80 0; (try simp only [show (k36).sz = 4 from rfl, Nat.mul_one, Nat.add_zero] at hf80_0); have hx80_1 := hcc80 1 _ rfl; (try simp only [show (k36).sz = 4 from rfl, Nat.mul_one, Nat.add_zero] at hx80_1); have hf80_1 := hfr80 1; (try simp only [show (k36).sz = 4 from rfl, Nat.mul_one, Nat.add_zero] at hf80_1); have hx80_2 := hcc80 2 _ rfl; (try simp only [show (k36).sz = 4 from rfl, Nat.mul_one, Nat.add_zero] at hx80_2); have hf80_2 := hfr80 2; (try simp only [show (k36).sz = 4 from rfl, Nat.mul_one, Nat.add_zero] at hf80_2); have hx80_3 := hcc80 3 _ rfl; (try simp only [show (k36).sz = 4 from rfl, Nat.mul_one, Nat.add_zero] at hx80_3); have hf80_3 := hfr80 3; (try simp only [show (k36).sz = 4 from rfl, Nat.mul_one, Nat.add_zero] at hf80_3); clear hcl80 hcc80 hfr80 hM80) | ((with_reducible refine gate_store (t := 36) (p := 58) rfl ?_); refine st_ 36 58 ((((w79.setCell ⟨go68, (t476 : Int).toNat * 4, none⟩ (.int .i64 t479)).setCell ⟨go68, (t476 : Int).toNat * 4 + 1, none⟩ (.int .i64 t482)).setCell ⟨go68, (t476 : Int).toNat * 4 + 2, none⟩ (.int .i64 t485)).setCell ⟨go68, (t476 : Int).toNat * 4 + 3, none⟩ (.string ⟨#[]⟩)) ?_; intro w81 hw; have hg : w79.grownBy w81 (some go68) := (by rw [hw]; exact HP80.2); have hp_ : Kd.R k36 36 w81 w.heap.size (fun _ => True) (.slice (some ⟨go68, 0, none⟩) y452.length co75) y488 := (by rw [hw, Ny488.out]; exact HP80.1); clear HP80; replace HI0 := IsS57.gr HI0 hg HO454; replace BK447 := bgr BK447 hg HO454; replace BK448 := bgr BK448 hg HO454; replace HB := am ((by rw [hw]; exact below_set (below_set (below_set (below_set (HB.out) (Nat.le_trans HL.out GB68.out)) (Nat.le_trans HL.out GB68.out)) (Nat.le_trans HL.out GB68.out)) (Nat.le_trans HL.out GB68.out) : Below w0.heap.size w0 w81)); replace HK := kgr HK hg HO454; replace HO454 := am hp_; clear hg hw hp_; obtain ⟨hnb82, hnc82⟩ := nbo NB447_448; obtain ⟨hnb83, hnc83⟩ := nbo NB447_0; obtain ⟨_, _, _, _, _, _⟩ := cl3 BK447; obtain ⟨hnb85, hnc85⟩ := nbo NB448_0; obtain ⟨_, _, _, _, _, _⟩ := cl3 BK448))
 refine bodyPost_ret (results_ct rfl _ _ gb448 25 #[.int .i64 a1_0, .int .i64 a1_1, .int .i64 a1_2] (0, 0) _ rfl (kL BK448) Try.underlying25 rfl (by kernel_rfl)) rfl ?_
 exact ⟨_, fin_ ⟨by (with_reducible repeat (first | apply Kd.R_alloc | apply Kd.R_drewN | apply Kd.R_drew)); exact Kd.R_mono (Kd.R_far (p := ⟨gb448, 2, none⟩) (Kd.R_far (p := ⟨gb448, 1, none⟩) (Kd.R_far (p := ⟨gb448, 0, none⟩) (Kd.R_types HO454.out BK448.out (by decide)) (fun _ hk => hk.2) (.int .i64 a1_0)) (fun _ hk => hk.2) (.int .i64 a1_1)) (fun _ hk => hk.2) (.int .i64 a1_2)) (fun _ hk => trivial), IsS57.l HI0, bL HB, pL HK⟩⟩
/-! ### spec_DrawStatsOf: function 5 -/
def spec_DrawStatsOf.f (k : Nat) (l0 : List Int) : Option (Int × Int × Int × (List (S36))) := (spec_l1New.f k l0).bind fun bt490 => ((spec_l15Draw.f k bt490.1 bt490.2.1 bt490.2.2 9).bind fun bt494 => ((spec_l15Spoil.f bt490.1 bt494.2.2.2.2.1 bt494.2.2.2.2.2 bt494.1 bt494.2.1 bt494.2.2.1 bt494.2.2.2.1).bind fun bt503 => (some (bt503.1, bt503.2.1, bt503.2.2.1, bt503.2.2.2.1))))
theorem spec_DrawStatsOf.calls {k : Nat} {A0 : Option Addr} {c0 : Nat} {l0 : List Int} {r1 r2 r3 : Int} {r4 : List (S36)} {w : World} (hr0 : Kd.C (Kd.int .u8) w A0 l0.length l0) (hc0 : l0.length ≤ c0) (h : spec_DrawStatsOf.f k l0 = some (r1, r2, r3, r4)) :
    Calls Try.prog 5 #[.slice A0 l0.length c0] w fun e w' => ∃ v3_ : Value, e = .returned (.tuple #[.agg #[.int .i64 r1, .int .i64 r2, .int .i64 r3], v3_]) ∧ Kd.R k36 36 w' w.heap.size (fun _ => True) v3_ r4 ∧ Below w.heap.size w w' := by
 have hu25 := Try.underlying25
 have HR0 := am hr0
 have HC0 := am hc0
 clear hr0 hc0
 have HB := am (Below.refl w.heap.size w)
 have H := h; clear h; unfold spec_DrawStatsOf.f at H
 replace H := bnd3 H; obtain ⟨t490, t491, t492, A2, H⟩ := H; dsimp only at H
 replace H := bnd6 H; obtain ⟨t494, t495, t496, t497, t500, t501, A3, H⟩ := H; dsimp only at H
 replace H := bnd6 H; obtain ⟨t503, t504, t505, t506, t509, t510, A4, H⟩ := H; dsimp only at H
 replace H := sj4 H; obtain ⟨rfl, rfl, rfl, rfl⟩ := H
 go_enter Try.func5, Try.ntmps5
 go_wp2_with (first | ((with_reducible refine gd 2 rfl ?_); refine bxw 2 rfl #[.int .i64 0, .int .i64 0, .int .i64 0] 25 HB ?_; clear HB; intro gb489 w5 BK489 GW489 GE489 HB) | ((with_reducible refine gc 11 rfl ?_); refine gl_ (some 8) Try.func11 #[.slice A0 l0.length c0] rfl ?_; (with_reducible refine (spec_l1New.calls (w0 := w) ?side1 ?side2 ?side3 A2.out).mono ?_); (case side1 => exact bL HB); (case side2 => exact HR0.out); (case side3 => exact HC0.out); rintro e w6 ⟨g493, rfl, hi, hb, hb2⟩; refine ⟨_, rfl, ?_⟩; have HI493 := am hi; have NB493_489 := am (IsS57.ne_blk hi (blk_below (blk_later BK489.out) hb2) (by decide)); have NB489_493 := am (Ne.symm (IsS57.ne_blk hi (blk_below (blk_later BK489.out) hb2) (by decide))); replace BK489 := am (blk_below (blk_later BK489.out) hb2); replace HB := am hb; clear hb hb2 hi) | ((with_reducible refine gc 12 rfl ?_); refine gl_ (some 11) Try.func12 #[.pointer (some ⟨g493, 0, none⟩), .int .i64 9] rfl ?_; (with_reducible refine (spec_l15Draw.calls (w0 := w) ?side1 ?side2 A3.out).mono ?_); (case side1 => exact IsS57.l HI493); (case side2 => repeat (first | (with_reducible first | exact HB.out | apply below_alloc | apply pw_below_drewN | apply below_drew1 | refine below_set ?_ (IsS57.ge HI493.out) | refine below_set ?_ GE489.out) | exact HB.out)); rintro e w7 ⟨v498, rfl, ho0, hi, hb, hk⟩; refine ⟨_, rfl, ?_⟩; have HO499 := am (Kd.R_lower ho0 (below_size (by repeat (first | (with_reducible first | exact HB.out | apply below_alloc | apply pw_below_drewN | apply below_drew1 | refine below_set ?_ (IsS57.ge HI493.out) | refine below_set ?_ GE489.out) | exact HB.out)))); replace BK489 := kbk hk BK489 NB489_493; replace HB := am hb; replace HI493 := am hi; clear hb hk hi ho0) | ((with_reducible refine gd 5 rfl ?_); refine bx_ 5 #[.int .i64 0, .int .i64 0, .int .i64 0] 25 ?_; intro gb502 hg w8 hbox hb; have BK502 := am hbox; have GW502 := am ((by rw [hg]; exact (below_size (by repeat (first | (with_reducible first | exact HB.out | apply below_alloc | apply pw_below_drewN | apply below_drew1 | refine below_set ?_ (IsS57.ge HI493.out) | refine below_set ?_ GE489.out) | exact HB.out))) : w.heap.size ≤ gb502)); have GE502 := GW502; obtain ⟨NB489_502, NB502_489⟩ := nbp (nbl BK489 hg); have NB493_502 := am ((by rw [hg]; exact Nat.ne_of_lt (IsS57.lt (show IsS57 w _ g493 t490 t500 t501 from IsS57.l HI493)) : g493 ≠ gb502)); have NB502_493 := am ((by rw [hg]; exact Nat.ne_of_gt (IsS57.lt (show IsS57 w _ g493 t490 t500 t501 from IsS57.l HI493)) : gb502 ≠ g493)); replace HO499 := rbe HO499 hb; replace BK489 := bkb BK489 hb; replace HB := am (below_step (by repeat (first | (with_reducible first | exact HB.out | apply below_alloc | apply pw_below_drewN | apply below_drew1 | refine below_set ?_ (IsS57.ge HI493.out) | refine below_set ?_ GE489.out) | exact HB.out)) hb); replace HI493 := am (IsS57.below (IsS57.l HI493) hb); clear hb hbox hg; obtain ⟨hnb9, hnc9⟩ := nbo NB502_489; obtain ⟨hnb10, hnc10⟩ := nbo NB502_493; obtain ⟨_, _, _, _, _, _⟩ := cl3 BK502; obtain ⟨Ao12, co12, eo12⟩ := Kd.R_slice HO499.out; subst eo12) | ((with_reducible refine gc 13 rfl ?_); refine gl_ (some 18) Try.func13 #[.pointer (some ⟨g493, 0, none⟩), .agg #[.int .i64 t494, .int .i64 t495, .int .i64 t496], .slice Ao12 t497.length co12] rfl ?_; (with_reducible refine (spec_l15Spoil.calls (w0 := w) ?side1 ?side2 ?side3 ?side4 A4.out).mono ?_); (case side1 => exact IsS57.l HI493); (case side2 => repeat (first | (with_reducible first | exact HB.out | apply below_alloc | apply pw_below_drewN | apply below_drew1 | refine below_set ?_ (IsS57.ge HI493.out) | refine below_set ?_ GE489.out | refine below_set ?_ GE502.out) | exact HB.out)); (case side3 => exact Kd.C_foot_own (IsS57.apart (show IsS57 w _ g493 t490 t500 t501 from IsS57.l HI493) (by (with_reducible repeat (first | apply Kd.R_alloc | apply Kd.R_drewN | apply Kd.R_drew)); exact (Kd.R_mono (Kd.R_far (p := ⟨gb502, 2, none⟩) (Kd.R_far (p := ⟨gb502, 1, none⟩) (Kd.R_far (p := ⟨gb502, 0, none⟩) (Kd.R_types HO499.out BK502.out (by decide)) (fun _ hk => hk.2) (.int .i64 t494)) (fun _ hk => hk.2) (.int .i64 t495)) (fun _ hk => hk.2) (.int .i64 t496)) (fun _ h_ => h_.1))) (by decide)) (fun _ h_ => h_.2)); (case side4 => exact (Kd.R_reads' HO499.out).2.1); rintro e w13 ⟨v507, rfl, ho0, hi, hb, hk⟩; refine ⟨_, rfl, ?_⟩; have HO508 := am (Kd.R_lower (Kd.R_new' ho0 (Kd.R_lt (by (with_reducible repeat (first | apply Kd.R_alloc | apply Kd.R_drewN | apply Kd.R_drew)); exact (Kd.R_mono (Kd.R_far (p := ⟨gb502, 2, none⟩) (Kd.R_far (p := ⟨gb502, 1, none⟩) (Kd.R_far (p := ⟨gb502, 0, none⟩) (Kd.R_types HO499.out BK502.out (by decide)) (fun _ hk => hk.2) (.int .i64 t494)) (fun _ hk => hk.2) (.int .i64 t495)) (fun _ hk => hk.2) (.int .i64 t496)) (fun _ h_ => h_.1))))) (below_size (by repeat (first | (with_reducible first | exact HB.out | apply below_alloc | apply pw_below_drewN | apply below_drew1 | refine below_set ?_ (IsS57.ge HI493.out) | refine below_set ?_ GE489.out | refine below_set ?_ GE502.out) | exact HB.out)))); replace BK489 := kbk hk BK489 NB489_493; replace HO499 := am (Kd.R_mono (Kd.R_told (Kd.R_oldK (IsS57.apart (show IsS57 w _ g493 t490 t500 t501 from IsS57.l HI493) (by (with_reducible repeat (first | apply Kd.R_alloc | apply Kd.R_drewN | apply Kd.R_drew)); exact (Kd.R_mono (Kd.R_far (p := ⟨gb502, 2, none⟩) (Kd.R_far (p := ⟨gb502, 1, none⟩) (Kd.R_far (p := ⟨gb502, 0, none⟩) (Kd.R_types HO499.out BK502.out (by decide)) (fun _ hk => hk.2) (.int .i64 t494)) (fun _ hk => hk.2) (.int .i64 t495)) (fun _ hk => hk.2) (.int .i64 t496)) (fun _ h_ => h_.1))) (by decide)) hk) (Kd.R_base ho0)) (fun _ h_ => h_.1)); replace BK502 := kbo (.cells #[.int .i64 t494, .int .i64 t495, .int .i64 t496] 25 (0, 0)) hk BK502 NB502_493; replace HB := am hb; replace HI493 := am hi; clear hb hk hi ho0; obtain ⟨_, _, _, _, _, _⟩ := cl3 BK502; obtain ⟨hnb15, hnc15⟩ := nbo NB489_493; obtain ⟨_, _, _, _, _, _⟩ := cl3 BK489))
 refine bodyPost_ret (results_ct rfl _ _ gb489 25 #[.int .i64 t503, .int .i64 t504, .int .i64 t505] (0, 0) _ rfl (kL BK489) Try.underlying25 rfl (by kernel_rfl)) rfl ?_
 exact ⟨_, fin_ ⟨by (with_reducible repeat (first | apply Kd.R_alloc | apply Kd.R_drewN | apply Kd.R_drew)); exact Kd.R_mono (Kd.R_far (p := ⟨gb489, 2, none⟩) (Kd.R_far (p := ⟨gb489, 1, none⟩) (Kd.R_far (p := ⟨gb489, 0, none⟩) (Kd.R_far (p := ⟨gb502, 2, none⟩) (Kd.R_far (p := ⟨gb502, 1, none⟩) (Kd.R_far (p := ⟨gb502, 0, none⟩) (Kd.R_types (Kd.R_types HO508.out BK502.out (by decide)) BK489.out (by decide)) (fun _ hk => hk.1.2) (.int .i64 t503)) (fun _ hk => hk.1.2) (.int .i64 t504)) (fun _ hk => hk.1.2) (.int .i64 t505)) (fun _ hk => hk.2) (.int .i64 t503)) (fun _ hk => hk.2) (.int .i64 t504)) (fun _ hk => hk.2) (.int .i64 t505)) (fun _ hk => trivial), by repeat (first | (with_reducible first | exact HB.out | apply below_alloc | apply pw_below_drewN | apply below_drew1 | refine below_set ?_ (IsS57.ge HI493.out) | refine below_set ?_ GE489.out | refine below_set ?_ GE502.out) | exact HB.out)⟩⟩
/-! ### impl_within: function 31 -/
def impl_within.f (a0 : Int) (a1 : Int) (a2 : Int) : Option (Bool) := if a0 ≥ a1 then (some (decide (a0 ≤ a2))) else (some false)
theorem impl_within.calls {a0 a1 a2 : Int} {r : Bool} {w : World} (h : impl_within.f a0 a1 a2 = some r) :
    Calls Try.prog 31 #[.int .i64 a0, .int .i64 a1, .int .i64 a2] w fun e w' => e = .returned (.bool r) ∧ Drawn0 w w' := by
 have H := h; clear h; unfold impl_within.f at H
 replace H := ige H; obtain ⟨c4b0, H⟩ | ⟨c4b0, H⟩ := H
 · obtain rfl := Option.some.inj H
   go_enter Try.func31, Try.ntmps31
   go_wp2
   go_ret
   exact ⟨sr, drl⟩
 obtain rfl := Option.some.inj H
 go_enter Try.func31, Try.ntmps31
 go_wp2
 go_ret
 exact ⟨sr, drl⟩
/-! ### impl_isInt32: function 37 -/
def impl_isInt32.f (a0 : Int) : Option (Bool) := (impl_within.f a0 (-2147483648) 2147483647).bind fun t511 => (some t511)
theorem impl_isInt32.calls {a0 : Int} {r : Bool} {w : World} (h : impl_isInt32.f a0 = some r) :
    Calls Try.prog 37 #[.int .i64 a0] w fun e w' => e = .returned (.bool r) ∧ Drawn0 w w' := by
 have H := h; clear h; unfold impl_isInt32.f at H
 replace H := bnd H; obtain ⟨t511, A2, H⟩ := H
 obtain rfl := Option.some.inj H
 go_enter Try.func37, Try.ntmps37
 go_wp2_with (first | ((with_reducible refine gc 31 rfl ?_); refine gc1 (some 4) Try.func31 rfl (impl_within.calls A2.out) ?_; rintro w' ⟨nd, rfl⟩))
 go_ret
 exact ⟨sr, drl⟩
/-! ### impl_ValOk: function 18 -/
def impl_ValOk.f (a0 : Int) (a1_0 : Int) (a1_1 : ByteArray) : Option (Bool) := if a0 = 0 then ((impl_within.f a1_0 0 1).bind fun t513 => (if t513 = true then (some (a1_1.toList == ([] : List UInt8))) else (some false))) else (if a0 = 1 then ((impl_isInt32.f a1_0).bind fun t514 => (if t514 = true then (some (a1_1.toList == ([] : List UInt8))) else (some false))) else (if a0 = 2 then (some (a1_1.toList == ([] : List UInt8))) else (if a0 = 5 then (some (a1_1.toList == ([] : List UInt8))) else (if a0 = 6 then (if a1_0 = 0 then (some (decide ((a1_1.size : Int) ≤ 40))) else (some false)) else (some false)))))
theorem impl_ValOk.calls {a0 a1_0 : Int} {a1_1 : ByteArray} {r : Bool} {w : World} (h : impl_ValOk.f a0 a1_0 a1_1 = some r) :
    Calls Try.prog 18 #[.int .i64 a0, .agg #[.int .i64 a1_0, .string a1_1]] w fun e w' => e = .returned (.bool r) ∧ Below w.heap.size w w' := by
 have hu30 := Try.underlying30
 have HB := am (Below.refl w.heap.size w)
 have H := h; clear h; unfold impl_ValOk.f at H
 replace H := ieq H; obtain ⟨c3b0, c3b1, H⟩ | ⟨c3, c3b0, c3b1, H⟩ := H
 · replace H := bnd H; obtain ⟨t513, A4, H⟩ := H
   replace H := ibt H; obtain ⟨rfl, H⟩ | ⟨rfl, H⟩ := H
   · obtain rfl := Option.some.inj H
     go_enter Try.func18, Try.ntmps18
     go_wp2_with (first | ((with_reducible refine gd 3 rfl ?_); (try refine gg ?_; dsimp only); refine bxw 3 rfl #[.int .i64 a1_0, .string a1_1] 30 HB ?_; clear HB; intro gb512 w6 BK512 GW512 GE512 HB; obtain ⟨_, _, _, _⟩ := cl2 BK512) | ((with_reducible refine gc 31 rfl ?_); refine gc1 (some 10) Try.func31 rfl (impl_within.calls A4.out) ?_; rintro w' ⟨nd, rfl⟩))
     go_ret
     exact fin_ (bL HB)
   obtain rfl := Option.some.inj H
   go_enter Try.func18, Try.ntmps18
   go_wp2_with (first | ((with_reducible refine gd 3 rfl ?_); (try refine gg ?_; dsimp only); refine bxw 3 rfl #[.int .i64 a1_0, .string a1_1] 30 HB ?_; clear HB; intro gb512 w8 BK512 GW512 GE512 HB; obtain ⟨_, _, _, _⟩ := cl2 BK512) | ((with_reducible refine gc 31 rfl ?_); refine gc1 (some 10) Try.func31 rfl (impl_within.calls A4.out) ?_; rintro w' ⟨nd, rfl⟩))
   go_ret
   exact fin_ (bL HB)
 replace H := ieq H; obtain ⟨c10b0, c10b1, H⟩ | ⟨c10, c10b0, c10b1, H⟩ := H
 · replace H := bnd H; obtain ⟨t514, A11, H⟩ := H
   replace H := ibt H; obtain ⟨rfl, H⟩ | ⟨rfl, H⟩ := H
   · obtain rfl := Option.some.inj H
     go_enter Try.func18, Try.ntmps18
     go_wp2_with (first | ((with_reducible refine gd 3 rfl ?_); (try refine gg ?_; dsimp only); refine bxw 3 rfl #[.int .i64 a1_0, .string a1_1] 30 HB ?_; clear HB; intro gb512 w13 BK512 GW512 GE512 HB; obtain ⟨_, _, _, _⟩ := cl2 BK512) | ((with_reducible refine gc 37 rfl ?_); refine gc1 (some 20) Try.func37 rfl (impl_isInt32.calls A11.out) ?_; rintro w' ⟨nd, rfl⟩))
     go_ret
     exact fin_ (bL HB)
   obtain rfl := Option.some.inj H
   go_enter Try.func18, Try.ntmps18
   go_wp2_with (first | ((with_reducible refine gd 3 rfl ?_); (try refine gg ?_; dsimp only); refine bxw 3 rfl #[.int .i64 a1_0, .string a1_1] 30 HB ?_; clear HB; intro gb512 w15 BK512 GW512 GE512 HB; obtain ⟨_, _, _, _⟩ := cl2 BK512) | ((with_reducible refine gc 37 rfl ?_); refine gc1 (some 20) Try.func37 rfl (impl_isInt32.calls A11.out) ?_; rintro w' ⟨nd, rfl⟩))
   go_ret
   exact fin_ (bL HB)
 replace H := ieq H; obtain ⟨c17b0, c17b1, H⟩ | ⟨c17, c17b0, c17b1, H⟩ := H
 · obtain rfl := Option.some.inj H
   go_enter Try.func18, Try.ntmps18
   go_wp2_with (first | ((with_reducible refine gd 3 rfl ?_); (try refine gg ?_; dsimp only); refine bxw 3 rfl #[.int .i64 a1_0, .string a1_1] 30 HB ?_; clear HB; intro gb512 w18 BK512 GW512 GE512 HB; obtain ⟨_, _, _, _⟩ := cl2 BK512))
   go_ret
   exact fin_ (bL HB)
 replace H := ieq H; obtain ⟨c20b0, c20b1, H⟩ | ⟨c20, c20b0, c20b1, H⟩ := H
 · obtain rfl := Option.some.inj H
   go_enter Try.func18, Try.ntmps18
   go_wp2_with (first | ((with_reducible refine gd 3 rfl ?_); (try refine gg ?_; dsimp only); refine bxw 3 rfl #[.int .i64 a1_0, .string a1_1] 30 HB ?_; clear HB; intro gb512 w21 BK512 GW512 GE512 HB; obtain ⟨_, _, _, _⟩ := cl2 BK512))
   go_ret
   exact fin_ (bL HB)
 replace H := ieq H; obtain ⟨c23b0, c23b1, H⟩ | ⟨c23, c23b0, c23b1, H⟩ := H
 rotate_left
 · obtain rfl := Option.some.inj H
   go_enter Try.func18, Try.ntmps18
   go_wp2_with (first | ((with_reducible refine gd 3 rfl ?_); (try refine gg ?_; dsimp only); refine bxw 3 rfl #[.int .i64 a1_0, .string a1_1] 30 HB ?_; clear HB; intro gb512 w29 BK512 GW512 GE512 HB))
   go_ret
   exact fin_ (bL HB)
 replace H := ieq H; obtain ⟨c24b0, c24b1, H⟩ | ⟨c24, c24b0, c24b1, H⟩ := H
 · obtain rfl := Option.some.inj H
   go_enter Try.func18, Try.ntmps18
   go_wp2_with (first | ((with_reducible refine gd 3 rfl ?_); (try refine gg ?_; dsimp only); refine bxw 3 rfl #[.int .i64 a1_0, .string a1_1] 30 HB ?_; clear HB; intro gb512 w25 BK512 GW512 GE512 HB; obtain ⟨_, _, _, _⟩ := cl2 BK512))
   go_ret
   exact fin_ (bL HB)
 obtain rfl := Option.some.inj H
 go_enter Try.func18, Try.ntmps18
 go_wp2_with (first | ((with_reducible refine gd 3 rfl ?_); (try refine gg ?_; dsimp only); refine bxw 3 rfl #[.int .i64 a1_0, .string a1_1] 30 HB ?_; clear HB; intro gb512 w27 BK512 GW512 GE512 HB; obtain ⟨_, _, _, _⟩ := cl2 BK512))
 go_ret
 exact fin_ (bL HB)
/-! ### impl_FloatKey: function 19 -/
def impl_FloatKey.f (a0 : Int) : Option (Int) := if a0 < 0 then (some (Go.bits .xor .i64 a0 9223372036854775807)) else (some a0)
theorem impl_FloatKey.calls {a0 r : Int} {w : World} (h : impl_FloatKey.f a0 = some r) :
    Calls Try.prog 19 #[.int .i64 a0] w fun e w' => e = .returned (.int .i64 r) ∧ Drawn0 w w' := by
 have H := h; clear h; unfold impl_FloatKey.f at H
 replace H := idc H; obtain ⟨c2b0, H⟩ | ⟨c2b0, H⟩ := H
 · obtain rfl := Option.some.inj H
   go_enter Try.func19, Try.ntmps19
   go_wp2
   go_ret
   exact ⟨sr, drl⟩
 obtain rfl := Option.some.inj H
 go_enter Try.func19, Try.ntmps19
 go_wp2
 go_ret
 exact ⟨sr, drl⟩
/-! ### impl_ValLess: function 8 -/
def impl_ValLess.j0 : Nat → Int → Bool → Int → ByteArray → Int → ByteArray → Option (Bool)
  | 0, _, _, _, _, _, _ => none
  | k + 1, x0, x16, x516000, x516001, x517000, x517001 => if x16 = true then (some false) else (if x0 = 5 then ((impl_FloatKey.f x516000).bind fun t519 => ((impl_FloatKey.f x517000).bind fun t520 => (some (decide (t519 < t520))))) else (if x0 = 6 then (some (Op.bytesLess x516001.toList x517001.toList)) else (some (decide (x516000 < x517000)))))
def impl_ValLess.f (k : Nat) (a0 : Int) (a1_0 : Int) (a1_1 : ByteArray) (a2_0 : Int) (a2_1 : ByteArray) : Option (Bool) := (impl_ValOk.f a0 a1_0 a1_1).bind fun t517 => (if t517 = true then ((impl_ValOk.f a0 a2_0 a2_1).bind fun t518 => (impl_ValLess.j0 k a0 (!t518) a1_0 a1_1 a2_0 a2_1)) else (impl_ValLess.j0 k a0 true a1_0 a1_1 a2_0 a2_1))
theorem impl_ValLess.calls {k : Nat} {a0 a1_0 : Int} {a1_1 : ByteArray} {a2_0 : Int} {a2_1 : ByteArray} {r : Bool} {w : World} (h : impl_ValLess.f k a0 a1_0 a1_1 a2_0 a2_1 = some r) :
    Calls Try.prog 8 #[.int .i64 a0, .agg #[.int .i64 a1_0, .string a1_1], .agg #[.int .i64 a2_0, .string a2_1]] w fun e w' => e = .returned (.bool r) ∧ Below w.heap.size w w' := by
 have hu30 := Try.underlying30
 have HB := am (Below.refl w.heap.size w)
 have H := h; clear h; unfold impl_ValLess.f at H
 have HC4 := am H
 clear H
 go_enter Try.func8, Try.ntmps8
 go_upto_region 1 with (first | ((with_reducible refine gd 4 rfl ?_); refine bxw 4 rfl #[.int .i64 a1_0, .string a1_1] 30 HB ?_; clear HB; intro gb515 w5 BK515 GW515 GE515 HB) | ((with_reducible refine gd 5 rfl ?_); refine bxv 5 rfl #[.int .i64 a2_0, .string a2_1] 30 HB ?_; clear HB; intro gb516 w6 BK516 GW516 GE516 HB hg hb; obtain ⟨NB515_516, NB516_515⟩ := nbp (nbl BK515 hg); replace BK515 := bkb BK515 hb; clear hg hb))
 repeat (go_quiet (fail); go_upto_region 1 with (first | ((with_reducible refine gd 4 rfl ?_); refine bxw 4 rfl #[.int .i64 a1_0, .string a1_1] 30 HB ?_; clear HB; intro gb515 w5 BK515 GW515 GE515 HB) | ((with_reducible refine gd 5 rfl ?_); refine bxv 5 rfl #[.int .i64 a2_0, .string a2_1] 30 HB ?_; clear HB; intro gb516 w6 BK516 GW516 GE516 HB hg hb; obtain ⟨NB515_516, NB516_515⟩ := nbp (nbl BK515 hg); replace BK515 := bkb BK515 hb; clear hg hb)))
 (try simp only [Act.put, List.setIfInBounds_toArray, List.set_cons_zero, List.set_cons_succ])
 go_cut [16] (fun v16 wc => ∃ (kq : Nat) (x16_3 : Bool), v16 = .bool x16_3 ∧ Aside0 (impl_ValLess.j0 kq a0 x16_3 a1_0 a1_1 a2_0 a2_1 = some r) ∧ Aside0 (kq ≤ k) ∧ Aside0 (wc.heap[gb515]? = some (.cells #[.int .i64 a1_0, .string a1_1] 30 (0, 0))) ∧ Aside0 (wc.heap[gb516]? = some (.cells #[.int .i64 a2_0, .string a2_1] 30 (0, 0))) ∧ Aside0 (Below w.heap.size w wc))
 case first =>
  have H := HC4.out
  clear HC4
  replace H := bnd H; obtain ⟨t517, A7, H⟩ := H
  replace H := ibt H; obtain ⟨rfl, H⟩ | ⟨rfl, H⟩ := H
  rotate_left
  · have H' := am H; clear H
    obtain ⟨hnb15, hnc15⟩ := nbo NB515_516
    obtain ⟨_, _, _, _⟩ := cl2 BK515
    iterate 6 (try go_wp2_with (first | (go_at_call 18; (with_reducible refine (impl_ValOk.calls A7.out).mono ?_); rintro e w17 ⟨rfl, hb⟩; replace BK515 := bkb BK515 hb; replace BK516 := bkb BK516 hb; replace HB := bst HB hb; clear hb)); try go_quiet (fail))
    go_meet
    case rel => exact ⟨_, (true), sr, H', ⟨by first | omega | exact Nat.le_refl _⟩, ⟨kL BK515⟩, ⟨kL BK516⟩, ⟨bL HB⟩⟩
  replace H := bnd H; obtain ⟨t518, A9, H⟩ := H
  have H' := am H; clear H
  obtain ⟨hnb10, hnc10⟩ := nbo NB515_516
  obtain ⟨_, _, _, _⟩ := cl2 BK515
  iterate 6 (try go_wp2_with (first | (go_at_call 18; (with_reducible refine (impl_ValOk.calls A7.out).mono ?_); rintro e w12 ⟨rfl, hb⟩; replace BK515 := bkb BK515 hb; replace BK516 := bkb BK516 hb; replace HB := bst HB hb; clear hb; obtain ⟨hcz13_0, hcz13_1, hfz13_0, hfz13_1⟩ := cl2 BK516) | (go_at_call 18; (with_reducible refine (impl_ValOk.calls A9.out).mono ?_); rintro e w14 ⟨rfl, hb⟩; replace BK515 := bkb BK515 hb; replace BK516 := bkb BK516 hb; replace HB := bst HB hb; clear hb)); try go_quiet (fail))
  go_meet
  case rel => exact ⟨_, (!t518), sr, H', ⟨by first | omega | exact Nat.le_refl _⟩, ⟨kL BK515⟩, ⟨kL BK516⟩, ⟨bL HB⟩⟩
 clear HC4
 obtain ⟨kq, x16_3, rfl, HA, HJ3, BK515, BK516, HB⟩ := hcut
 cases kq with
 | zero => exact absurd HA.out (by simp [impl_ValLess.j0])
 | succ kj3 => ?_
 have H := HA.out
 clear HA
 simp only [impl_ValLess.j0] at H
 replace H := ibt H; obtain ⟨rfl, H⟩ | ⟨rfl, H⟩ := H
 · obtain rfl := Option.some.inj H
   go_wp2
   repeat (go_quiet (fail); try go_wp2)
   go_ret
   exact fin_ (bL HB)
 replace H := ieq H; obtain ⟨c19b0, c19b1, H⟩ | ⟨c19, c19b0, c19b1, H⟩ := H
 rotate_left
 · replace H := ieq H; obtain ⟨c25b0, c25b1, H⟩ | ⟨c25, c25b0, c25b1, H⟩ := H
   · obtain rfl := Option.some.inj H
     obtain ⟨hnb26, hnc26⟩ := nbo NB515_516
     obtain ⟨_, _, _, _⟩ := cl2 BK515
     obtain ⟨_, _, _, _⟩ := cl2 BK516
     go_wp2
     repeat (go_quiet (fail); try go_wp2)
     go_ret
     exact fin_ (bL HB)
   obtain rfl := Option.some.inj H
   obtain ⟨hnb29, hnc29⟩ := nbo NB515_516
   obtain ⟨_, _, _, _⟩ := cl2 BK515
   obtain ⟨_, _, _, _⟩ := cl2 BK516
   go_wp2
   repeat (go_quiet (fail); try go_wp2)
   go_ret
   exact fin_ (bL HB)
 replace H := bnd H; obtain ⟨t519, A20, H⟩ := H
 replace H := bnd H; obtain ⟨t520, A21, H⟩ := H
 obtain rfl := Option.some.inj H
 obtain ⟨hnb22, hnc22⟩ := nbo NB515_516
 obtain ⟨_, _, _, _⟩ := cl2 BK515
 iterate 6 (try go_wp2_with (first | (go_at_call 19; (with_reducible refine (impl_FloatKey.calls A20.out).mono ?_); rintro e w' ⟨rfl, ⟨nd, rfl⟩⟩; (try exact dn2); obtain ⟨hcz24_0, hcz24_1, hfz24_0, hfz24_1⟩ := cl2 BK516) | (go_at_call 19; (with_reducible refine (impl_FloatKey.calls A21.out).mono ?_); rintro e w' ⟨rfl, ⟨nd, rfl⟩⟩; (try exact dn2))); try go_quiet (first | (go_at_call 19; (with_reducible refine (impl_FloatKey.calls A20.out).mono ?_); rintro e w' ⟨rfl, ⟨nd, rfl⟩⟩; (try exact dn2); obtain ⟨hcz24_0, hcz24_1, hfz24_0, hfz24_1⟩ := cl2 BK516) | (go_at_call 19; (with_reducible refine (impl_FloatKey.calls A21.out).mono ?_); rintro e w' ⟨rfl, ⟨nd, rfl⟩⟩; (try exact dn2))))
 go_ret
 exact fin_ (bL HB)
/-! ### impl_TypeOk: function 30 -/
def impl_TypeOk.f (a0 : Int) : Option (Bool) := (impl_within.f a0 0 2).bind fun t521 => (if t521 = true then (some true) else (if a0 = 5 then (some true) else (some (a0 == 6))))
theorem impl_TypeOk.calls {a0 : Int} {r : Bool} {w : World} (h : impl_TypeOk.f a0 = some r) :
    Calls Try.prog 30 #[.int .i64 a0] w fun e w' => e = .returned (.bool r) ∧ Drawn0 w w' := by
 have H := h; clear h; unfold impl_TypeOk.f at H
 replace H := bnd H; obtain ⟨t521, A2, H⟩ := H
 replace H := ibt H; obtain ⟨rfl, H⟩ | ⟨rfl, H⟩ := H
 · obtain rfl := Option.some.inj H
   go_enter Try.func30, Try.ntmps30
   go_wp2_with (first | ((with_reducible refine gc 31 rfl ?_); refine gc1 (some 4) Try.func31 rfl (impl_within.calls A2.out) ?_; rintro w' ⟨nd, rfl⟩))
   go_ret
   exact ⟨sr, drl⟩
 replace H := ieq H; obtain ⟨c4b0, c4b1, H⟩ | ⟨c4, c4b0, c4b1, H⟩ := H
 · obtain rfl := Option.some.inj H
   go_enter Try.func30, Try.ntmps30
   go_wp2_with (first | ((with_reducible refine gc 31 rfl ?_); refine gc1 (some 4) Try.func31 rfl (impl_within.calls A2.out) ?_; rintro w' ⟨nd, rfl⟩))
   go_ret
   exact ⟨sr, drl⟩
 obtain rfl := Option.some.inj H
 go_enter Try.func30, Try.ntmps30
 go_wp2_with (first | ((with_reducible refine gc 31 rfl ?_); refine gc1 (some 4) Try.func31 rfl (impl_within.calls A2.out) ?_; rintro w' ⟨nd, rfl⟩))
 go_ret
 exact ⟨sr, drl⟩
/-! ### impl_LeafOk: function 14 -/
def impl_LeafOk.f (a0_0 : Int) (a0_1 : Int) (a0_2 : Int) : Option (Bool) := (impl_TypeOk.f a0_0).bind fun t523 => (if t523 = true then ((impl_within.f a0_2 0 6).bind fun t524 => (if t524 = true then ((impl_within.f a0_1 0 a0_2).bind fun t525 => (some t525)) else (some false))) else (some false))
theorem impl_LeafOk.calls {a0_0 a0_1 a0_2 : Int} {r : Bool} {w : World} (h : impl_LeafOk.f a0_0 a0_1 a0_2 = some r) :
    Calls Try.prog 14 #[.agg #[.int .i64 a0_0, .int .i64 a0_1, .int .i64 a0_2]] w fun e w' => e = .returned (.bool r) ∧ Below w.heap.size w w' := by
 have hu25 := Try.underlying25
 have HB := am (Below.refl w.heap.size w)
 have H := h; clear h; unfold impl_LeafOk.f at H
 replace H := bnd H; obtain ⟨t523, A2, H⟩ := H
 replace H := ibt H; obtain ⟨rfl, H⟩ | ⟨rfl, H⟩ := H
 rotate_left
 · obtain rfl := Option.some.inj H
   go_enter Try.func14, Try.ntmps14
   go_wp2_with (first | ((with_reducible refine gd 1 rfl ?_); refine bxw 1 rfl #[.int .i64 a0_0, .int .i64 a0_1, .int .i64 a0_2] 25 HB ?_; clear HB; intro gb522 w11 BK522 GW522 GE522 HB; obtain ⟨_, _, _, _, _, _⟩ := cl3 BK522) | ((with_reducible refine gc 30 rfl ?_); refine gc1 (some 5) Try.func30 rfl (impl_TypeOk.calls A2.out) ?_; rintro w' ⟨nd, rfl⟩))
   go_ret
   exact fin_ (bL HB)
 replace H := bnd H; obtain ⟨t524, A4, H⟩ := H
 replace H := ibt H; obtain ⟨rfl, H⟩ | ⟨rfl, H⟩ := H
 rotate_left
 · obtain rfl := Option.some.inj H
   go_enter Try.func14, Try.ntmps14
   go_wp2_with (first | ((with_reducible refine gd 1 rfl ?_); refine bxw 1 rfl #[.int .i64 a0_0, .int .i64 a0_1, .int .i64 a0_2] 25 HB ?_; clear HB; intro gb522 w9 BK522 GW522 GE522 HB; obtain ⟨_, _, _, _, _, _⟩ := cl3 BK522) | ((with_reducible refine gc 30 rfl ?_); refine gc1 (some 5) Try.func30 rfl (impl_TypeOk.calls A2.out) ?_; rintro w' ⟨nd, rfl⟩) | (go_at_call 31; (with_reducible refine (impl_within.calls A4.out).mono ?_); rintro e w' ⟨rfl, ⟨nd, rfl⟩⟩))
   go_ret
   exact fin_ (bL HB)
 replace H := bnd H; obtain ⟨t525, A6, H⟩ := H
 obtain rfl := Option.some.inj H
 go_enter Try.func14, Try.ntmps14
 go_wp2_with (first | ((with_reducible refine gd 1 rfl ?_); refine bxw 1 rfl #[.int .i64 a0_0, .int .i64 a0_1, .int .i64 a0_2] 25 HB ?_; clear HB; intro gb522 w7 BK522 GW522 GE522 HB; obtain ⟨_, _, _, _, _, _⟩ := cl3 BK522) | ((with_reducible refine gc 30 rfl ?_); refine gc1 (some 5) Try.func30 rfl (impl_TypeOk.calls A2.out) ?_; rintro w' ⟨nd, rfl⟩) | (go_at_call 31; (with_reducible refine (impl_within.calls A4.out).mono ?_); rintro e w' ⟨rfl, ⟨nd, rfl⟩⟩) | (go_at_call 31; (with_reducible refine (impl_within.calls A6.out).mono ?_); rintro e w' ⟨rfl, ⟨nd, rfl⟩⟩))
 go_ret
 exact fin_ (bL HB)
/-! ### impl_tripleOk: function 32 -/
def impl_tripleOk.j0 : Nat → Bool → Int → Int → Int → Int → Int → Int → ByteArray → Option (Bool)
  | 0, _, _, _, _, _, _, _, _ => none
  | k + 1, x18, x527000, x527001, x527002, x528000, x528001, x528002, x528003 => if x18 = true then (some false) else (if x528001 = x527002 then ((impl_ValOk.f x527000 x528002 x528003).bind fun t530 => (some t530)) else (some (x528002 == 0 && (x528003.toList == ([] : List UInt8)))))
def impl_tripleOk.f (k : Nat) (a0_0 : Int) (a0_1 : Int) (a0_2 : Int) (a1_0 : Int) (a1_1 : Int) (a1_2 : Int) (a1_3 : ByteArray) : Option (Bool) := (impl_within.f a1_0 0 a0_1).bind fun t528 => (if t528 = true then ((impl_within.f a1_1 0 a0_2).bind fun t529 => (impl_tripleOk.j0 k (!t529) a0_0 a0_1 a0_2 a1_0 a1_1 a1_2 a1_3)) else (impl_tripleOk.j0 k true a0_0 a0_1 a0_2 a1_0 a1_1 a1_2 a1_3))
theorem impl_tripleOk.calls {k : Nat} {a0_0 a0_1 a0_2 a1_0 a1_1 a1_2 : Int} {a1_3 : ByteArray} {r : Bool} {w : World} (h : impl_tripleOk.f k a0_0 a0_1 a0_2 a1_0 a1_1 a1_2 a1_3 = some r) :
    Calls Try.prog 32 #[.agg #[.int .i64 a0_0, .int .i64 a0_1, .int .i64 a0_2], .agg #[.int .i64 a1_0, .int .i64 a1_1, .int .i64 a1_2, .string a1_3]] w fun e w' => e = .returned (.bool r) ∧ Below w.heap.size w w' := by
 have hu25 := Try.underlying25
 have hu36 := Try.underlying36
 have hu30 := Try.underlying30
 have HB := am (Below.refl w.heap.size w)
 have H := h; clear h; unfold impl_tripleOk.f at H
 have HC3 := am H
 clear H
 go_enter Try.func32, Try.ntmps32
 go_upto_region 1 with (first | ((with_reducible refine gd 2 rfl ?_); refine bxw 2 rfl #[.int .i64 a0_0, .int .i64 a0_1, .int .i64 a0_2] 25 HB ?_; clear HB; intro gb526 w4 BK526 GW526 GE526 HB) | ((with_reducible refine gd 3 rfl ?_); refine bxv 3 rfl #[.int .i64 a1_0, .int .i64 a1_1, .int .i64 a1_2, .string a1_3] 36 HB ?_; clear HB; intro gb527 w5 BK527 GW527 GE527 HB hg hb; obtain ⟨NB526_527, NB527_526⟩ := nbp (nbl BK526 hg); replace BK526 := bkb BK526 hb; clear hg hb))
 (try simp only [Act.put, List.setIfInBounds_toArray, List.set_cons_zero, List.set_cons_succ])
 go_cut [18] (fun v18 wc => ∃ (kq : Nat) (x18_2 : Bool), v18 = .bool x18_2 ∧ Aside0 (impl_tripleOk.j0 kq x18_2 a0_0 a0_1 a0_2 a1_0 a1_1 a1_2 a1_3 = some r) ∧ Aside0 (kq ≤ k) ∧ Aside0 (wc.heap[gb526]? = some (.cells #[.int .i64 a0_0, .int .i64 a0_1, .int .i64 a0_2] 25 (0, 0))) ∧ Aside0 (wc.heap[gb527]? = some (.cells #[.int .i64 a1_0, .int .i64 a1_1, .int .i64 a1_2, .string a1_3] 36 (0, 0))) ∧ Aside0 (Below w.heap.size w wc))
 case first =>
  have H := HC3.out
  clear HC3
  replace H := bnd H; obtain ⟨t528, A6, H⟩ := H
  replace H := ibt H; obtain ⟨rfl, H⟩ | ⟨rfl, H⟩ := H
  rotate_left
  · have H' := am H; clear H
    obtain ⟨hnb12, hnc12⟩ := nbo NB527_526
    obtain ⟨_, _, _, _, _, _, _, _⟩ := cl4 BK527
    obtain ⟨_, _, _, _, _, _⟩ := cl3 BK526
    go_wp2_with (first | ((with_reducible refine gc 31 rfl ?_); refine gc1 (some 9) Try.func31 rfl (impl_within.calls A6.out) ?_; rintro w' ⟨nd, rfl⟩))
    go_meet
    case rel => exact ⟨_, (true), sr, H', ⟨by first | omega | exact Nat.le_refl _⟩, ⟨kL BK526⟩, ⟨kL BK527⟩, ⟨bL HB⟩⟩
  replace H := bnd H; obtain ⟨t529, A8, H⟩ := H
  have H' := am H; clear H
  obtain ⟨hnb9, hnc9⟩ := nbo NB527_526
  obtain ⟨_, _, _, _, _, _, _, _⟩ := cl4 BK527
  obtain ⟨_, _, _, _, _, _⟩ := cl3 BK526
  go_wp2_with (first | ((with_reducible refine gc 31 rfl ?_); refine gc1 (some 9) Try.func31 rfl (impl_within.calls A6.out) ?_; rintro w' ⟨nd, rfl⟩) | (go_at_call 31; (with_reducible refine (impl_within.calls A8.out).mono ?_); rintro e w' ⟨rfl, ⟨nd, rfl⟩⟩))
  go_meet
  case rel => exact ⟨_, (!t529), sr, H', ⟨by first | omega | exact Nat.le_refl _⟩, ⟨kL BK526⟩, ⟨kL BK527⟩, ⟨bL HB⟩⟩
 clear HC3
 obtain ⟨kq, x18_2, rfl, HA, HJ2, BK526, BK527, HB⟩ := hcut
 cases kq with
 | zero => exact absurd HA.out (by simp [impl_tripleOk.j0])
 | succ kj2 => ?_
 have H := HA.out
 clear HA
 simp only [impl_tripleOk.j0] at H
 replace H := ibt H; obtain ⟨rfl, H⟩ | ⟨rfl, H⟩ := H
 · obtain rfl := Option.some.inj H
   go_wp2
   go_ret
   exact fin_ (bL HB)
 replace H := ieq H; obtain ⟨c16b0, c16b1, H⟩ | ⟨c16, c16b0, c16b1, H⟩ := H
 rotate_left
 · obtain rfl := Option.some.inj H
   obtain ⟨hnb22, hnc22⟩ := nbo NB527_526
   obtain ⟨_, _, _, _, _, _, _, _⟩ := cl4 BK527
   obtain ⟨_, _, _, _, _, _⟩ := cl3 BK526
   go_wp2
   go_ret
   exact fin_ (bL HB)
 replace H := bnd H; obtain ⟨t530, A17, H⟩ := H
 obtain rfl := Option.some.inj H
 obtain ⟨hnb18, hnc18⟩ := nbo NB527_526
 obtain ⟨_, _, _, _, _, _, _, _⟩ := cl4 BK527
 obtain ⟨_, _, _, _, _, _⟩ := cl3 BK526
 go_wp2_with (first | ((with_reducible refine gc 18 rfl ?_); refine gc1 (some 28) Try.func18 rfl (impl_ValOk.calls A17.out) ?_; rintro w21 hb; replace BK526 := bkb BK526 hb; replace BK527 := bkb BK527 hb; replace HB := bst HB hb; clear hb))
 go_ret
 exact fin_ (bL HB)
/-! ### impl_triplesRight: function 15 -/
def impl_triplesRight.l0 : Nat → List (S36) → List (S36) → Int → Int → Int → Int → Int → Option (Bool)
  | 0, _, _, _, _, _, _, _ => none
  | k + 1, x1, x7, x8, x9, x532000, x532001, x532002 => if x9 < x8 then (if 0 ≤ x9 then (if x9 < (x7.length : Int) then ((impl_tripleOk.f k x532000 x532001 x532002 ((rd_T36 x7 x9).f0) ((rd_T36 x7 x9).f1) ((rd_T36 x7 x9).f2.f0) ((rd_T36 x7 x9).f2.f1)).bind fun t534 => (if t534 = true then (impl_triplesRight.l0 k x1 x7 x8 (wrap64 (x9 + 1)) x532000 x532001 x532002) else (some false))) else (none)) else (none)) else (some (decide ((x1.length : Int) ≤ 2000)))
def impl_triplesRight.f (k : Nat) (a0_0 : Int) (a0_1 : Int) (a0_2 : Int) (l1 : List (S36)) : Option (Bool) := impl_triplesRight.l0 k l1 l1 (l1.length : Int) 0 a0_0 a0_1 a0_2
theorem impl_triplesRight.calls {k : Nat} {a0_0 a0_1 a0_2 : Int} {A1 : Option Addr} {c1 : Nat} {l1 : List (S36)} {r : Bool} {w : World} (hr1 : Kd.C k36 w A1 l1.length l1) (hc1 : l1.length ≤ c1) (h : impl_triplesRight.f k a0_0 a0_1 a0_2 l1 = some r) :
    Calls Try.prog 15 #[.agg #[.int .i64 a0_0, .int .i64 a0_1, .int .i64 a0_2], .slice A1 l1.length c1] w fun e w' => e = .returned (.bool r) ∧ Below w.heap.size w w' := by
 have hu25 := Try.underlying25
 have hu36 := Try.underlying36
 have HR1 := am hr1
 have HC1 := am hc1
 clear hr1 hc1
 have HB := am (Below.refl w.heap.size w)
 have H := h; clear h; unfold impl_triplesRight.f at H
 have H' := am H; clear H
 go_enter Try.func15, Try.ntmps15
 go_wp2_with (first | ((with_reducible refine gd 2 rfl ?_); refine bxw 2 rfl #[.int .i64 a0_0, .int .i64 a0_1, .int .i64 a0_2] 25 HB ?_; clear HB; intro gb531 w3 BK531 GW531 GE531 HB))
 go_loopg [9] k (fun kq v9 w' => ∃ (x9_1 : Int), v9 = .int .i64 x9_1 ∧ Aside0 (impl_triplesRight.l0 kq l1 l1 (l1.length : Int) x9_1 a0_0 a0_1 a0_2 = some r) ∧ Aside0 (kq ≤ k) ∧ Aside0 (w'.heap[gb531]? = some (.cells #[.int .i64 a0_0, .int .i64 a0_1, .int .i64 a0_2] 25 (0, 0))) ∧ Aside0 (Below w.heap.size w w'))
 case atStart => exact ⟨(0), sr, H', ⟨Nat.le_refl _⟩, ⟨kL BK531⟩, ⟨bL HB⟩⟩
 clear H'
 try clear c1
 obtain ⟨x9_1, rfl, HA, HK1, BK531, HB⟩ := hrel
 cases gk with
 | zero => exact absurd HA.out (by simp [impl_triplesRight.l0])
 | succ k1 => ?_
 have H := HA.out
 clear HA
 simp only [impl_triplesRight.l0] at H
 replace H := idc H; obtain ⟨c4b0, H⟩ | ⟨c4b0, H⟩ := H
 rotate_left
 · obtain rfl := Option.some.inj H
   go_wp2
   go_ret
   exact fin_ (bL HB)
 replace H := if_dd H; obtain ⟨c5b0, c6b0, H⟩ := H
 replace H := bnd H; obtain ⟨t534, A7, H⟩ := H
 replace H := ibt H; obtain ⟨rfl, H⟩ | ⟨rfl, H⟩ := H
 rotate_left
 · obtain rfl := Option.some.inj H
   obtain ⟨p532, q532, ad532, e532, hx532_0, hx532_1, hx532_2, hx532_3⟩ := at_T36b HB HR1 x9_1; cases e532
   go_wp2_with (first | ((with_reducible refine gd 6 rfl ?_); refine bxv 6 rfl #[.int .i64 0, .int .i64 0, .int .i64 0, .string ⟨#[]⟩] 36 HB ?_; clear HB; intro gb533 w14 BK533 GW533 GE533 HB hg hb; obtain ⟨NB531_533, NB533_531⟩ := nbp (nbl BK531 hg); replace BK531 := bkb BK531 hb; clear hg hb; obtain ⟨hnb15, hnc15⟩ := nbo NB533_531; obtain ⟨_, _, _, _, _, _, _, _⟩ := cl4 BK533; obtain ⟨_, _, _, _, _, _⟩ := cl3 BK531) | ((with_reducible refine gc 32 rfl ?_); refine gc1 (some 15) Try.func32 rfl (impl_tripleOk.calls A7.out) ?_; rintro w18 hb; replace BK531 := bkb BK531 hb; replace BK533 := am (blk_below (g := gb533) (o := .cells #[.int .i64 ((rd_T36 l1 x9_1).f0), .int .i64 ((rd_T36 l1 x9_1).f1), .int .i64 ((rd_T36 l1 x9_1).f2.f0), .string ((rd_T36 l1 x9_1).f2.f1)] 36 (0, 0)) (blk_later BK533.out) hb); replace HB := bst HB hb; clear hb))
   go_ret
   exact fin_ (bL HB)
 have H' := am H; clear H
 obtain ⟨p532, q532, ad532, e532, hx532_0, hx532_1, hx532_2, hx532_3⟩ := at_T36b HB HR1 x9_1; cases e532
 go_wp2_with (first | ((with_reducible refine gd 6 rfl ?_); refine bxv 6 rfl #[.int .i64 0, .int .i64 0, .int .i64 0, .string ⟨#[]⟩] 36 HB ?_; clear HB; intro gb533 w9 BK533 GW533 GE533 HB hg hb; obtain ⟨NB531_533, NB533_531⟩ := nbp (nbl BK531 hg); replace BK531 := bkb BK531 hb; clear hg hb; obtain ⟨hnb10, hnc10⟩ := nbo NB533_531; obtain ⟨_, _, _, _, _, _, _, _⟩ := cl4 BK533; obtain ⟨_, _, _, _, _, _⟩ := cl3 BK531) | ((with_reducible refine gc 32 rfl ?_); refine gc1 (some 15) Try.func32 rfl (impl_tripleOk.calls A7.out) ?_; rintro w13 hb; replace BK531 := bkb BK531 hb; replace BK533 := am (blk_below (g := gb533) (o := .cells #[.int .i64 ((rd_T36 l1 x9_1).f0), .int .i64 ((rd_T36 l1 x9_1).f1), .int .i64 ((rd_T36 l1 x9_1).f2.f0), .string ((rd_T36 l1 x9_1).f2.f1)] 36 (0, 0)) (blk_later BK533.out) hb); replace HB := bst HB hb; clear hb))
 go_roundg k1
 case measure => have := HK1.out; omega
 case rel => exact ⟨(wrap64 (x9_1 + 1)), sr, H', ⟨by have := HK1.out; omega⟩, ⟨kL BK531⟩, ⟨bL HB⟩⟩
end Go.Proofs.Ytnlgodcbnlbdkaa.PFnStats
