/- The machine's side of FnStats: each Go function, and what its call comes to. No condition. -/
import Derived.Test.YtnlgodcbnlbdkaaPFnStatsx0
import Derived.Test.YtnlgodcbnlbdkaaPFnStatsx3
import Derived.Test.YtnlgodcbnlbdkaaPFnStatsx4
import Derived.Test.YtnlgodcbnlbdkaaPFnStatsx5
import Derived.Test.YtnlgodcbnlbdkaaPFnStatsx6
namespace Go.Proofs.Ytnlgodcbnlbdkaa.PFnStats
open Go.RowKit Go.Proofs.YtnlgodcbnlbdkaaW.PrintWords Go.Proofs.YtnlgodcbnlbdkaaW.PrintLast Go.Proofs.YtnlgodcbnlbdkaaW.PrintMore Go.Proofs.YtnlgodcbnlbdkaaW.PrintMore2
attribute [local go_sem] max2_int min2_int max_two min_two max_three min_three max_four min_four
set_option linter.unusedVariables false
set_option linter.unusedSimpArgs false
set_option maxHeartbeats 8000000
set_option maxRecDepth 100000

/-! ### spec_l4DrawText: function 91 -/
def spec_l4DrawText.f (k : Nat) (s0_0 : List Int) (s0_1 : Int) (s0_2 : Int) (a1 : Int) : Option (ByteArray × Int × Int) := (spec_l1DrawBytes.f k s0_0 s0_1 s0_2 a1).bind fun bt266 => (some (strOfNums bt266.1, bt266.2.1, bt266.2.2))
theorem spec_l4DrawText.calls {k g : Nat} {s0_0 : List Int} {s0_1 s0_2 a1 : Int} {r1 : ByteArray} {r2 r3 : Int} {w0 w : World} (hI : IsS57 w0 w g s0_0 s0_1 s0_2) (hB : Below w0.heap.size w0 w) (h : spec_l4DrawText.f k s0_0 s0_1 s0_2 a1 = some (r1, r2, r3)) :
    Calls Try.prog 91 #[.pointer (some ⟨g, 0, none⟩), .int .i64 a1] w fun e w' => e = .returned (.string r1) ∧ IsS57 w0 w' g s0_0 r2 r3 ∧ Below w0.heap.size w0 w' ∧ KeepBut w w' g none := by
 have HI0 := am hI
 have HGE0 := am (IsS57.ge hI)
 have HK := am (KeepBut.refl w g none)
 have HL := am hB.size
 clear hI
 have HW0 := am hB.size
 have HB := am hB
 clear hB
 have H := h; clear h; unfold spec_l4DrawText.f at H
 replace H := bnd3 H; obtain ⟨t266, t269, t270, A3, H⟩ := H; dsimp only at H
 replace H := sj3 H; obtain ⟨rfl, rfl, rfl⟩ := H
 go_enter Try.func91, Try.ntmps91
 go_wp2_with (first | ((with_reducible refine gc 94 rfl ?_); refine gc2 (some 7) Try.func94 rfl (spec_l1DrawBytes.calls (IsS57.l HI0) (bL HB) A3.out) ?_; rintro v267 w4 ⟨ho0, hi, hb, hk⟩; have HO268 := rlk ho0 HK; replace HK := ktr HK hk; replace HB := am hb; replace HI0 := am hi; clear hb hk hi ho0; have hcv5 := own_string (P := Try.prog) Try.underlying22 Try.underlying5 Try.underlying9 (Kd.own_of_R HO268.out)))
 go_ret
 exact fin_ ⟨IsS57.l HI0, bL HB, pL HK⟩
/-! ### spec_l2DrawNum: function 92 -/
def spec_l2DrawNum.f (s0_0 : List Int) (s0_1 : Int) (s0_2 : Int) : Option (Int × Int × Int) := (spec_l1Below.f s0_0 s0_1 s0_2 1000000).bind fun bt271 => ((spec_l1Below.f s0_0 bt271.2.1 bt271.2.2 1000000).bind fun bt274 => ((spec_l1Below.f s0_0 bt274.2.1 bt274.2.2 300).bind fun bt277 => ((spec_l1PickInt.f s0_0 bt277.2.1 bt277.2.2 (([0, 1, (-1), 63, 64, (-64), (-65), 127, 128, 16383, 16384, 2147483647, (-2147483648), 9223372036854775807, (-9223372036854775808), 4611686018427387904, bt271.1, wrap64 (-bt274.1), bt277.1] : List Int))).bind fun bt283 => (some (bt283.1, bt283.2.1, bt283.2.2)))))
theorem spec_l2DrawNum.calls {g : Nat} {s0_0 : List Int} {s0_1 s0_2 r1 r2 r3 : Int} {w0 w : World} (hI : IsS57 w0 w g s0_0 s0_1 s0_2) (hB : Below w0.heap.size w0 w) (h : spec_l2DrawNum.f s0_0 s0_1 s0_2 = some (r1, r2, r3)) :
    Calls Try.prog 92 #[.pointer (some ⟨g, 0, none⟩)] w fun e w' => e = .returned (.int .i64 r1) ∧ IsS57 w0 w' g s0_0 r2 r3 ∧ Below w0.heap.size w0 w' ∧ KeepBut w w' g none := by
 have HI0 := am hI
 have HGE0 := am (IsS57.ge hI)
 have HK := am (KeepBut.refl w g none)
 have HL := am hB.size
 clear hI
 have HW0 := am hB.size
 have HB := am hB
 clear hB
 have H := h; clear h; unfold spec_l2DrawNum.f at H
 replace H := bnd3 H; obtain ⟨t271, t272, t273, A2, H⟩ := H; dsimp only at H
 replace H := bnd3 H; obtain ⟨t274, t275, t276, A3, H⟩ := H; dsimp only at H
 replace H := bnd3 H; obtain ⟨t277, t278, t279, A4, H⟩ := H; dsimp only at H
 obtain ⟨y280, hy280⟩ : ∃ y_ : List Int, y_ = (([0, 1, (-1), 63, 64, (-64), (-65), 127, 128, 16383, 16384, 2147483647, (-2147483648), 9223372036854775807, (-9223372036854775808), 4611686018427387904, t271, wrap64 (-t274), t277] : List Int)) := ⟨_, rfl⟩
 replace H : ((spec_l1PickInt.f s0_0 t278 t279 y280).bind fun bt283 => (some (bt283.1, bt283.2.1, bt283.2.2))) = some (r1, r2, r3) := by first | (rw [hy280]; with_reducible exact H) | (rw [hy280]; exact H) | exact H
 have Ny280 := am hy280
 clear hy280
 replace H := bnd3 H; obtain ⟨t283, t284, t285, A5, H⟩ := H; dsimp only at H
 replace H := sj3 H; obtain ⟨rfl, rfl, rfl⟩ := H
 go_enter Try.func92, Try.ntmps92
 go_wp2_with (first | ((with_reducible refine gc 27 rfl ?_); refine gcs (some 5) Try.func27 rfl (spec_l1Below.calls (IsS57.l HI0) (bL HB) A2.out) HK ?_; clear HK HB HI0; intro w6 HI0 HB HK hk; clear hk) | ((with_reducible refine gc 27 rfl ?_); refine gcs (some 7) Try.func27 rfl (spec_l1Below.calls (IsS57.l HI0) (bL HB) A3.out) HK ?_; clear HK HB HI0; intro w7 HI0 HB HK hk; clear hk) | ((with_reducible refine gc 27 rfl ?_); refine gcs (some 10) Try.func27 rfl (spec_l1Below.calls (IsS57.l HI0) (bL HB) A4.out) HK ?_; clear HK HB HI0; intro w8 HI0 HB HK hk; clear hk) | ((with_reducible refine gd 11 rfl ?_); refine Kd.R_lit (Kd.int .i64) _ 3 ?hg (N := 11) ?hd (xs := ([0, 1, (-1), 63, 64, (-64), (-65), 127, 128, 16383, 16384, 2147483647, (-2147483648), 9223372036854775807, (-9223372036854775808), 4611686018427387904, t271, wrap64 (-t274), t277] : List Int)) (inner := [.int .i64 0, .int .i64 1, .int .i64 (-1), .int .i64 63, .int .i64 64, .int .i64 (-64), .int .i64 (-65), .int .i64 127, .int .i64 128, .int .i64 16383, .int .i64 16384, .int .i64 2147483647, .int .i64 (-2147483648), .int .i64 9223372036854775807, .int .i64 (-9223372036854775808), .int .i64 4611686018427387904, .int .i64 t271, .int .i64 (wrap64 (-t274)), .int .i64 t277]) (ok := fun _ => True) (okp := fun _ => True) ?hr ?hp (fun _ hk => hk) trivial (Below.refl _ _) (Nat.le_refl _) (by simp) ?_; (case hd => rfl); (case hg => rfl); (case hr => first | (go_simp; done) | (go_simp; rfl)); (case hp => exact (Reps.one (show Kd.M (Kd.int .i64) _ _ _ 0 [.int .i64 0] from rfl) (Reps.one (show Kd.M (Kd.int .i64) _ _ _ 1 [.int .i64 1] from rfl) (Reps.one (show Kd.M (Kd.int .i64) _ _ _ (-1) [.int .i64 (-1)] from rfl) (Reps.one (show Kd.M (Kd.int .i64) _ _ _ 63 [.int .i64 63] from rfl) (Reps.one (show Kd.M (Kd.int .i64) _ _ _ 64 [.int .i64 64] from rfl) (Reps.one (show Kd.M (Kd.int .i64) _ _ _ (-64) [.int .i64 (-64)] from rfl) (Reps.one (show Kd.M (Kd.int .i64) _ _ _ (-65) [.int .i64 (-65)] from rfl) (Reps.one (show Kd.M (Kd.int .i64) _ _ _ 127 [.int .i64 127] from rfl) (Reps.one (show Kd.M (Kd.int .i64) _ _ _ 128 [.int .i64 128] from rfl) (Reps.one (show Kd.M (Kd.int .i64) _ _ _ 16383 [.int .i64 16383] from rfl) (Reps.one (show Kd.M (Kd.int .i64) _ _ _ 16384 [.int .i64 16384] from rfl) (Reps.one (show Kd.M (Kd.int .i64) _ _ _ 2147483647 [.int .i64 2147483647] from rfl) (Reps.one (show Kd.M (Kd.int .i64) _ _ _ (-2147483648) [.int .i64 (-2147483648)] from rfl) (Reps.one (show Kd.M (Kd.int .i64) _ _ _ 9223372036854775807 [.int .i64 9223372036854775807] from rfl) (Reps.one (show Kd.M (Kd.int .i64) _ _ _ (-9223372036854775808) [.int .i64 (-9223372036854775808)] from rfl) (Reps.one (show Kd.M (Kd.int .i64) _ _ _ 4611686018427387904 [.int .i64 4611686018427387904] from rfl) (Reps.one (show Kd.M (Kd.int .i64) _ _ _ t271 [.int .i64 t271] from rfl) (Reps.one (show Kd.M (Kd.int .i64) _ _ _ (wrap64 (-t274)) [.int .i64 (wrap64 (-t274))] from rfl) (Reps.one (show Kd.M (Kd.int .i64) _ _ _ t277 [.int .i64 t277] from rfl) (Reps.none _ _))))))))))))))))))))); intro v281 w9 ho10 hb hg_ hnew_; clear hg_ hnew_; (first | rw [← Ny280.out] at ho10 | (simp only [Int.reduceToNat] at ho10; rw [← Ny280.out] at ho10)); have HO282 := rlk ho10 HK; replace HK := kbe HK hb; replace HB := bst HB hb; replace HI0 := IsS57.be HI0 hb; clear hb ho10; obtain ⟨Ao11, co11, eo11⟩ := Kd.R_slice HO282.out; subst eo11) | ((with_reducible refine gc 29 rfl ?_); refine gc1 (some 12) Try.func29 rfl (spec_l1PickInt.calls (IsS57.l HI0) (bL HB) (C_later (Kd.R_reads' HO282.out).2.2) ((Kd.R_reads' HO282.out).2.1) (far_slice (IsS57.own_ne HI0.out HO282.out (by decide))) A5.out) ?_; rintro w12 ⟨hi, hb, hk⟩; replace HO282 := IsS57.rk HI0 HO282 hk; replace HK := ktr HK hk; replace HB := am hb; replace HI0 := am hi; clear hb hk hi))
 go_ret
 exact fin_ ⟨IsS57.l HI0, bL HB, pL HK⟩
/-! ### spec_l6DrawRight: function 83 -/
def spec_l6DrawRight.f (k : Nat) (s0_0 : List Int) (s0_1 : Int) (s0_2 : Int) (a1 : Int) : Option (Int × ByteArray × Int × Int) := if a1 = 0 then ((spec_l1Below.f s0_0 s0_1 s0_2 2).bind fun bt287 => (some (bt287.1, (⟨#[]⟩ : ByteArray), bt287.2.1, bt287.2.2))) else (if a1 = 1 then ((spec_l1Once.f s0_0 s0_1 s0_2 6).bind fun bt290 => (if bt290.1 = true then ((spec_l1PickInt.f s0_0 bt290.2.1 bt290.2.2 (([2147483647, (-2147483648), 0] : List Int))).bind fun bt296 => (some (bt296.1, (⟨#[]⟩ : ByteArray), bt296.2.1, bt296.2.2))) else ((spec_l1Below.f s0_0 bt290.2.1 bt290.2.2 40).bind fun bt299 => (some (wrap64 (bt299.1 - 12), (⟨#[]⟩ : ByteArray), bt299.2.1, bt299.2.2))))) else (if a1 = 6 then ((spec_l1Once.f s0_0 s0_1 s0_2 3).bind fun bt302 => (if bt302.1 = true then ((spec_l1Pick.f s0_0 bt302.2.1 bt302.2.2 (([(⟨#[]⟩ : ByteArray), (⟨#[97]⟩ : ByteArray), (⟨#[97, 98]⟩ : ByteArray), (⟨#[97, 98, 99]⟩ : ByteArray), (⟨#[97, 98, 100]⟩ : ByteArray), (⟨#[98]⟩ : ByteArray), (⟨#[97, 97]⟩ : ByteArray)] : List ByteArray))).bind fun bt308 => (some (0, bt308.1, bt308.2.1, bt308.2.2))) else ((spec_l4DrawText.f k s0_0 bt302.2.1 bt302.2.2 6).bind fun bt311 => (some (0, bt311.1, bt311.2.1, bt311.2.2))))) else (if a1 = 5 then ((spec_l1Below.f s0_0 s0_1 s0_2 9).bind fun bt314 => ((spec_l2DrawNum.f s0_0 bt314.2.1 bt314.2.2).bind fun bt317 => ((spec_l1PickInt.f s0_0 bt317.2.1 bt317.2.2 (([0, (-9223372036854775808), 4607182418800017408, (-4616189618054758400), 9221120237041090560, (-2251799813685248), bt314.1, bt317.1] : List Int))).bind fun bt323 => (some (bt323.1, (⟨#[]⟩ : ByteArray), bt323.2.1, bt323.2.2))))) else ((spec_l1Once.f s0_0 s0_1 s0_2 2).bind fun bt326 => (if bt326.1 = true then ((spec_l1Below.f s0_0 bt326.2.1 bt326.2.2 30).bind fun bt329 => (some (wrap64 (bt329.1 - 9), (⟨#[]⟩ : ByteArray), bt329.2.1, bt329.2.2))) else ((spec_l2DrawNum.f s0_0 bt326.2.1 bt326.2.2).bind fun bt332 => (some (bt332.1, (⟨#[]⟩ : ByteArray), bt332.2.1, bt332.2.2))))))))
theorem spec_l6DrawRight.calls {k g : Nat} {s0_0 : List Int} {s0_1 s0_2 a1 r1 : Int} {r2 : ByteArray} {r3 r4 : Int} {w0 w : World} (hI : IsS57 w0 w g s0_0 s0_1 s0_2) (hB : Below w0.heap.size w0 w) (h : spec_l6DrawRight.f k s0_0 s0_1 s0_2 a1 = some (r1, r2, r3, r4)) :
    Calls Try.prog 83 #[.pointer (some ⟨g, 0, none⟩), .int .i64 a1] w fun e w' => e = .returned (.agg #[.int .i64 r1, .string r2]) ∧ IsS57 w0 w' g s0_0 r3 r4 ∧ Below w0.heap.size w0 w' ∧ KeepBut w w' g none := by
 have hu30 := Try.underlying30
 have HI0 := am hI
 have HGE0 := am (IsS57.ge hI)
 have HK := am (KeepBut.refl w g none)
 have HL := am hB.size
 clear hI
 have HW0 := am hB.size
 have HB := am hB
 clear hB
 have H := h; clear h; unfold spec_l6DrawRight.f at H
 replace H := ieq H; obtain ⟨c3b0, c3b1, H⟩ | ⟨c3, c3b0, c3b1, H⟩ := H
 · replace H := bnd3 H; obtain ⟨t287, t288, t289, A4, H⟩ := H; dsimp only at H
   replace H := sj4 H; obtain ⟨rfl, rfl, rfl, rfl⟩ := H
   go_enter Try.func83, Try.ntmps83
   go_wp2_with (first | ((with_reducible refine gd 4 rfl ?_); refine IsS57.bx 4 rfl #[.int .i64 0, .string ⟨#[]⟩] 30 HI0 HK HB HW0 ?_; clear HI0 HK HB; intro gb286 w5 BK286 GW286 GE286 NB0_286 NB286_0 HI0 HK HB) | ((with_reducible refine gc 27 rfl ?_); refine gcs (some 9) Try.func27 rfl (spec_l1Below.calls (IsS57.l HI0) (bL HB) A4.out) HK ?_; clear HK HB HI0; intro w6 HI0 HB HK hk; replace BK286 := kbo (.cells #[.int .i64 0, .string ⟨#[]⟩] 30 (0, 0)) hk BK286 NB286_0; clear hk; obtain ⟨hnb7, hnc7⟩ := nbo NB286_0; obtain ⟨_, _, _, _⟩ := cl2 BK286))
   refine bodyPost_ret (results_cell_row rfl _ _ gb286 30 #[.int .i64 t287, .string ⟨#[]⟩] (0, 0) _ rfl (kL BK286) Try.underlying30 rfl (by kernel_rfl)) rfl ?_
   exact fin_ ⟨IsS57.l HI0, bL HB, pL HK⟩
 replace H := ieq H; obtain ⟨c9b0, c9b1, H⟩ | ⟨c9, c9b0, c9b1, H⟩ := H
 · replace H := bnd3 H; obtain ⟨t290, t291, t292, A10, H⟩ := H; dsimp only at H
   replace H := ibt H; obtain ⟨rfl, H⟩ | ⟨rfl, H⟩ := H
   rotate_left
   · replace H := bnd3 H; obtain ⟨t299, t300, t301, A21, H⟩ := H; dsimp only at H
     replace H := sj4 H; obtain ⟨rfl, rfl, rfl, rfl⟩ := H
     go_enter Try.func83, Try.ntmps83
     go_wp2_with (first | ((with_reducible refine gd 4 rfl ?_); refine IsS57.bx 4 rfl #[.int .i64 0, .string ⟨#[]⟩] 30 HI0 HK HB HW0 ?_; clear HI0 HK HB; intro gb286 w22 BK286 GW286 GE286 NB0_286 NB286_0 HI0 HK HB) | ((with_reducible refine gc 62 rfl ?_); refine gcs (some 14) Try.func62 rfl (spec_l1Once.calls (IsS57.l HI0) (bL HB) A10.out) HK ?_; clear HK HB HI0; intro w23 HI0 HB HK hk; replace BK286 := kbo (.cells #[.int .i64 0, .string ⟨#[]⟩] 30 (0, 0)) hk BK286 NB286_0; clear hk) | ((with_reducible refine gc 27 rfl ?_); refine gcs (some 20) Try.func27 rfl (spec_l1Below.calls (IsS57.l HI0) (bL HB) A21.out) HK ?_; clear HK HB HI0; intro w24 HI0 HB HK hk; replace BK286 := kbo (.cells #[.int .i64 0, .string ⟨#[]⟩] 30 (0, 0)) hk BK286 NB286_0; clear hk; obtain ⟨hnb25, hnc25⟩ := nbo NB286_0; obtain ⟨_, _, _, _⟩ := cl2 BK286))
     refine bodyPost_ret (results_cell_row rfl _ _ gb286 30 #[.int .i64 (wrap64 (t299 - 12)), .string ⟨#[]⟩] (0, 0) _ rfl (kL BK286) Try.underlying30 rfl (by kernel_rfl)) rfl ?_
     exact fin_ ⟨IsS57.l HI0, bL HB, pL HK⟩
   obtain ⟨y293, hy293⟩ : ∃ y_ : List Int, y_ = (([2147483647, (-2147483648), 0] : List Int)) := ⟨_, rfl⟩
   replace H : ((spec_l1PickInt.f s0_0 t291 t292 y293).bind fun bt296 => (some (bt296.1, (⟨#[]⟩ : ByteArray), bt296.2.1, bt296.2.2))) = some (r1, r2, r3, r4) := by first | (rw [hy293]; with_reducible exact H) | (rw [hy293]; exact H) | exact H
   have Ny293 := am hy293
   clear hy293
   replace H := bnd3 H; obtain ⟨t296, t297, t298, A12, H⟩ := H; dsimp only at H
   replace H := sj4 H; obtain ⟨rfl, rfl, rfl, rfl⟩ := H
   go_enter Try.func83, Try.ntmps83
   go_wp2_with (first | ((with_reducible refine gd 4 rfl ?_); refine IsS57.bx 4 rfl #[.int .i64 0, .string ⟨#[]⟩] 30 HI0 HK HB HW0 ?_; clear HI0 HK HB; intro gb286 w13 BK286 GW286 GE286 NB0_286 NB286_0 HI0 HK HB) | ((with_reducible refine gc 62 rfl ?_); refine gcs (some 14) Try.func62 rfl (spec_l1Once.calls (IsS57.l HI0) (bL HB) A10.out) HK ?_; clear HK HB HI0; intro w14 HI0 HB HK hk; replace BK286 := kbo (.cells #[.int .i64 0, .string ⟨#[]⟩] 30 (0, 0)) hk BK286 NB286_0; clear hk) | ((with_reducible refine gd 16 rfl ?_); refine Kd.R_lit (Kd.int .i64) _ 3 ?hg (N := 16) ?hd (xs := ([2147483647, (-2147483648), 0] : List Int)) (inner := [.int .i64 2147483647, .int .i64 (-2147483648), .int .i64 0]) (ok := fun _ => True) (okp := fun _ => True) ?hr ?hp (fun _ hk => hk) trivial (Below.refl _ _) (Nat.le_refl _) (by simp) ?_; (case hd => rfl); (case hg => rfl); (case hr => first | (go_simp; done) | (go_simp; rfl)); (case hp => exact (Reps.one (show Kd.M (Kd.int .i64) _ _ _ 2147483647 [.int .i64 2147483647] from rfl) (Reps.one (show Kd.M (Kd.int .i64) _ _ _ (-2147483648) [.int .i64 (-2147483648)] from rfl) (Reps.one (show Kd.M (Kd.int .i64) _ _ _ 0 [.int .i64 0] from rfl) (Reps.none _ _))))); intro v294 w15 ho16 hb hg_ hnew_; clear hg_ hnew_; (first | rw [← Ny293.out] at ho16 | (simp only [Int.reduceToNat] at ho16; rw [← Ny293.out] at ho16)); have HO295 := rlk ho16 HK; replace BK286 := bkb BK286 hb; replace HK := kbe HK hb; replace HB := bst HB hb; replace HI0 := IsS57.be HI0 hb; clear hb ho16; obtain ⟨Ao17, co17, eo17⟩ := Kd.R_slice HO295.out; subst eo17) | ((with_reducible refine gc 29 rfl ?_); refine gc1 (some 17) Try.func29 rfl (spec_l1PickInt.calls (IsS57.l HI0) (bL HB) (C_later (Kd.R_reads' HO295.out).2.2) ((Kd.R_reads' HO295.out).2.1) (far_slice (IsS57.own_ne HI0.out HO295.out (by decide))) A12.out) ?_; rintro w18 ⟨hi, hb, hk⟩; replace BK286 := kbo (.cells #[.int .i64 0, .string ⟨#[]⟩] 30 (0, 0)) hk BK286 NB286_0; replace HO295 := IsS57.rk HI0 HO295 hk; replace HK := ktr HK hk; replace HB := am hb; replace HI0 := am hi; clear hb hk hi; obtain ⟨hnb19, hnc19⟩ := nbo NB286_0; obtain ⟨_, _, _, _⟩ := cl2 BK286))
   refine bodyPost_ret (results_cell_row rfl _ _ gb286 30 #[.int .i64 t296, .string ⟨#[]⟩] (0, 0) _ rfl (kL BK286) Try.underlying30 rfl (by kernel_rfl)) rfl ?_
   exact fin_ ⟨IsS57.l HI0, bL HB, pL HK⟩
 replace H := ieq H; obtain ⟨c27b0, c27b1, H⟩ | ⟨c27, c27b0, c27b1, H⟩ := H
 · replace H := bnd3 H; obtain ⟨t302, t303, t304, A28, H⟩ := H; dsimp only at H
   replace H := ibt H; obtain ⟨rfl, H⟩ | ⟨rfl, H⟩ := H
   rotate_left
   · replace H := bnd3 H; obtain ⟨t311, t312, t313, A39, H⟩ := H; dsimp only at H
     replace H := sj4 H; obtain ⟨rfl, rfl, rfl, rfl⟩ := H
     go_enter Try.func83, Try.ntmps83
     go_wp2_with (first | ((with_reducible refine gd 4 rfl ?_); refine IsS57.bx 4 rfl #[.int .i64 0, .string ⟨#[]⟩] 30 HI0 HK HB HW0 ?_; clear HI0 HK HB; intro gb286 w40 BK286 GW286 GE286 NB0_286 NB286_0 HI0 HK HB) | ((with_reducible refine gc 62 rfl ?_); refine gcs (some 26) Try.func62 rfl (spec_l1Once.calls (IsS57.l HI0) (bL HB) A28.out) HK ?_; clear HK HB HI0; intro w41 HI0 HB HK hk; replace BK286 := kbo (.cells #[.int .i64 0, .string ⟨#[]⟩] 30 (0, 0)) hk BK286 NB286_0; clear hk) | ((with_reducible refine gc 91 rfl ?_); refine gcs (some 32) Try.func91 rfl (spec_l4DrawText.calls (IsS57.l HI0) (bL HB) A39.out) HK ?_; clear HK HB HI0; intro w42 HI0 HB HK hk; replace BK286 := kbo (.cells #[.int .i64 0, .string ⟨#[]⟩] 30 (0, 0)) hk BK286 NB286_0; clear hk; obtain ⟨hnb43, hnc43⟩ := nbo NB286_0; obtain ⟨_, _, _, _⟩ := cl2 BK286))
     refine bodyPost_ret (results_cell_row rfl _ _ gb286 30 #[.int .i64 0, .string t311] (0, 0) _ rfl (kL BK286) Try.underlying30 rfl (by kernel_rfl)) rfl ?_
     exact fin_ ⟨IsS57.l HI0, bL HB, pL HK⟩
   obtain ⟨y305, hy305⟩ : ∃ y_ : List ByteArray, y_ = (([(⟨#[]⟩ : ByteArray), (⟨#[97]⟩ : ByteArray), (⟨#[97, 98]⟩ : ByteArray), (⟨#[97, 98, 99]⟩ : ByteArray), (⟨#[97, 98, 100]⟩ : ByteArray), (⟨#[98]⟩ : ByteArray), (⟨#[97, 97]⟩ : ByteArray)] : List ByteArray)) := ⟨_, rfl⟩
   replace H : ((spec_l1Pick.f s0_0 t303 t304 y305).bind fun bt308 => (some (0, bt308.1, bt308.2.1, bt308.2.2))) = some (r1, r2, r3, r4) := by first | (rw [hy305]; with_reducible exact H) | (rw [hy305]; exact H) | exact H
   have Ny305 := am hy305
   clear hy305
   replace H := bnd3 H; obtain ⟨t308, t309, t310, A30, H⟩ := H; dsimp only at H
   replace H := sj4 H; obtain ⟨rfl, rfl, rfl, rfl⟩ := H
   go_enter Try.func83, Try.ntmps83
   go_wp2_with (first | ((with_reducible refine gd 4 rfl ?_); refine IsS57.bx 4 rfl #[.int .i64 0, .string ⟨#[]⟩] 30 HI0 HK HB HW0 ?_; clear HI0 HK HB; intro gb286 w31 BK286 GW286 GE286 NB0_286 NB286_0 HI0 HK HB) | ((with_reducible refine gc 62 rfl ?_); refine gcs (some 26) Try.func62 rfl (spec_l1Once.calls (IsS57.l HI0) (bL HB) A28.out) HK ?_; clear HK HB HI0; intro w32 HI0 HB HK hk; replace BK286 := kbo (.cells #[.int .i64 0, .string ⟨#[]⟩] 30 (0, 0)) hk BK286 NB286_0; clear hk) | ((with_reducible refine gd 28 rfl ?_); refine Kd.R_lit Kd.string _ 9 ?hg (N := 28) ?hd (xs := ([(⟨#[]⟩ : ByteArray), (⟨#[97]⟩ : ByteArray), (⟨#[97, 98]⟩ : ByteArray), (⟨#[97, 98, 99]⟩ : ByteArray), (⟨#[97, 98, 100]⟩ : ByteArray), (⟨#[98]⟩ : ByteArray), (⟨#[97, 97]⟩ : ByteArray)] : List ByteArray)) (inner := [.string ⟨#[]⟩, .string (⟨#[97]⟩ : ByteArray), .string (⟨#[97, 98]⟩ : ByteArray), .string (⟨#[97, 98, 99]⟩ : ByteArray), .string (⟨#[97, 98, 100]⟩ : ByteArray), .string (⟨#[98]⟩ : ByteArray), .string (⟨#[97, 97]⟩ : ByteArray)]) (ok := fun _ => True) (okp := fun _ => True) ?hr ?hp (fun _ hk => hk) trivial (Below.refl _ _) (Nat.le_refl _) (by simp) ?_; (case hd => rfl); (case hg => rfl); (case hr => first | (go_simp; done) | (go_simp; rfl)); (case hp => exact (Reps.one (show Kd.M Kd.string _ _ _ (⟨#[]⟩ : ByteArray) [.string ⟨#[]⟩] from rfl) (Reps.one (show Kd.M Kd.string _ _ _ (⟨#[97]⟩ : ByteArray) [.string (⟨#[97]⟩ : ByteArray)] from rfl) (Reps.one (show Kd.M Kd.string _ _ _ (⟨#[97, 98]⟩ : ByteArray) [.string (⟨#[97, 98]⟩ : ByteArray)] from rfl) (Reps.one (show Kd.M Kd.string _ _ _ (⟨#[97, 98, 99]⟩ : ByteArray) [.string (⟨#[97, 98, 99]⟩ : ByteArray)] from rfl) (Reps.one (show Kd.M Kd.string _ _ _ (⟨#[97, 98, 100]⟩ : ByteArray) [.string (⟨#[97, 98, 100]⟩ : ByteArray)] from rfl) (Reps.one (show Kd.M Kd.string _ _ _ (⟨#[98]⟩ : ByteArray) [.string (⟨#[98]⟩ : ByteArray)] from rfl) (Reps.one (show Kd.M Kd.string _ _ _ (⟨#[97, 97]⟩ : ByteArray) [.string (⟨#[97, 97]⟩ : ByteArray)] from rfl) (Reps.none _ _))))))))); intro v306 w33 ho34 hb hg_ hnew_; clear hg_ hnew_; (first | rw [← Ny305.out] at ho34 | (simp only [Int.reduceToNat] at ho34; rw [← Ny305.out] at ho34)); have HO307 := rlk ho34 HK; replace BK286 := bkb BK286 hb; replace HK := kbe HK hb; replace HB := bst HB hb; replace HI0 := IsS57.be HI0 hb; clear hb ho34; obtain ⟨Ao35, co35, eo35⟩ := Kd.R_slice HO307.out; subst eo35) | ((with_reducible refine gc 90 rfl ?_); refine gc1 (some 29) Try.func90 rfl (spec_l1Pick.calls (IsS57.l HI0) (bL HB) (C_later (Kd.R_reads' HO307.out).2.2) ((Kd.R_reads' HO307.out).2.1) (far_slice (IsS57.own_ne HI0.out HO307.out (by decide))) A30.out) ?_; rintro w36 ⟨hi, hb, hk⟩; replace BK286 := kbo (.cells #[.int .i64 0, .string ⟨#[]⟩] 30 (0, 0)) hk BK286 NB286_0; replace HO307 := IsS57.rk HI0 HO307 hk; replace HK := ktr HK hk; replace HB := am hb; replace HI0 := am hi; clear hb hk hi; obtain ⟨hnb37, hnc37⟩ := nbo NB286_0; obtain ⟨_, _, _, _⟩ := cl2 BK286))
   refine bodyPost_ret (results_cell_row rfl _ _ gb286 30 #[.int .i64 0, .string t308] (0, 0) _ rfl (kL BK286) Try.underlying30 rfl (by kernel_rfl)) rfl ?_
   exact fin_ ⟨IsS57.l HI0, bL HB, pL HK⟩
 replace H := ieq H; obtain ⟨c45b0, c45b1, H⟩ | ⟨c45, c45b0, c45b1, H⟩ := H
 rotate_left
 · replace H := bnd3 H; obtain ⟨t326, t327, t328, A58, H⟩ := H; dsimp only at H
   replace H := ibt H; obtain ⟨rfl, H⟩ | ⟨rfl, H⟩ := H
   rotate_left
   · replace H := bnd3 H; obtain ⟨t332, t333, t334, A66, H⟩ := H; dsimp only at H
     replace H := sj4 H; obtain ⟨rfl, rfl, rfl, rfl⟩ := H
     go_enter Try.func83, Try.ntmps83
     go_wp2_with (first | ((with_reducible refine gd 4 rfl ?_); refine IsS57.bx 4 rfl #[.int .i64 0, .string ⟨#[]⟩] 30 HI0 HK HB HW0 ?_; clear HI0 HK HB; intro gb286 w67 BK286 GW286 GE286 NB0_286 NB286_0 HI0 HK HB) | ((with_reducible refine gc 62 rfl ?_); refine gcs (some 45) Try.func62 rfl (spec_l1Once.calls (IsS57.l HI0) (bL HB) A58.out) HK ?_; clear HK HB HI0; intro w68 HI0 HB HK hk; replace BK286 := kbo (.cells #[.int .i64 0, .string ⟨#[]⟩] 30 (0, 0)) hk BK286 NB286_0; clear hk) | ((with_reducible refine gc 92 rfl ?_); refine gcs (some 51) Try.func92 rfl (spec_l2DrawNum.calls (IsS57.l HI0) (bL HB) A66.out) HK ?_; clear HK HB HI0; intro w69 HI0 HB HK hk; replace BK286 := kbo (.cells #[.int .i64 0, .string ⟨#[]⟩] 30 (0, 0)) hk BK286 NB286_0; clear hk; obtain ⟨hnb70, hnc70⟩ := nbo NB286_0; obtain ⟨_, _, _, _⟩ := cl2 BK286))
     refine bodyPost_ret (results_cell_row rfl _ _ gb286 30 #[.int .i64 t332, .string ⟨#[]⟩] (0, 0) _ rfl (kL BK286) Try.underlying30 rfl (by kernel_rfl)) rfl ?_
     exact fin_ ⟨IsS57.l HI0, bL HB, pL HK⟩
   replace H := bnd3 H; obtain ⟨t329, t330, t331, A60, H⟩ := H; dsimp only at H
   replace H := sj4 H; obtain ⟨rfl, rfl, rfl, rfl⟩ := H
   go_enter Try.func83, Try.ntmps83
   go_wp2_with (first | ((with_reducible refine gd 4 rfl ?_); refine IsS57.bx 4 rfl #[.int .i64 0, .string ⟨#[]⟩] 30 HI0 HK HB HW0 ?_; clear HI0 HK HB; intro gb286 w61 BK286 GW286 GE286 NB0_286 NB286_0 HI0 HK HB) | ((with_reducible refine gc 62 rfl ?_); refine gcs (some 45) Try.func62 rfl (spec_l1Once.calls (IsS57.l HI0) (bL HB) A58.out) HK ?_; clear HK HB HI0; intro w62 HI0 HB HK hk; replace BK286 := kbo (.cells #[.int .i64 0, .string ⟨#[]⟩] 30 (0, 0)) hk BK286 NB286_0; clear hk) | ((with_reducible refine gc 27 rfl ?_); refine gcs (some 47) Try.func27 rfl (spec_l1Below.calls (IsS57.l HI0) (bL HB) A60.out) HK ?_; clear HK HB HI0; intro w63 HI0 HB HK hk; replace BK286 := kbo (.cells #[.int .i64 0, .string ⟨#[]⟩] 30 (0, 0)) hk BK286 NB286_0; clear hk; obtain ⟨hnb64, hnc64⟩ := nbo NB286_0; obtain ⟨_, _, _, _⟩ := cl2 BK286))
   refine bodyPost_ret (results_cell_row rfl _ _ gb286 30 #[.int .i64 (wrap64 (t329 - 9)), .string ⟨#[]⟩] (0, 0) _ rfl (kL BK286) Try.underlying30 rfl (by kernel_rfl)) rfl ?_
   exact fin_ ⟨IsS57.l HI0, bL HB, pL HK⟩
 replace H := bnd3 H; obtain ⟨t314, t315, t316, A46, H⟩ := H; dsimp only at H
 replace H := bnd3 H; obtain ⟨t317, t318, t319, A47, H⟩ := H; dsimp only at H
 obtain ⟨y320, hy320⟩ : ∃ y_ : List Int, y_ = (([0, (-9223372036854775808), 4607182418800017408, (-4616189618054758400), 9221120237041090560, (-2251799813685248), t314, t317] : List Int)) := ⟨_, rfl⟩
 replace H : ((spec_l1PickInt.f s0_0 t318 t319 y320).bind fun bt323 => (some (bt323.1, (⟨#[]⟩ : ByteArray), bt323.2.1, bt323.2.2))) = some (r1, r2, r3, r4) := by first | (rw [hy320]; with_reducible exact H) | (rw [hy320]; exact H) | exact H
 have Ny320 := am hy320
 clear hy320
 replace H := bnd3 H; obtain ⟨t323, t324, t325, A48, H⟩ := H; dsimp only at H
 replace H := sj4 H; obtain ⟨rfl, rfl, rfl, rfl⟩ := H
 go_enter Try.func83, Try.ntmps83
 go_wp2_with (first | ((with_reducible refine gd 4 rfl ?_); refine IsS57.bx 4 rfl #[.int .i64 0, .string ⟨#[]⟩] 30 HI0 HK HB HW0 ?_; clear HI0 HK HB; intro gb286 w49 BK286 GW286 GE286 NB0_286 NB286_0 HI0 HK HB) | ((with_reducible refine gc 27 rfl ?_); refine gcs (some 38) Try.func27 rfl (spec_l1Below.calls (IsS57.l HI0) (bL HB) A46.out) HK ?_; clear HK HB HI0; intro w50 HI0 HB HK hk; replace BK286 := kbo (.cells #[.int .i64 0, .string ⟨#[]⟩] 30 (0, 0)) hk BK286 NB286_0; clear hk) | ((with_reducible refine gc 92 rfl ?_); refine gcs (some 40) Try.func92 rfl (spec_l2DrawNum.calls (IsS57.l HI0) (bL HB) A47.out) HK ?_; clear HK HB HI0; intro w51 HI0 HB HK hk; replace BK286 := kbo (.cells #[.int .i64 0, .string ⟨#[]⟩] 30 (0, 0)) hk BK286 NB286_0; clear hk) | ((with_reducible refine gd 41 rfl ?_); refine Kd.R_lit (Kd.int .i64) _ 3 ?hg (N := 41) ?hd (xs := ([0, (-9223372036854775808), 4607182418800017408, (-4616189618054758400), 9221120237041090560, (-2251799813685248), t314, t317] : List Int)) (inner := [.int .i64 0, .int .i64 (-9223372036854775808), .int .i64 4607182418800017408, .int .i64 (-4616189618054758400), .int .i64 9221120237041090560, .int .i64 (-2251799813685248), .int .i64 t314, .int .i64 t317]) (ok := fun _ => True) (okp := fun _ => True) ?hr ?hp (fun _ hk => hk) trivial (Below.refl _ _) (Nat.le_refl _) (by simp) ?_; (case hd => rfl); (case hg => rfl); (case hr => first | (go_simp; done) | (go_simp; rfl)); (case hp => exact (Reps.one (show Kd.M (Kd.int .i64) _ _ _ 0 [.int .i64 0] from rfl) (Reps.one (show Kd.M (Kd.int .i64) _ _ _ (-9223372036854775808) [.int .i64 (-9223372036854775808)] from rfl) (Reps.one (show Kd.M (Kd.int .i64) _ _ _ 4607182418800017408 [.int .i64 4607182418800017408] from rfl) (Reps.one (show Kd.M (Kd.int .i64) _ _ _ (-4616189618054758400) [.int .i64 (-4616189618054758400)] from rfl) (Reps.one (show Kd.M (Kd.int .i64) _ _ _ 9221120237041090560 [.int .i64 9221120237041090560] from rfl) (Reps.one (show Kd.M (Kd.int .i64) _ _ _ (-2251799813685248) [.int .i64 (-2251799813685248)] from rfl) (Reps.one (show Kd.M (Kd.int .i64) _ _ _ t314 [.int .i64 t314] from rfl) (Reps.one (show Kd.M (Kd.int .i64) _ _ _ t317 [.int .i64 t317] from rfl) (Reps.none _ _)))))))))); intro v321 w52 ho53 hb hg_ hnew_; clear hg_ hnew_; (first | rw [← Ny320.out] at ho53 | (simp only [Int.reduceToNat] at ho53; rw [← Ny320.out] at ho53)); have HO322 := rlk ho53 HK; replace BK286 := bkb BK286 hb; replace HK := kbe HK hb; replace HB := bst HB hb; replace HI0 := IsS57.be HI0 hb; clear hb ho53; obtain ⟨Ao54, co54, eo54⟩ := Kd.R_slice HO322.out; subst eo54) | ((with_reducible refine gc 29 rfl ?_); refine gc1 (some 42) Try.func29 rfl (spec_l1PickInt.calls (IsS57.l HI0) (bL HB) (C_later (Kd.R_reads' HO322.out).2.2) ((Kd.R_reads' HO322.out).2.1) (far_slice (IsS57.own_ne HI0.out HO322.out (by decide))) A48.out) ?_; rintro w55 ⟨hi, hb, hk⟩; replace BK286 := kbo (.cells #[.int .i64 0, .string ⟨#[]⟩] 30 (0, 0)) hk BK286 NB286_0; replace HO322 := IsS57.rk HI0 HO322 hk; replace HK := ktr HK hk; replace HB := am hb; replace HI0 := am hi; clear hb hk hi; obtain ⟨hnb56, hnc56⟩ := nbo NB286_0; obtain ⟨_, _, _, _⟩ := cl2 BK286))
 refine bodyPost_ret (results_cell_row rfl _ _ gb286 30 #[.int .i64 t323, .string ⟨#[]⟩] (0, 0) _ rfl (kL BK286) Try.underlying30 rfl (by kernel_rfl)) rfl ?_
 exact fin_ ⟨IsS57.l HI0, bL HB, pL HK⟩
/-! ### spec_l13DrawPart: function 68 -/
mutual
def spec_l13DrawPart.j0 : Nat → List (S94) → Int → List (S30) → Int → Bool → List Int → Int → Int → Option ((List (S30)) × Int × Int)
  | 0, _, _, _, _, _, _, _, _ => none
  | k + 1, x1, x2, x3, x9, x22, x1000, x1001, x1002 => if x22 = true then ((spec_l1Below.f x1000 x1001 x1002 2).bind fun bt336 => (if 0 ≤ x2 then (if x2 < (x1.length : Int) then (if ((rd_T94 x1 x2).f2) = 2 then ((spec_l1Below.f x1000 bt336.2.1 bt336.2.2 4).bind fun bt340 => ((spec_l1Once.f x1000 bt340.2.1 bt340.2.2 60).bind fun bt343 => (if bt343.1 = true then (if x3.length < 5864062014805 then (spec_l13DrawPart.j1 k x1 x2 (x3 ++ [(⟨20, (⟨#[]⟩ : ByteArray)⟩ : S30)]) 20 x1000 bt343.2.1 bt343.2.2) else (none)) else (if x3.length < 5864062014805 then (spec_l13DrawPart.j1 k x1 x2 (x3 ++ [(⟨bt340.1, (⟨#[]⟩ : ByteArray)⟩ : S30)]) bt340.1 x1000 bt343.2.1 bt343.2.2) else (none))))) else (if x3.length < 5864062014805 then (spec_l13DrawPart.j1 k x1 x2 (x3 ++ [(⟨bt336.1, (⟨#[]⟩ : ByteArray)⟩ : S30)]) bt336.1 x1000 bt336.2.1 bt336.2.2) else (none))) else (none)) else (none))) else (spec_l13DrawPart.j1 k x1 x2 x3 x9 x1000 x1001 x1002)
def spec_l13DrawPart.j1 : Nat → List (S94) → Int → List (S30) → Int → List Int → Int → Int → Option ((List (S30)) × Int × Int)
  | 0, _, _, _, _, _, _, _ => none
  | k + 1, x1, x2, x3, x9, x1000, x1001, x1002 => spec_l13DrawPart.l0 k x1 x2 x3 x9 0 x1000 x1001 x1002
def spec_l13DrawPart.l0 : Nat → List (S94) → Int → List (S30) → Int → Int → List Int → Int → Int → Option ((List (S30)) × Int × Int)
  | 0, _, _, _, _, _, _, _, _ => none
  | k + 1, x1, x2, x3, x9, x10, x1000, x1001, x1002 => if x10 < x9 then (if 0 ≤ x2 then (if x2 < (x1.length : Int) then (if ((rd_T94 x1 x2).f1) = 7 then (spec_l13DrawPart.l1 k x1 x2 x3 x9 x10 (wrap64 (x2 + 1)) 0 x1000 x1001 x1002) else ((spec_l6DrawRight.f k x1000 x1001 x1002 ((rd_T94 x1 x2).f1)).bind fun bt357 => (if x3.length < 5864062014805 then (spec_l13DrawPart.l0 k x1 x2 (x3 ++ [(⟨bt357.1, bt357.2.1⟩ : S30)]) x9 (wrap64 (x10 + 1)) x1000 bt357.2.2.1 bt357.2.2.2) else (none)))) else (none)) else (none)) else (some (x3, x1001, x1002))
def spec_l13DrawPart.l1 : Nat → List (S94) → Int → List (S30) → Int → Int → Int → Int → List Int → Int → Int → Option ((List (S30)) × Int × Int)
  | 0, _, _, _, _, _, _, _, _, _, _ => none
  | k + 1, x1, x2, x3, x9, x10, x11, x12, x1000, x1001, x1002 => if 0 ≤ x2 then (if x2 < (x1.length : Int) then (if x12 < ((rd_T94 x1 x2).f3) then ((spec_l13DrawPart.f k x1000 x1001 x1002 x1 x11 x3).bind fun bt365 => ((spec_l5After.f k x1 x11).bind fun t370 => (spec_l13DrawPart.l1 k x1 x2 bt365.1 x9 x10 t370 (wrap64 (x12 + 1)) x1000 bt365.2.1 bt365.2.2))) else (spec_l13DrawPart.l0 k x1 x2 x3 x9 (wrap64 (x10 + 1)) x1000 x1001 x1002)) else (none)) else (none)
def spec_l13DrawPart.f : Nat → List Int → Int → Int → List (S94) → Int → List (S30) → Option ((List (S30)) × Int × Int)
  | 0, _, _, _, _, _, _ => none
  | k + 1, s0_0, s0_1, s0_2, l1, a2, l3 => if a2 > 0 then (if 0 ≤ a2 then (if a2 < (l1.length : Int) then (spec_l13DrawPart.j0 k l1 a2 l3 1 (((rd_T94 l1 a2).f2) != 0) s0_0 s0_1 s0_2) else (none)) else (none)) else (spec_l13DrawPart.j0 k l1 a2 l3 1 false s0_0 s0_1 s0_2)
end
theorem spec_l13DrawPart.calls (k : Nat) : ∀ (g : Nat) (s0_0 : List Int) (s0_1 : Int) (s0_2 : Int) (A1 : Option Addr) (c1 : Nat) (l1 : List (S94)) (a2 : Int) (P3_ : Nat → Prop) (u9000_ : Value) (l3 : List (S30)) (r1 : List (S30)) (r2 : Int) (r3 : Int) (w0 w : World) (hI : IsS57 w0 w g s0_0 s0_1 s0_2) (hB : Below w0.heap.size w0 w) (hr1 : ∀ W_, Kept w W_ (fun k_ => (P3_ k_) ∨ k_ = g) → Kd.C k94 W_ A1 l1.length l1) (hc1 : l1.length ≤ c1) (ho3 : Kd.R k30 30 w w0.heap.size P3_ u9000_ l3) (h : spec_l13DrawPart.f k s0_0 s0_1 s0_2 l1 a2 l3 = some (r1, r2, r3)),
    Calls Try.prog 68 #[.pointer (some ⟨g, 0, none⟩), .slice A1 l1.length c1, .int .i64 a2, u9000_] w fun e w' => ∃ v0_ : Value, e = .returned (v0_) ∧ Kd.R k30 30 w' w0.heap.size (fun k_ => (P3_ k_ ∨ w.heap.size ≤ k_)) v0_ r1 ∧ IsS57 w0 w' g s0_0 r2 r3 ∧ Below w0.heap.size w0 w' ∧ Kept w w' (fun k_ => (P3_ k_) ∨ k_ = g) := by
 induction k using Nat.strongRecOn with
 | _ k ih =>
 intro g s0_0 s0_1 s0_2 A1 c1 l1 a2 P3_ u9000_ l3 r1 r2 r3 w0 w hI hB hr1 hc1 ho3 h
 cases k with
 | zero => exact absurd h (by simp [spec_l13DrawPart.f])
 | succ k =>
 simp only [spec_l13DrawPart.f] at h
 have hu30 := Try.underlying30
 have HR1 := am hr1
 have HC1 := am hc1
 clear hr1 hc1
 have HO3 := am (show Kd.R k30 30 w w0.heap.size (fun k_ => (P3_ k_ ∨ w.heap.size ≤ k_)) u9000_ l3 from Kd.R_mono ho3 (fun k_ hk => (.inl hk)))
 have HI0 := am hI
 have HGE0 := am (IsS57.ge hI)
 have HL := am hB.size
 clear hI
 have HK := am (Kept.refl w (fun k_ => (P3_ k_) ∨ k_ = g))
 have HW0 := am hB.size
 have HB := am hB
 clear hB
 have H : (if a2 > 0 then (if 0 ≤ a2 then (if a2 < (l1.length : Int) then (spec_l13DrawPart.j0 k l1 a2 l3 1 (((rd_T94 l1 a2).f2) != 0) s0_0 s0_1 s0_2) else (none)) else (none)) else (spec_l13DrawPart.j0 k l1 a2 l3 1 false s0_0 s0_1 s0_2)) = some (r1, r2, r3) := h
 clear h
 have HC5 := am H
 clear H
 go_enter Try.func68, Try.ntmps68
 go_upto_region 2 with (fail)
 go_cut [22] (fun v22 wc => ∃ (kq : Nat) (x22_4 : Bool), v22 = .bool x22_4 ∧ Aside0 (spec_l13DrawPart.j0 kq l1 a2 l3 1 x22_4 s0_0 s0_1 s0_2 = some (r1, r2, r3)) ∧ Aside0 (kq ≤ k) ∧ Aside0 (Kd.R k30 30 wc w0.heap.size (fun k_ => (P3_ k_ ∨ w.heap.size ≤ k_)) u9000_ l3) ∧ Aside0 (IsS57 w0 wc g s0_0 s0_1 s0_2) ∧ Aside0 (Kept w wc (fun k_ => (P3_ k_) ∨ k_ = g)) ∧ Aside0 (Below w0.heap.size w0 wc))
 case first =>
  have H := HC5.out
  clear HC5
  replace H := igt H; obtain ⟨c6b0, H⟩ | ⟨c6b0, H⟩ := H
  rotate_left
  · (first | rw [c6b0] | (simp only [i64_w, i32_w]; rw [c6b0]) | skip)
    have H' := am H; clear H
    go_wp2
    go_meet
    case rel => exact ⟨_, (false), sr, H', ⟨by first | omega | exact Nat.le_refl _⟩, ⟨rL HO3⟩, ⟨IsS57.l HI0⟩, ⟨kept_later HK.out⟩, ⟨bL HB⟩⟩
  (first | rw [c6b0] | (simp only [i64_w, i32_w]; rw [c6b0]) | skip)
  replace H := if_dd H; obtain ⟨c7b0, c8b0, H⟩ := H
  have H' := am H; clear H
  have p335 : 0 ≤ (a2 : Int) := dcd
  have q335 : a2 < (l1.length : Int) := dcd
  obtain ⟨ad335, e335, hx335_0, hx335_1, hx335_2, hx335_3⟩ := at_T94 (Kd.C_kept_now HR1.out HK.out) a2 p335 q335
  cases e335
  replace p335 := eq_true p335
  replace q335 := eq_true q335
  go_wp2
  go_meet
  case rel => exact ⟨_, ((((rd_T94 l1 a2).f2) != 0)), sr, H', ⟨by first | omega | exact Nat.le_refl _⟩, ⟨rL HO3⟩, ⟨IsS57.l HI0⟩, ⟨kept_later HK.out⟩, ⟨bL HB⟩⟩
 clear HC5
 try clear c1
 obtain ⟨kq, x22_4, rfl, HA, HJ4, HO_3, HI0, HK, HB⟩ := hcut
 cases kq with
 | zero => exact absurd HA.out (by simp [spec_l13DrawPart.j0])
 | succ kj4 => ?_
 have H := HA.out
 clear HA
 simp only [spec_l13DrawPart.j0] at H
 have HC9 := am H
 clear H
 go_upto_if 22 with (fail)
 go_cut [3, 9] (fun v3 v9 wc => ∃ (kq : Nat) (x3_8 : List (S30)) (x9_8 : Int) (x1001_8 : Int) (x1002_8 : Int), v9 = .int .i64 x9_8 ∧ Aside0 (spec_l13DrawPart.j1 kq l1 a2 x3_8 x9_8 s0_0 x1001_8 x1002_8 = some (r1, r2, r3)) ∧ Aside0 (kq ≤ kj4) ∧ Aside0 (Kd.R k30 30 wc w0.heap.size (fun k_ => (P3_ k_ ∨ w.heap.size ≤ k_)) v3 x3_8) ∧ Aside0 (IsS57 w0 wc g s0_0 x1001_8 x1002_8) ∧ Aside0 (Kept w wc (fun k_ => (P3_ k_) ∨ k_ = g)) ∧ Aside0 (Below w0.heap.size w0 wc))
 case first =>
  have H := HC9.out
  clear HC9
  replace H := ibt H; obtain ⟨rfl, H⟩ | ⟨rfl, H⟩ := H
  rotate_left
  · have H' := am H; clear H
    go_wp2
    go_meet
    case rel => exact ⟨_, (l3), (1), (s0_1), (s0_2), sr, H', ⟨by have := HJ4.out; first | omega | exact Nat.le_refl _⟩, ⟨rL HO_3⟩, ⟨IsS57.l HI0⟩, ⟨kept_later HK.out⟩, ⟨bL HB⟩⟩
  replace H := bnd3 H; obtain ⟨t336, t337, t338, A11, H⟩ := H; dsimp only at H
  replace H := ifd H; obtain ⟨c12b0, H⟩ := H
  (first | rw [c12b0] | (simp only [i64_w, i32_w]; rw [c12b0]) | skip)
  replace H := ifd H; obtain ⟨c13b0, H⟩ := H
  replace H := ieq H; obtain ⟨c14b0, c14b1, H⟩ | ⟨c14, c14b0, c14b1, H⟩ := H
  rotate_left
  · replace H := ifs H; obtain ⟨c28, H⟩ := H
    have LMc28 := am c28
    clear c28
    obtain ⟨y352, hy352⟩ : ∃ y_ : List (S30), y_ = (l3 ++ [(⟨t336, (⟨#[]⟩ : ByteArray)⟩ : S30)]) := ⟨_, rfl⟩
    replace H : (spec_l13DrawPart.j1 kj4 l1 a2 y352 t336 s0_0 t337 t338) = some (r1, r2, r3) := by first | (rw [hy352]; with_reducible exact H) | (rw [hy352]; exact H) | exact H
    have Ny352 := am hy352
    clear hy352
    have H' := am H; clear H
    go_wp2_with (first | ((with_reducible refine gc 27 rfl ?_); refine gc1 (some 24) Try.func27 rfl (spec_l1Below.calls (IsS57.l HI0) (bL HB) A11.out) ?_; rintro w29 ⟨hi, hb, hk⟩; replace HO_3 := IsS57.rk HI0 HO_3 hk; replace HK := am (Kept.of_keep (S := (fun k_ => (P3_ k_) ∨ k_ = g)) (kept_later HK.out) hk (.inl (.inr rfl))); replace HB := am hb; replace HI0 := am hi; clear hb hk hi; have p339 : 0 ≤ (a2 : Int) := dcd; have q339 : a2 < (l1.length : Int) := dcd; obtain ⟨ad339, e339, hx339_0, hx339_1, hx339_2, hx339_3⟩ := at_T94 (Kd.C_kept_now HR1.out HK.out) a2 p339 q339; cases e339; replace p339 := eq_true p339; replace q339 := eq_true q339) | ((with_reducible refine gate_builtin (b := .append) (xs := #[.tmp 35, .tmp 38]) rfl ?_); at_builtin; refine Kd.R_append k30 (w0 := w0) w0.heap.size rfl (.tmp 35) (.tmp 38) 98 30 (.agg #[(.int .i64 0), (.string ⟨#[]⟩)]) 24 rfl Try.underlying98 info30 rfl (by decide) (by omega) u9000_ l3 (⟨t336, (⟨#[]⟩ : ByteArray)⟩ : S30) [.int .i64 t336, .string ⟨#[]⟩] (fun k_ => (P3_ k_ ∨ w.heap.size ≤ k_)) (fun _ => False) rfl rfl ?aP (fun _ hk => hk.elim) ?aF ?aO ?aB ?aS ?aL ?_; (case aP => exact k30_mkM _ _ _ (⟨t336, (⟨#[]⟩ : ByteArray)⟩ : S30)); (case aB => exact (bL HB)); (case aF => exact (fun k_ hk => (.inr (Nat.le_trans (by first | exact HK.out.1 | exact (show Kept w _ (fun k_ => (P3_ k_) ∨ k_ = g) from kept_later HK.out).1) hk)))); (case aO => exact (rL HO_3)); (case aS => exact (below_size (bL HB))); (case aL => have := LMc28.out; omega); intro v353 w30 ho hb hg hat; rw [← Ny352.out] at ho; have HO354 := am ho; replace HI0 := IsS57.gr HI0 hg HO_3; replace HB := am hb; replace HK := am (Kept.of_grown (S := (fun k_ => (P3_ k_) ∨ k_ = g)) hg (kept_later HK.out) (fun k_ e_ => Or.imp_left Or.inl ((HO_3.out.1 k_ e_)))); clear HO_3; clear ho hb hg hat))
    go_meet
    case rel => exact ⟨_, (y352), (t336), (t337), (t338), sr, H', ⟨by have := HJ4.out; first | omega | exact Nat.le_refl _⟩, ⟨rL HO354⟩, ⟨IsS57.l HI0⟩, ⟨kept_later HK.out⟩, ⟨bL HB⟩⟩
  replace H := bnd3 H; obtain ⟨t340, t341, t342, A15, H⟩ := H; dsimp only at H
  replace H := bnd3 H; obtain ⟨t343, t344, t345, A16, H⟩ := H; dsimp only at H
  replace H := ibt H; obtain ⟨rfl, H⟩ | ⟨rfl, H⟩ := H
  · replace H := ifs H; obtain ⟨c18, H⟩ := H
    have LMc18 := am c18
    clear c18
    obtain ⟨y346, hy346⟩ : ∃ y_ : List (S30), y_ = (l3 ++ [(⟨20, (⟨#[]⟩ : ByteArray)⟩ : S30)]) := ⟨_, rfl⟩
    replace H : (spec_l13DrawPart.j1 kj4 l1 a2 y346 20 s0_0 t344 t345) = some (r1, r2, r3) := by first | (rw [hy346]; with_reducible exact H) | (rw [hy346]; exact H) | exact H
    have Ny346 := am hy346
    clear hy346
    have H' := am H; clear H
    go_wp2_with (first | ((with_reducible refine gc 27 rfl ?_); refine gc1 (some 24) Try.func27 rfl (spec_l1Below.calls (IsS57.l HI0) (bL HB) A11.out) ?_; rintro w19 ⟨hi, hb, hk⟩; replace HO_3 := IsS57.rk HI0 HO_3 hk; replace HK := am (Kept.of_keep (S := (fun k_ => (P3_ k_) ∨ k_ = g)) (kept_later HK.out) hk (.inl (.inr rfl))); replace HB := am hb; replace HI0 := am hi; clear hb hk hi; have p339 : 0 ≤ (a2 : Int) := dcd; have q339 : a2 < (l1.length : Int) := dcd; obtain ⟨ad339, e339, hx339_0, hx339_1, hx339_2, hx339_3⟩ := at_T94 (Kd.C_kept_now HR1.out HK.out) a2 p339 q339; cases e339; replace p339 := eq_true p339; replace q339 := eq_true q339) | ((with_reducible refine gc 27 rfl ?_); refine gc1 (some 32) Try.func27 rfl (spec_l1Below.calls (IsS57.l HI0) (bL HB) A15.out) ?_; rintro w20 ⟨hi, hb, hk⟩; replace HO_3 := IsS57.rk HI0 HO_3 hk; replace HK := am (Kept.of_keep (S := (fun k_ => (P3_ k_) ∨ k_ = g)) (kept_later HK.out) hk (.inl (.inr rfl))); replace HB := am hb; replace HI0 := am hi; clear hb hk hi) | ((with_reducible refine gc 62 rfl ?_); refine gc1 (some 34) Try.func62 rfl (spec_l1Once.calls (IsS57.l HI0) (bL HB) A16.out) ?_; rintro w21 ⟨hi, hb, hk⟩; replace HO_3 := IsS57.rk HI0 HO_3 hk; replace HK := am (Kept.of_keep (S := (fun k_ => (P3_ k_) ∨ k_ = g)) (kept_later HK.out) hk (.inl (.inr rfl))); replace HB := am hb; replace HI0 := am hi; clear hb hk hi) | ((with_reducible refine gate_builtin (b := .append) (xs := #[.tmp 35, .tmp 38]) rfl ?_); at_builtin; refine Kd.R_append k30 (w0 := w0) w0.heap.size rfl (.tmp 35) (.tmp 38) 98 30 (.agg #[(.int .i64 0), (.string ⟨#[]⟩)]) 24 rfl Try.underlying98 info30 rfl (by decide) (by omega) u9000_ l3 (⟨20, (⟨#[]⟩ : ByteArray)⟩ : S30) [.int .i64 20, .string ⟨#[]⟩] (fun k_ => (P3_ k_ ∨ w.heap.size ≤ k_)) (fun _ => False) rfl rfl ?aP (fun _ hk => hk.elim) ?aF ?aO ?aB ?aS ?aL ?_; (case aP => exact k30_mkM _ _ _ (⟨20, (⟨#[]⟩ : ByteArray)⟩ : S30)); (case aB => exact (bL HB)); (case aF => exact (fun k_ hk => (.inr (Nat.le_trans (by first | exact HK.out.1 | exact (show Kept w _ (fun k_ => (P3_ k_) ∨ k_ = g) from kept_later HK.out).1) hk)))); (case aO => exact (rL HO_3)); (case aS => exact (below_size (bL HB))); (case aL => have := LMc18.out; omega); intro v347 w22 ho hb hg hat; rw [← Ny346.out] at ho; have HO348 := am ho; replace HI0 := IsS57.gr HI0 hg HO_3; replace HB := am hb; replace HK := am (Kept.of_grown (S := (fun k_ => (P3_ k_) ∨ k_ = g)) hg (kept_later HK.out) (fun k_ e_ => Or.imp_left Or.inl ((HO_3.out.1 k_ e_)))); clear HO_3; clear ho hb hg hat))
    go_meet
    case rel => exact ⟨_, (y346), (20), (t344), (t345), sr, H', ⟨by have := HJ4.out; first | omega | exact Nat.le_refl _⟩, ⟨rL HO348⟩, ⟨IsS57.l HI0⟩, ⟨kept_later HK.out⟩, ⟨bL HB⟩⟩
  replace H := ifs H; obtain ⟨c23, H⟩ := H
  have LMc23 := am c23
  clear c23
  obtain ⟨y349, hy349⟩ : ∃ y_ : List (S30), y_ = (l3 ++ [(⟨t340, (⟨#[]⟩ : ByteArray)⟩ : S30)]) := ⟨_, rfl⟩
  replace H : (spec_l13DrawPart.j1 kj4 l1 a2 y349 t340 s0_0 t344 t345) = some (r1, r2, r3) := by first | (rw [hy349]; with_reducible exact H) | (rw [hy349]; exact H) | exact H
  have Ny349 := am hy349
  clear hy349
  have H' := am H; clear H
  go_wp2_with (first | ((with_reducible refine gc 27 rfl ?_); refine gc1 (some 24) Try.func27 rfl (spec_l1Below.calls (IsS57.l HI0) (bL HB) A11.out) ?_; rintro w24 ⟨hi, hb, hk⟩; replace HO_3 := IsS57.rk HI0 HO_3 hk; replace HK := am (Kept.of_keep (S := (fun k_ => (P3_ k_) ∨ k_ = g)) (kept_later HK.out) hk (.inl (.inr rfl))); replace HB := am hb; replace HI0 := am hi; clear hb hk hi; have p339 : 0 ≤ (a2 : Int) := dcd; have q339 : a2 < (l1.length : Int) := dcd; obtain ⟨ad339, e339, hx339_0, hx339_1, hx339_2, hx339_3⟩ := at_T94 (Kd.C_kept_now HR1.out HK.out) a2 p339 q339; cases e339; replace p339 := eq_true p339; replace q339 := eq_true q339) | ((with_reducible refine gc 27 rfl ?_); refine gc1 (some 32) Try.func27 rfl (spec_l1Below.calls (IsS57.l HI0) (bL HB) A15.out) ?_; rintro w25 ⟨hi, hb, hk⟩; replace HO_3 := IsS57.rk HI0 HO_3 hk; replace HK := am (Kept.of_keep (S := (fun k_ => (P3_ k_) ∨ k_ = g)) (kept_later HK.out) hk (.inl (.inr rfl))); replace HB := am hb; replace HI0 := am hi; clear hb hk hi) | ((with_reducible refine gc 62 rfl ?_); refine gc1 (some 34) Try.func62 rfl (spec_l1Once.calls (IsS57.l HI0) (bL HB) A16.out) ?_; rintro w26 ⟨hi, hb, hk⟩; replace HO_3 := IsS57.rk HI0 HO_3 hk; replace HK := am (Kept.of_keep (S := (fun k_ => (P3_ k_) ∨ k_ = g)) (kept_later HK.out) hk (.inl (.inr rfl))); replace HB := am hb; replace HI0 := am hi; clear hb hk hi) | ((with_reducible refine gate_builtin (b := .append) (xs := #[.tmp 35, .tmp 38]) rfl ?_); at_builtin; refine Kd.R_append k30 (w0 := w0) w0.heap.size rfl (.tmp 35) (.tmp 38) 98 30 (.agg #[(.int .i64 0), (.string ⟨#[]⟩)]) 24 rfl Try.underlying98 info30 rfl (by decide) (by omega) u9000_ l3 (⟨t340, (⟨#[]⟩ : ByteArray)⟩ : S30) [.int .i64 t340, .string ⟨#[]⟩] (fun k_ => (P3_ k_ ∨ w.heap.size ≤ k_)) (fun _ => False) rfl rfl ?aP (fun _ hk => hk.elim) ?aF ?aO ?aB ?aS ?aL ?_; (case aP => exact k30_mkM _ _ _ (⟨t340, (⟨#[]⟩ : ByteArray)⟩ : S30)); (case aB => exact (bL HB)); (case aF => exact (fun k_ hk => (.inr (Nat.le_trans (by first | exact HK.out.1 | exact (show Kept w _ (fun k_ => (P3_ k_) ∨ k_ = g) from kept_later HK.out).1) hk)))); (case aO => exact (rL HO_3)); (case aS => exact (below_size (bL HB))); (case aL => have := LMc23.out; omega); intro v350 w27 ho hb hg hat; rw [← Ny349.out] at ho; have HO351 := am ho; replace HI0 := IsS57.gr HI0 hg HO_3; replace HB := am hb; replace HK := am (Kept.of_grown (S := (fun k_ => (P3_ k_) ∨ k_ = g)) hg (kept_later HK.out) (fun k_ e_ => Or.imp_left Or.inl ((HO_3.out.1 k_ e_)))); clear HO_3; clear ho hb hg hat))
  go_meet
  case rel => exact ⟨_, (y349), (t340), (t344), (t345), sr, H', ⟨by have := HJ4.out; first | omega | exact Nat.le_refl _⟩, ⟨rL HO351⟩, ⟨IsS57.l HI0⟩, ⟨kept_later HK.out⟩, ⟨bL HB⟩⟩
 clear HC9
 try clear c1
 obtain ⟨kq, x3_8, x9_8, x1001_8, x1002_8, rfl, HA, HJ8, HO_3, HI0, HK, HB⟩ := hcut
 cases kq with
 | zero => exact absurd HA.out (by simp [spec_l13DrawPart.j1])
 | succ kj8 => ?_
 have H := HA.out
 clear HA
 simp only [spec_l13DrawPart.j1] at H
 have H' := am H; clear H
 go_wp2
 go_loopg [3, 10] kj8 (fun kq v3 v10 w' => ∃ (x3_3 : List (S30)) (x10_3 : Int) (x1001_3 : Int) (x1002_3 : Int), v10 = .int .i64 x10_3 ∧ Aside0 (spec_l13DrawPart.l0 kq l1 a2 x3_3 x9_8 x10_3 s0_0 x1001_3 x1002_3 = some (r1, r2, r3)) ∧ Aside0 (kq ≤ kj8) ∧ Aside0 (Kd.R k30 30 w' w0.heap.size (fun k_ => (P3_ k_ ∨ w.heap.size ≤ k_)) v3 x3_3) ∧ Aside0 (IsS57 w0 w' g s0_0 x1001_3 x1002_3) ∧ Aside0 (Kept w w' (fun k_ => (P3_ k_) ∨ k_ = g)) ∧ Aside0 (Below w0.heap.size w0 w'))
 case atStart => exact ⟨(x3_8), (0), (x1001_8), (x1002_8), sr, H', ⟨Nat.le_refl _⟩, ⟨rL HO_3⟩, ⟨IsS57.l HI0⟩, ⟨kept_later HK.out⟩, ⟨bL HB⟩⟩
 clear H'
 try clear c1
 obtain ⟨x3_3, x10_3, x1001_3, x1002_3, rfl, HA, HK3, HO_3, HI0, HK, HB⟩ := hrel
 cases gk with
 | zero => exact absurd HA.out (by simp [spec_l13DrawPart.l0])
 | succ k3 => ?_
 have H := HA.out
 clear HA
 simp only [spec_l13DrawPart.l0] at H
 replace H := idc H; obtain ⟨c31b0, H⟩ | ⟨c31b0, H⟩ := H
 rotate_left
 · replace H := sj3 H; obtain ⟨rfl, rfl, rfl⟩ := H
   go_wp2
   go_ret
   exact ⟨_, fin_ ⟨by (with_reducible repeat (first | apply Kd.R_alloc | apply Kd.R_drewN | apply Kd.R_drew)); exact HO_3.out, IsS57.l HI0, bL HB, kept_later HK.out⟩⟩
 replace H := if_dd H; obtain ⟨c32b0, c33b0, H⟩ := H
 replace H := ieq H; obtain ⟨c34b0, c34b1, H⟩ | ⟨c34, c34b0, c34b1, H⟩ := H
 rotate_left
 · replace H := bnd4 H; obtain ⟨t357, t358, t359, t360, A42, H⟩ := H; dsimp only at H
   replace H := ifs H; obtain ⟨c43, H⟩ := H
   have LMc43 := am c43
   clear c43
   obtain ⟨y361, hy361⟩ : ∃ y_ : List (S30), y_ = (x3_3 ++ [(⟨t357, t358⟩ : S30)]) := ⟨_, rfl⟩
   replace H : (spec_l13DrawPart.l0 k3 l1 a2 y361 x9_8 (wrap64 (x10_3 + 1)) s0_0 t359 t360) = some (r1, r2, r3) := by first | (rw [hy361]; with_reducible exact H) | (rw [hy361]; exact H) | exact H
   have Ny361 := am hy361
   clear hy361
   have H' := am H; clear H
   have p355 : 0 ≤ (a2 : Int) := dcd
   have q355 : a2 < (l1.length : Int) := dcd
   obtain ⟨ad355, e355, hx355_0, hx355_1, hx355_2, hx355_3⟩ := at_T94 (Kd.C_kept_now HR1.out HK.out) a2 p355 q355
   cases e355
   replace p355 := eq_true p355
   replace q355 := eq_true q355
   have p356 : 0 ≤ (a2 : Int) := dcd
   have q356 : a2 < (l1.length : Int) := dcd
   obtain ⟨ad356, e356, hx356_0, hx356_1, hx356_2, hx356_3⟩ := at_T94 (Kd.C_kept_now HR1.out HK.out) a2 p356 q356
   obtain rfl : ad355 = ad356 := (by injection e356)
   replace p356 := eq_true p356
   replace q356 := eq_true q356
   go_wp2_with (first | ((with_reducible refine gc 83 rfl ?_); refine gc1 (some 58) Try.func83 rfl (spec_l6DrawRight.calls (IsS57.l HI0) (bL HB) A42.out) ?_; rintro w44 ⟨hi, hb, hk⟩; replace HO_3 := IsS57.rk HI0 HO_3 hk; replace HK := am (Kept.of_keep (S := (fun k_ => (P3_ k_) ∨ k_ = g)) (kept_later HK.out) hk (.inl (.inr rfl))); replace HB := am hb; replace HI0 := am hi; clear hb hk hi) | ((with_reducible refine gate_builtin (b := .append) (xs := #[.tmp 51, .tmp 59]) rfl ?_); at_builtin; refine Kd.R_append k30 (w0 := w0) w0.heap.size rfl (.tmp 51) (.tmp 59) 98 30 (.agg #[(.int .i64 0), (.string ⟨#[]⟩)]) 24 rfl Try.underlying98 info30 rfl (by decide) (by omega) u3 x3_3 (⟨t357, t358⟩ : S30) [.int .i64 t357, .string t358] (fun k_ => (P3_ k_ ∨ w.heap.size ≤ k_)) (fun _ => False) rfl rfl ?aP (fun _ hk => hk.elim) ?aF ?aO ?aB ?aS ?aL ?_; (case aP => exact k30_mkM _ _ _ (⟨t357, t358⟩ : S30)); (case aB => exact (bL HB)); (case aF => exact (fun k_ hk => (.inr (Nat.le_trans (by first | exact HK.out.1 | exact (show Kept w _ (fun k_ => (P3_ k_) ∨ k_ = g) from kept_later HK.out).1) hk)))); (case aO => exact (rL HO_3)); (case aS => exact (below_size (bL HB))); (case aL => have := LMc43.out; omega); intro v362 w45 ho hb hg hat; rw [← Ny361.out] at ho; have HO363 := am ho; replace HI0 := IsS57.gr HI0 hg HO_3; replace HB := am hb; replace HK := am (Kept.of_grown (S := (fun k_ => (P3_ k_) ∨ k_ = g)) hg (kept_later HK.out) (fun k_ e_ => Or.imp_left Or.inl ((HO_3.out.1 k_ e_)))); clear HO_3; clear ho hb hg hat))
   go_roundg k3
   case measure => have := HJ4.out; have := HJ8.out; have := HK3.out; omega
   case rel => exact ⟨(y361), (wrap64 (x10_3 + 1)), (t359), (t360), sr, H', ⟨by have := HJ4.out; have := HJ8.out; have := HK3.out; omega⟩, ⟨rL HO363⟩, ⟨IsS57.l HI0⟩, ⟨kept_later HK.out⟩, ⟨bL HB⟩⟩
 have H' := am H; clear H
 have p355 : 0 ≤ (a2 : Int) := dcd
 have q355 : a2 < (l1.length : Int) := dcd
 obtain ⟨ad355, e355, hx355_0, hx355_1, hx355_2, hx355_3⟩ := at_T94 (Kd.C_kept_now HR1.out HK.out) a2 p355 q355
 cases e355
 replace p355 := eq_true p355
 replace q355 := eq_true q355
 go_wp2
 go_loopg [3, 11, 12] k3 (fun kq v3 v11 v12 w' => ∃ (x3_4 : List (S30)) (x11_4 : Int) (x12_4 : Int) (x1001_4 : Int) (x1002_4 : Int), v11 = .int .i64 x11_4 ∧ v12 = .int .i64 x12_4 ∧ Aside0 (spec_l13DrawPart.l1 kq l1 a2 x3_4 x9_8 x10_3 x11_4 x12_4 s0_0 x1001_4 x1002_4 = some (r1, r2, r3)) ∧ Aside0 (kq ≤ k3) ∧ Aside0 (Kd.R k30 30 w' w0.heap.size (fun k_ => (P3_ k_ ∨ w.heap.size ≤ k_)) v3 x3_4) ∧ Aside0 (IsS57 w0 w' g s0_0 x1001_4 x1002_4) ∧ Aside0 (Kept w w' (fun k_ => (P3_ k_) ∨ k_ = g)) ∧ Aside0 (Below w0.heap.size w0 w'))
 case atStart => exact ⟨(x3_3), (wrap64 (a2 + 1)), (0), (x1001_3), (x1002_3), sr, sr, H', ⟨Nat.le_refl _⟩, ⟨rL HO_3⟩, ⟨IsS57.l HI0⟩, ⟨kept_later HK.out⟩, ⟨bL HB⟩⟩
 clear H'
 try clear c1 c31 c31b0 c32b0 c33b0 c34 c34b0 c34b1 hx355_0 hx355_1 hx355_2 hx355_3 p355 q355
 obtain ⟨x3_4, x11_4, x12_4, x1001_4, x1002_4, rfl, rfl, HA, HK4, HO_3, HI0, HK, HB⟩ := hrel
 cases gk with
 | zero => exact absurd HA.out (by simp [spec_l13DrawPart.l1])
 | succ k4 => ?_
 have H := HA.out
 clear HA
 simp only [spec_l13DrawPart.l1] at H
 replace H := if_dd H; obtain ⟨c35b0, c36b0, H⟩ := H
 replace H := idc H; obtain ⟨c37b0, H⟩ | ⟨c37b0, H⟩ := H
 rotate_left
 · have H' := am H; clear H
   have p364 : 0 ≤ (a2 : Int) := dcd
   have q364 : a2 < (l1.length : Int) := dcd
   obtain ⟨ad364, e364, hx364_0, hx364_1, hx364_2, hx364_3⟩ := at_T94 (Kd.C_kept_now HR1.out HK.out) a2 p364 q364
   obtain rfl : ad355 = ad364 := (by injection e364)
   replace p364 := eq_true p364
   replace q364 := eq_true q364
   go_wp2
   go_roundg k4
   case measure => have := HJ4.out; have := HJ8.out; have := HK3.out; have := HK4.out; omega
   case rel => exact ⟨(x3_4), (wrap64 (x10_3 + 1)), (x1001_4), (x1002_4), sr, H', ⟨by have := HJ4.out; have := HJ8.out; have := HK3.out; have := HK4.out; omega⟩, ⟨rL HO_3⟩, ⟨IsS57.l HI0⟩, ⟨kept_later HK.out⟩, ⟨bL HB⟩⟩
 replace H := bnd3 H; obtain ⟨t365, t368, t369, A38, H⟩ := H; dsimp only at H
 replace H := bnd H; obtain ⟨t370, A39, H⟩ := H
 have H' := am H; clear H
 have p364 : 0 ≤ (a2 : Int) := dcd
 have q364 : a2 < (l1.length : Int) := dcd
 obtain ⟨ad364, e364, hx364_0, hx364_1, hx364_2, hx364_3⟩ := at_T94 (Kd.C_kept_now HR1.out HK.out) a2 p364 q364
 obtain rfl : ad355 = ad364 := (by injection e364)
 replace p364 := eq_true p364
 replace q364 := eq_true q364
 obtain ⟨Ao40, co40, eo40⟩ := Kd.R_slice HO_3.out
 subst eo40
 go_wp2_with (first | ((with_reducible refine gc 68 rfl ?_); refine gc2 (some 76) Try.func68 rfl (ih k4 (by have := HJ4.out; have := HJ8.out; have := HK3.out; have := HK4.out; omega) g s0_0 x1001_4 x1002_4 _ _ l1 x11_4 (fun k_ => some k_ = (.slice Ao40 x3_4.length co40 : Value).ownBlock) (.slice Ao40 x3_4.length co40) x3_4 t365 t368 t369 w0 _ (IsS57.l HI0) (bL HB) (Kd.C_kept_call HR1.out (kept_later HK.out) (fun k_ hs_ => Or.elim hs_ (fun hs_ => (fun e_ => Or.imp_left Or.inl ((HO_3.out.1 k_ e_.symm))) hs_) (fun e_ => .inl (.inr e_)))) HC1.out (Kd.R_tight rfl HO_3.out) A38.out) ?_; rintro v366 w41 ⟨ho0, hi, hb, hkp⟩; have HO367 := am (Kd.R_mono (ok' := fun k_ => (P3_ k_ ∨ w.heap.size ≤ k_)) ho0 (fun k_ hk_ => Or.elim hk_ (fun hs_ => (HO_3.out.1 k_ (hs_).symm)) (fun hn_ => (.inr (Nat.le_trans (by first | exact HK.out.1 | exact (show Kept w _ (fun k_ => (P3_ k_) ∨ k_ = g) from kept_later HK.out).1) hn_))))); replace HI0 := am hi; replace HK := am (Kept.then_ (S := (fun k_ => (P3_ k_) ∨ k_ = g)) (kept_later HK.out) hkp (fun k_ hs_ => Or.elim hs_ (fun hs_ => (fun e_ => Or.imp_left Or.inl ((HO_3.out.1 k_ e_.symm))) hs_) (fun e_ => .inl (.inr e_)))); replace HB := am hb; clear HO_3 hb hkp ho0) | ((with_reducible refine gc 67 rfl ?_); refine gc1 (some 79) Try.func67 rfl (spec_l5After.calls k4 _ _ l1 x11_4 t370 _ (Kd.C_kept_now HR1.out (kept_later HK.out)) HC1.out A39.out) ?_; rintro w' ⟨nd, rfl⟩))
 go_roundg k4
 case measure => have := HJ4.out; have := HJ8.out; have := HK3.out; have := HK4.out; omega
 case rel => exact ⟨(t365), (t370), (wrap64 (x12_4 + 1)), (t368), (t369), sr, sr, H', ⟨by have := HJ4.out; have := HJ8.out; have := HK3.out; have := HK4.out; omega⟩, ⟨rL HO367⟩, ⟨IsS57.l HI0⟩, ⟨kept_later HK.out⟩, ⟨bL HB⟩⟩
/-! ### spec_l13Empty: function 84 -/
mutual
def spec_l13Empty.j0 : Nat → List (S94) → Int → Bool → Option ((List (S30)))
  | 0, _, _, _ => none
  | k + 1, x0, x1, x25 => if x25 = true then (some (([(⟨0, (⟨#[]⟩ : ByteArray)⟩ : S30)] : List (S30)))) else (spec_l13Empty.l0 k x0 x1 (([] : List (S30))) (wrap64 (x1 + 1)) 0)
def spec_l13Empty.l0 : Nat → List (S94) → Int → List (S30) → Int → Int → Option ((List (S30)))
  | 0, _, _, _, _, _ => none
  | k + 1, x0, x1, x5, x6, x7 => if 0 ≤ x1 then (if x1 < (x0.length : Int) then (if x7 < ((rd_T94 x0 x1).f3) then ((spec_l13Empty.f k x0 x6).bind fun t381 => (if x5.length + t381.length < 5864062014805 then ((spec_l5After.f k x0 x6).bind fun t387 => (spec_l13Empty.l0 k x0 x1 (x5 ++ t381) t387 (wrap64 (x7 + 1)))) else (none))) else (some x5)) else (none)) else (none)
def spec_l13Empty.f : Nat → List (S94) → Int → Option ((List (S30)))
  | 0, _, _ => none
  | k + 1, l0, a1 => if a1 > 0 then (if 0 ≤ a1 then (if a1 < (l0.length : Int) then (if ((rd_T94 l0 a1).f2) = 0 then (spec_l13Empty.j0 k l0 a1 (((rd_T94 l0 a1).f1) != 7)) else (spec_l13Empty.j0 k l0 a1 true)) else (none)) else (none)) else (if 0 ≤ a1 then (if a1 < (l0.length : Int) then (spec_l13Empty.j0 k l0 a1 (((rd_T94 l0 a1).f1) != 7)) else (none)) else (none))
end
theorem spec_l13Empty.calls (k : Nat) : ∀ (A0 : Option Addr) (c0 : Nat) (l0 : List (S94)) (a1 : Int) (r : List (S30)) (w : World) (hr0 : Kd.C k94 w A0 l0.length l0) (hc0 : l0.length ≤ c0) (h : spec_l13Empty.f k l0 a1 = some r),
    Calls Try.prog 84 #[.slice A0 l0.length c0, .int .i64 a1] w fun e w' => ∃ v0_ : Value, e = .returned (v0_) ∧ Kd.R k30 30 w' w.heap.size (fun _ => True) v0_ r ∧ Below w.heap.size w w' := by
 induction k using Nat.strongRecOn with
 | _ k ih =>
 intro A0 c0 l0 a1 r w hr0 hc0 h
 cases k with
 | zero => exact absurd h (by simp [spec_l13Empty.f])
 | succ k =>
 simp only [spec_l13Empty.f] at h
 have hu30 := Try.underlying30
 have HR0 := am hr0
 have HC0 := am hc0
 clear hr0 hc0
 have HB := am (Below.refl w.heap.size w)
 have H := h; clear h; unfold spec_l13Empty.f at H
 have HC3 := am H
 clear H
 go_enter Try.func84, Try.ntmps84
 go_upto_region 1 with (fail)
 go_cut [25] (fun v25 wc => ∃ (kq : Nat) (x25_2 : Bool), v25 = .bool x25_2 ∧ Aside0 (spec_l13Empty.j0 kq l0 a1 x25_2 = some r) ∧ Aside0 (kq ≤ k) ∧ Aside0 (Below w.heap.size w wc))
 case first =>
  have H := HC3.out
  clear HC3
  replace H := igt H; obtain ⟨c4b0, H⟩ | ⟨c4b0, H⟩ := H
  rotate_left
  · (first | rw [c4b0] | (simp only [i64_w, i32_w]; rw [c4b0]) | skip)
    replace H := if_dd H; obtain ⟨c8b0, c9b0, H⟩ := H
    have H' := am H; clear H
    obtain ⟨p373, q373, ad373, e373, hx373_0, hx373_1, hx373_2, hx373_3⟩ := at_T94b HB HR0 a1; cases e373
    go_wp2
    go_meet
    case rel => exact ⟨_, ((((rd_T94 l0 a1).f1) != 7)), sr, H', ⟨by first | omega | exact Nat.le_refl _⟩, ⟨bL HB⟩⟩
  (first | rw [c4b0] | (simp only [i64_w, i32_w]; rw [c4b0]) | skip)
  replace H := if_dd H; obtain ⟨c5b0, c6b0, H⟩ := H
  replace H := ieq H; obtain ⟨c7b0, c7b1, H⟩ | ⟨c7, c7b0, c7b1, H⟩ := H
  rotate_left
  · have H' := am H; clear H
    obtain ⟨p371, q371, ad371, e371, hx371_0, hx371_1, hx371_2, hx371_3⟩ := at_T94b HB HR0 a1; cases e371
    go_wp2
    go_meet
    case rel => exact ⟨_, (true), sr, H', ⟨by first | omega | exact Nat.le_refl _⟩, ⟨bL HB⟩⟩
  have H' := am H; clear H
  obtain ⟨p371, q371, ad371, e371, hx371_0, hx371_1, hx371_2, hx371_3⟩ := at_T94b HB HR0 a1; cases e371
  have p372 : 0 ≤ (a1 : Int) := dcd
  have q372 : a1 < (l0.length : Int) := dcd
  obtain ⟨ad372, e372, hx372_0, hx372_1, hx372_2, hx372_3⟩ := at_T94 HR0.out a1 p372 q372
  obtain rfl : ad371 = ad372 := (by injection e372)
  replace hx372_0 := crd HB hx372_0
  replace hx372_1 := crd HB hx372_1
  replace hx372_2 := crd HB hx372_2
  replace hx372_3 := crd HB hx372_3
  replace p372 := eq_true p372
  replace q372 := eq_true q372
  go_wp2
  go_meet
  case rel => exact ⟨_, ((((rd_T94 l0 a1).f1) != 7)), sr, H', ⟨by first | omega | exact Nat.le_refl _⟩, ⟨bL HB⟩⟩
 clear HC3
 obtain ⟨kq, x25_2, rfl, HA, HJ2, HB⟩ := hcut
 cases kq with
 | zero => exact absurd HA.out (by simp [spec_l13Empty.j0])
 | succ kj2 => ?_
 have H := HA.out
 clear HA
 simp only [spec_l13Empty.j0] at H
 replace H := ibt H; obtain ⟨rfl, H⟩ | ⟨rfl, H⟩ := H
 · obtain ⟨y374, hy374⟩ : ∃ y_ : List (S30), y_ = (([(⟨0, (⟨#[]⟩ : ByteArray)⟩ : S30)] : List (S30))) := ⟨_, rfl⟩
   replace H : (some y374) = some r := by first | (rw [hy374]; with_reducible exact H) | (rw [hy374]; exact H) | exact H
   have Ny374 := am hy374
   clear hy374
   obtain rfl := Option.some.inj H
   go_wp2_with (first | ((with_reducible refine gd 27 rfl ?_); refine Kd.R_lit k30 _ 30 ?hg (N := 27) ?hd (xs := ([(⟨0, (⟨#[]⟩ : ByteArray)⟩ : S30)] : List (S30))) (inner := [.int .i64 0, .string ⟨#[]⟩]) (ok := fun _ => True) (okp := fun _ => True) ?hr ?hp (fun _ hk => hk) trivial (Below.refl _ _) (Nat.le_refl _) (by simp) ?_; (case hd => rfl); (case hg => rfl); (case hr => first | (go_simp; done) | (go_simp; rfl)); (case hp => exact (Reps.c2 (show Kd.M k30 _ _ _ (⟨0, (⟨#[]⟩ : ByteArray)⟩ : S30) [.int .i64 0, .string ⟨#[]⟩] from (k30_mkM _ _ _ (⟨0, (⟨#[]⟩ : ByteArray)⟩ : S30) )) (Reps.none _ _))); intro v375 w11 ho12 hb hg_ hnew_; clear hg_ hnew_; (first | rw [← Ny374.out] at ho12 | (simp only [Int.reduceToNat] at ho12; rw [← Ny374.out] at ho12)); have HO376 := rlb ho12 HB; replace HB := bst HB hb; clear hb ho12))
   go_ret
   exact ⟨_, fin_ ⟨by (with_reducible repeat (first | apply Kd.R_alloc | apply Kd.R_drewN | apply Kd.R_drew)); exact HO376.out, bL HB⟩⟩
 obtain ⟨y377, hy377⟩ : ∃ y_ : List (S30), y_ = (([] : List (S30))) := ⟨_, rfl⟩
 replace H : (spec_l13Empty.l0 kj2 l0 a1 y377 (wrap64 (a1 + 1)) 0) = some r := by first | (rw [hy377]; with_reducible exact H) | (rw [hy377]; exact H) | exact H
 have Ny377 := am hy377
 clear hy377
 have H' := am H; clear H
 go_wp2_with (first | ((with_reducible refine gd 28 rfl ?_); refine Kd.R_lit k30 _ 30 ?hg (N := 28) ?hd (xs := ([] : List (S30))) (inner := []) (ok := fun _ => True) (okp := fun _ => True) ?hr ?hp (fun _ hk => hk) trivial (Below.refl _ _) (Nat.le_refl _) (by simp) ?_; (case hd => rfl); (case hg => rfl); (case hr => first | (go_simp; done) | (go_simp; rfl)); (case hp => exact (Reps.none _ _)); intro v378 w13 ho14 hb hg_ hnew_; clear hg_ hnew_; (first | rw [← Ny377.out] at ho14 | (simp only [Int.reduceToNat] at ho14; rw [← Ny377.out] at ho14)); have HO379 := rlb ho14 HB; replace HB := bst HB hb; clear hb ho14))
 go_loopg [5, 6, 7] kj2 (fun kq v5 v6 v7 w' => ∃ (x5_2 : List (S30)) (x6_2 : Int) (x7_2 : Int), v6 = .int .i64 x6_2 ∧ v7 = .int .i64 x7_2 ∧ Aside0 (spec_l13Empty.l0 kq l0 a1 x5_2 x6_2 x7_2 = some r) ∧ Aside0 (kq ≤ kj2) ∧ Aside0 (Kd.R k30 30 w' w.heap.size (fun _ => True) v5 x5_2) ∧ Aside0 (Below w.heap.size w w'))
 case atStart => exact ⟨(y377), (wrap64 (a1 + 1)), (0), sr, sr, H', ⟨Nat.le_refl _⟩, ⟨rL HO379⟩, ⟨bL HB⟩⟩
 clear H'
 try clear c10
 obtain ⟨x5_2, x6_2, x7_2, rfl, rfl, HA, HK2, HO_5, HB⟩ := hrel
 cases gk with
 | zero => exact absurd HA.out (by simp [spec_l13Empty.l0])
 | succ k2 => ?_
 have H := HA.out
 clear HA
 simp only [spec_l13Empty.l0] at H
 replace H := if_dd H; obtain ⟨c15b0, c16b0, H⟩ := H
 replace H := idc H; obtain ⟨c17b0, H⟩ | ⟨c17b0, H⟩ := H
 rotate_left
 · obtain rfl := Option.some.inj H
   obtain ⟨p380, q380, ad380, e380, hx380_0, hx380_1, hx380_2, hx380_3⟩ := at_T94b HB HR0 a1; cases e380
   go_wp2
   go_ret
   exact ⟨_, fin_ ⟨by (with_reducible repeat (first | apply Kd.R_alloc | apply Kd.R_drewN | apply Kd.R_drew)); exact HO_5.out, bL HB⟩⟩
 replace H := bnd H; obtain ⟨t381, A18, H⟩ := H
 replace H := ifs H; obtain ⟨c19, H⟩ := H
 have LMc19 := am c19
 clear c19
 obtain ⟨y384, hy384⟩ : ∃ y_ : List (S30), y_ = (x5_2 ++ t381) := ⟨_, rfl⟩
 replace H : ((spec_l5After.f k2 l0 x6_2).bind fun t387 => (spec_l13Empty.l0 k2 l0 a1 y384 t387 (wrap64 (x7_2 + 1)))) = some r := by first | (rw [hy384]; with_reducible exact H) | (rw [hy384]; exact H) | exact H
 have Ny384 := am hy384
 clear hy384
 replace H := bnd H; obtain ⟨t387, A20, H⟩ := H
 have H' := am H; clear H
 obtain ⟨p380, q380, ad380, e380, hx380_0, hx380_1, hx380_2, hx380_3⟩ := at_T94b HB HR0 a1; cases e380
 go_wp2_with (first | ((with_reducible refine gc 84 rfl ?_); refine gl_ (some 43) Try.func84 #[.slice (some ad380) l0.length c0, .int .i64 x6_2] rfl ?_; (with_reducible refine (ih k2 (by have := HJ2.out; have := HK2.out; omega) _ _ l0 x6_2 t381 _ ?side1 ?side2 A18.out).mono ?_); (case side1 => repeat (first | exact (Kd.C_below HR0.out HB.out) | (with_reducible refine Kd.C_alloc ?_ _) | (with_reducible refine Kd.C_drewN ?_ _) | (with_reducible refine Kd.C_drew ?_))); (case side2 => exact HC0.out); rintro e w21 ⟨v382, rfl, ho0, hb⟩; refine ⟨_, rfl, ?_⟩; have HO383 := am (Kd.R_lower (Kd.R_new' ho0 (Kd.R_lt (rL HO_5))) (below_size (bL HB))); replace HO_5 := am (Kd.R_elder' (rL HO_5) (Kd.R_base ho0) hb); replace HB := bst HB hb; clear hb ho0; obtain ⟨Ao23, co23, eo23⟩ := Kd.R_slice HO383.out; subst eo23) | ((with_reducible refine gate_builtin (b := .append) (xs := #[.tmp 40, .tmp 43]) rfl ?_); at_builtin; refine Kd.R_append_rows k30 (w0 := w) w.heap.size rfl (.tmp 40) (.tmp 43) 98 30 (.agg #[(.int .i64 0), (.string ⟨#[]⟩)]) 24 rfl Try.underlying98 info30 rfl (by decide) (by omega) u5 x5_2 t381 _ _ _ (fun k_ => some k_ ≠ (.slice Ao23 t381.length co23 : Value).ownBlock) (fun _ => False) rfl rfl ?aO ?aR (fun _ _ h => h) (fun _ h => h.elim) ?aF ?aB ?aS ?aL ?_; (case aR => exact C_later (Kd.R_reads' HO383.out).2.2); (case aB => exact (bL HB)); (case aF => exact (fun k_ hk => Kd.fresh' (Kd.R_lt (rL HO383)) k_ hk)); (case aO => exact (by (with_reducible repeat (first | apply Kd.R_alloc | apply Kd.R_drewN | apply Kd.R_drew)); exact Kd.R_mono HO_5.out (fun _ hk => hk.2))); (case aS => exact (below_size (bL HB))); (case aL => have := LMc19.out; omega); intro v385 w22 ho hb hg hat; rw [← Ny384.out] at ho; have HO386 := am ho; replace HO383 := am (Kd.R_after (ok := (fun _ => True)) (rL HO383) hg hat); replace HB := am hb; clear HO_5; clear ho hb hg hat) | ((with_reducible refine gc 67 rfl ?_); refine gl_ (some 47) Try.func67 #[.slice (some ad380) l0.length c0, .int .i64 x6_2] rfl ?_; (with_reducible refine (spec_l5After.calls k2 _ _ l0 x6_2 t387 _ ?side1 ?side2 A20.out).mono ?_); (case side1 => repeat (first | exact (Kd.C_below HR0.out HB.out) | (with_reducible refine Kd.C_alloc ?_ _) | (with_reducible refine Kd.C_drewN ?_ _) | (with_reducible refine Kd.C_drew ?_))); (case side2 => exact HC0.out); rintro e w' ⟨rfl, ⟨nd, rfl⟩⟩; refine ⟨_, rfl, ?_⟩))
 go_roundg k2
 case measure => have := HJ2.out; have := HK2.out; omega
 case rel => exact ⟨(y384), (t387), (wrap64 (x7_2 + 1)), sr, sr, H', ⟨by have := HJ2.out; have := HK2.out; omega⟩, ⟨R_later (Kd.R_mono HO386.out (fun _ hk => trivial))⟩, ⟨bL HB⟩⟩
/-! ### spec_RecEmpty: function 69 -/
def spec_RecEmpty.f (k : Nat) (l0 : List (S94)) : Option ((List (S30)) × Bool) := (spec_SchemaOk.f k l0).bind fun t389 => (if t389 = true then ((spec_l13Empty.f k l0 0).bind fun t390 => (some (t390, true))) else (some (([] : List (S30)), false)))
theorem spec_RecEmpty.calls {k : Nat} {A0 : Option Addr} {c0 : Nat} {l0 : List (S94)} {r1 : List (S30)} {r2 : Bool} {w : World} (hr0 : Kd.C k94 w A0 l0.length l0) (hc0 : l0.length ≤ c0) (h : spec_RecEmpty.f k l0 = some (r1, r2)) :
    Calls Try.prog 69 #[.slice A0 l0.length c0] w fun e w' => ∃ v0_ : Value, e = .returned (.tuple #[.agg #[v0_], .bool r2]) ∧ Kd.R k30 30 w' w.heap.size (fun _ => True) v0_ r1 ∧ Below w.heap.size w w' := by
 have hu100 := Try.underlying100
 have HR0 := am hr0
 have HC0 := am hc0
 clear hr0 hc0
 have HB := am (Below.refl w.heap.size w)
 have H := h; clear h; unfold spec_RecEmpty.f at H
 replace H := bnd H; obtain ⟨t389, A2, H⟩ := H
 replace H := ibt H; obtain ⟨rfl, H⟩ | ⟨rfl, H⟩ := H
 rotate_left
 · replace H := sj2 H; obtain ⟨rfl, rfl⟩ := H
   go_enter Try.func69, Try.ntmps69
   go_wp2_with (first | ((with_reducible refine gd 2 rfl ?_); refine bxw 2 rfl #[.slice none 0 0] 100 HB ?_; clear HB; intro gb388 w10 BK388 GW388 GE388 HB) | ((with_reducible refine gc 48 rfl ?_); refine gl_ (some 5) Try.func48 #[.slice A0 l0.length c0] rfl ?_; (with_reducible refine (spec_SchemaOk.calls ?side1 ?side2 A2.out).mono ?_); (case side1 => repeat (first | exact (Kd.C_below HR0.out HB.out) | (with_reducible refine Kd.C_alloc ?_ _) | (with_reducible refine Kd.C_drewN ?_ _) | (with_reducible refine Kd.C_drew ?_))); (case side2 => exact HC0.out); rintro e w11 ⟨rfl, hb⟩; refine ⟨_, rfl, ?_⟩; replace BK388 := bkb BK388 hb; replace HB := bst HB hb; clear hb; obtain ⟨_, _⟩ := cl1 BK388))
   refine bodyPost_ret (results_ct rfl _ _ gb388 100 #[.slice none 0 0] (0, 0) _ rfl (kL BK388) Try.underlying100 rfl (by kernel_rfl)) rfl ?_
   exact ⟨_, fin_ ⟨by first | exact Kd.R_nil _ _ _ _ _ | exact Kd.N_nil _ _ _ _ _ | exact Kd.V_nil _ _ _ _ _ | exact Kd.Q_nil _ _ _ _ _ | exact Kd.S_nil _ _ _ _ _, bL HB⟩⟩
 replace H := bnd H; obtain ⟨t390, A4, H⟩ := H
 replace H := sj2 H; obtain ⟨rfl, rfl⟩ := H
 go_enter Try.func69, Try.ntmps69
 go_wp2_with (first | ((with_reducible refine gd 2 rfl ?_); refine bxw 2 rfl #[.slice none 0 0] 100 HB ?_; clear HB; intro gb388 w5 BK388 GW388 GE388 HB) | ((with_reducible refine gc 48 rfl ?_); refine gl_ (some 5) Try.func48 #[.slice A0 l0.length c0] rfl ?_; (with_reducible refine (spec_SchemaOk.calls ?side1 ?side2 A2.out).mono ?_); (case side1 => repeat (first | exact (Kd.C_below HR0.out HB.out) | (with_reducible refine Kd.C_alloc ?_ _) | (with_reducible refine Kd.C_drewN ?_ _) | (with_reducible refine Kd.C_drew ?_))); (case side2 => exact HC0.out); rintro e w6 ⟨rfl, hb⟩; refine ⟨_, rfl, ?_⟩; replace BK388 := bkb BK388 hb; replace HB := bst HB hb; clear hb) | ((with_reducible refine gc 84 rfl ?_); refine gl_ (some 9) Try.func84 #[.slice A0 l0.length c0, .int .i64 0] rfl ?_; (with_reducible refine (spec_l13Empty.calls k _ _ l0 0 t390 _ ?side1 ?side2 A4.out).mono ?_); (case side1 => repeat (first | exact (Kd.C_below HR0.out HB.out) | (with_reducible refine Kd.C_alloc ?_ _) | (with_reducible refine Kd.C_drewN ?_ _) | (with_reducible refine Kd.C_drew ?_))); (case side2 => exact HC0.out); rintro e w7 ⟨v391, rfl, ho0, hb⟩; refine ⟨_, rfl, ?_⟩; have HO392 := rlb ho0 HB; replace BK388 := bkb BK388 hb; replace HB := bst HB hb; clear hb ho0; obtain ⟨Ao8, co8, eo8⟩ := Kd.R_slice HO392.out; subst eo8; obtain ⟨_, _⟩ := cl1 BK388))
 refine bodyPost_ret (results_ct rfl _ _ gb388 100 #[.slice Ao8 t390.length co8] (0, 0) _ rfl (kL BK388) Try.underlying100 rfl (by kernel_rfl)) rfl ?_
 exact ⟨_, fin_ ⟨by (with_reducible repeat (first | apply Kd.R_alloc | apply Kd.R_drewN | apply Kd.R_drew)); exact Kd.R_mono (Kd.R_far (p := ⟨gb388, 0, none⟩) (Kd.R_types HO392.out BK388.out (by decide)) (fun _ hk => hk.2) (.slice Ao8 t390.length co8)) (fun _ hk => trivial), bL HB⟩⟩
-- NOT PRINTED: function 52 (spec_l13DrawRight)

-- NOT PRINTED: function 26 (spec_l14DrawRecs)

/-! ### spec_SchemaLeaves: function 54 -/
def spec_SchemaLeaves.f (k : Nat) (l0 : List (S94)) : Option (List Int) := (spec_SchemaOk.f k l0).bind fun t414 => (if t414 = true then ((spec_l5Leaves.f k l0).bind fun t415 => (some t415)) else (some (([] : List Int))))
theorem spec_SchemaLeaves.calls {k : Nat} {A0 : Option Addr} {c0 : Nat} {l0 : List (S94)} {r : List Int} {w : World} (hr0 : Kd.C k94 w A0 l0.length l0) (hc0 : l0.length ≤ c0) (h : spec_SchemaLeaves.f k l0 = some r) :
    Calls Try.prog 54 #[.slice A0 l0.length c0] w fun e w' => ∃ v0_ : Value, e = .returned (v0_) ∧ Kd.R (Kd.int .i64) 3 w' w.heap.size (fun _ => True) v0_ r ∧ Below w.heap.size w w' := by
 have HR0 := am hr0
 have HC0 := am hc0
 clear hr0 hc0
 have HB := am (Below.refl w.heap.size w)
 have H := h; clear h; unfold spec_SchemaLeaves.f at H
 replace H := bnd H; obtain ⟨t414, A2, H⟩ := H
 replace H := ibt H; obtain ⟨rfl, H⟩ | ⟨rfl, H⟩ := H
 · replace H := bnd H; obtain ⟨t415, A4, H⟩ := H
   obtain rfl := Option.some.inj H
   go_enter Try.func54, Try.ntmps54
   go_wp2_with (first | ((with_reducible refine gc 48 rfl ?_); refine gc1 (some 4) Try.func48 rfl (spec_SchemaOk.calls (C_later HR0.out) HC0.out A2.out) ?_; rintro w5 hb; replace HB := bst HB hb; clear hb) | ((with_reducible refine gc 49 rfl ?_); refine gl_ (some 8) Try.func49 #[.slice A0 l0.length c0] rfl ?_; (with_reducible refine (spec_l5Leaves.calls ?side1 ?side2 A4.out).mono ?_); (case side1 => repeat (first | exact (Kd.C_below HR0.out HB.out) | (with_reducible refine Kd.C_alloc ?_ _) | (with_reducible refine Kd.C_drewN ?_ _) | (with_reducible refine Kd.C_drew ?_))); (case side2 => exact HC0.out); rintro e w6 ⟨v416, rfl, ho0, hb⟩; refine ⟨_, rfl, ?_⟩; have HO417 := rlb ho0 HB; replace HB := bst HB hb; clear hb ho0))
   go_ret
   exact ⟨_, fin_ ⟨by (with_reducible repeat (first | apply Kd.R_alloc | apply Kd.R_drewN | apply Kd.R_drew)); exact HO417.out, bL HB⟩⟩
 obtain ⟨y418, hy418⟩ : ∃ y_ : List Int, y_ = (([] : List Int)) := ⟨_, rfl⟩
 replace H : (some y418) = some r := by first | (rw [hy418]; with_reducible exact H) | (rw [hy418]; exact H) | exact H
 have Ny418 := am hy418
 clear hy418
 obtain rfl := Option.some.inj H
 go_enter Try.func54, Try.ntmps54
 go_wp2_with (first | ((with_reducible refine gc 48 rfl ?_); refine gc1 (some 4) Try.func48 rfl (spec_SchemaOk.calls (C_later HR0.out) HC0.out A2.out) ?_; rintro w7 hb; replace HB := bst HB hb; clear hb) | ((with_reducible refine gd 6 rfl ?_); refine Kd.R_lit (Kd.int .i64) _ 3 ?hg (N := 6) ?hd (xs := ([] : List Int)) (inner := []) (ok := fun _ => True) (okp := fun _ => True) ?hr ?hp (fun _ hk => hk) trivial (Below.refl _ _) (Nat.le_refl _) (by simp) ?_; (case hd => rfl); (case hg => rfl); (case hr => first | (go_simp; done) | (go_simp; rfl)); (case hp => exact (Reps.none _ _)); intro v419 w8 ho9 hb hg_ hnew_; clear hg_ hnew_; (first | rw [← Ny418.out] at ho9 | (simp only [Int.reduceToNat] at ho9; rw [← Ny418.out] at ho9)); have HO420 := rlb ho9 HB; replace HB := bst HB hb; clear hb ho9))
 go_ret
 exact ⟨_, fin_ ⟨by (with_reducible repeat (first | apply Kd.R_alloc | apply Kd.R_drewN | apply Kd.R_drew)); exact HO420.out, bL HB⟩⟩
end Go.Proofs.Ytnlgodcbnlbdkaa.PFnStats
