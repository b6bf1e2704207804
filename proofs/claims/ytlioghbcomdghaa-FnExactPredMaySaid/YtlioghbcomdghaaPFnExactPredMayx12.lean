/- The machine's side of FnExactPredMay, written by wip/tools/hyb.py of this repo: each Go function as a plain Lean function, and the proof that the call comes to just its answer. No condition. -/
import Derived.Test.YtlioghbcomdghaaPFnExactPredMayx0
import Derived.Test.YtlioghbcomdghaaPFnExactPredMayx8
import Derived.Test.YtlioghbcomdghaaPFnExactPredMayx9
import Derived.Test.YtlioghbcomdghaaPFnExactPredMayx10
import Derived.Test.YtlioghbcomdghaaPFnExactPredMayx11
namespace Go.Proofs.Ytlioghbcomdghaa.PFnExactPredMay
open Go.RowKit Go.Proofs.YtlioghbcomdghaaW.PrintWords Go.Proofs.YtlioghbcomdghaaW.PrintLast Go.Proofs.YtlioghbcomdghaaW.PrintMore Go.Proofs.YtlioghbcomdghaaW.PrintMore2
attribute [local go_sem] max2_int min2_int max_two min_two max_three min_three max_four min_four   -- for this text's walks alone
set_option linter.unusedVariables false
set_option linter.unusedSimpArgs false

/-! ### impl_PredMay: function 11 -/
mutual
def impl_PredMay.j0 : Nat → List (S57) → List (S61) → List (S66) → Bool → Option (Bool × Bool)
 | 0, _, _, _, _ => none
 | k + 1, x0, x1, x2, x25 => if x25 = true then (some (false, false)) else (if 0 ≤ (x1.length : Int) then (if ((x1.length : Int) : Int).toNat ≤ 281474976710656 then (impl_PredMay.l0 k x0 x1 x2 (List.replicate ((x1.length : Int) : Int).toNat false) (List.replicate ((x1.length : Int) : Int).toNat false) x1 (x1.length : Int) 0) else (none)) else (none))
def impl_PredMay.l0 : Nat → List (S57) → List (S61) → List (S66) → List Bool → List Bool → List (S61) → Int → Int → Option (Bool × Bool)
 | 0, _, _, _, _, _, _, _, _ => none
 | k + 1, x0, x1, x2, x8, x9, x32, x33, x34 => if x34 < x33 then (if 0 ≤ x34 then (if x34 < (x32.length : Int) then (if ((rd_T61 x32 x34).f0) = 5 then (if 0 ≤ ((rd_T61 x32 x34).f3) then (if ((rd_T61 x32 x34).f3) < (x8.length : Int) then (if rdOf false x8 ((rd_T61 x32 x34).f3) = true then (if 0 ≤ ((rd_T61 x32 x34).f4) then (if ((rd_T61 x32 x34).f4) < (x8.length : Int) then (if ((rd_T61 x32 x34).f3) < (x9.length : Int) then (if rdOf false x9 ((rd_T61 x32 x34).f3) = true then (if x34 < (x8.length : Int) then (if x34 < (x9.length : Int) then (impl_PredMay.l0 k x0 x1 x2 (x8.set (x34 : Int).toNat (rdOf false x8 ((rd_T61 x32 x34).f4))) (x9.set (x34 : Int).toNat true) x32 x33 (wrap64 (x34 + 1))) else (none)) else (none)) else (if ((rd_T61 x32 x34).f4) < (x9.length : Int) then (if x34 < (x8.length : Int) then (if x34 < (x9.length : Int) then (impl_PredMay.l0 k x0 x1 x2 (x8.set (x34 : Int).toNat (rdOf false x8 ((rd_T61 x32 x34).f4))) (x9.set (x34 : Int).toNat (rdOf false x9 ((rd_T61 x32 x34).f4))) x32 x33 (wrap64 (x34 + 1))) else (none)) else (none)) else (none))) else (none)) else (none)) else (none)) else (if ((rd_T61 x32 x34).f3) < (x9.length : Int) then (if rdOf false x9 ((rd_T61 x32 x34).f3) = true then (if x34 < (x8.length : Int) then (if x34 < (x9.length : Int) then (impl_PredMay.l0 k x0 x1 x2 (x8.set (x34 : Int).toNat false) (x9.set (x34 : Int).toNat true) x32 x33 (wrap64 (x34 + 1))) else (none)) else (none)) else (if 0 ≤ ((rd_T61 x32 x34).f4) then (if ((rd_T61 x32 x34).f4) < (x9.length : Int) then (if x34 < (x8.length : Int) then (if x34 < (x9.length : Int) then (impl_PredMay.l0 k x0 x1 x2 (x8.set (x34 : Int).toNat false) (x9.set (x34 : Int).toNat (rdOf false x9 ((rd_T61 x32 x34).f4))) x32 x33 (wrap64 (x34 + 1))) else (none)) else (none)) else (none)) else (none))) else (none))) else (none)) else (none)) else (if ((rd_T61 x32 x34).f0) = 6 then (if 0 ≤ ((rd_T61 x32 x34).f3) then (if ((rd_T61 x32 x34).f3) < (x8.length : Int) then (if rdOf false x8 ((rd_T61 x32 x34).f3) = true then (if ((rd_T61 x32 x34).f3) < (x9.length : Int) then (if rdOf false x9 ((rd_T61 x32 x34).f3) = true then (if 0 ≤ ((rd_T61 x32 x34).f4) then (if ((rd_T61 x32 x34).f4) < (x9.length : Int) then (if x34 < (x8.length : Int) then (if x34 < (x9.length : Int) then (impl_PredMay.l0 k x0 x1 x2 (x8.set (x34 : Int).toNat true) (x9.set (x34 : Int).toNat (rdOf false x9 ((rd_T61 x32 x34).f4))) x32 x33 (wrap64 (x34 + 1))) else (none)) else (none)) else (none)) else (none)) else (if x34 < (x8.length : Int) then (if x34 < (x9.length : Int) then (impl_PredMay.l0 k x0 x1 x2 (x8.set (x34 : Int).toNat true) (x9.set (x34 : Int).toNat false) x32 x33 (wrap64 (x34 + 1))) else (none)) else (none))) else (none)) else (if 0 ≤ ((rd_T61 x32 x34).f4) then (if ((rd_T61 x32 x34).f4) < (x8.length : Int) then (if ((rd_T61 x32 x34).f3) < (x9.length : Int) then (if rdOf false x9 ((rd_T61 x32 x34).f3) = true then (if ((rd_T61 x32 x34).f4) < (x9.length : Int) then (if x34 < (x8.length : Int) then (if x34 < (x9.length : Int) then (impl_PredMay.l0 k x0 x1 x2 (x8.set (x34 : Int).toNat (rdOf false x8 ((rd_T61 x32 x34).f4))) (x9.set (x34 : Int).toNat (rdOf false x9 ((rd_T61 x32 x34).f4))) x32 x33 (wrap64 (x34 + 1))) else (none)) else (none)) else (none)) else (if x34 < (x8.length : Int) then (if x34 < (x9.length : Int) then (impl_PredMay.l0 k x0 x1 x2 (x8.set (x34 : Int).toNat (rdOf false x8 ((rd_T61 x32 x34).f4))) (x9.set (x34 : Int).toNat false) x32 x33 (wrap64 (x34 + 1))) else (none)) else (none))) else (none)) else (none)) else (none))) else (none)) else (none)) else (if ((rd_T61 x32 x34).f0) = 7 then (if 0 ≤ ((rd_T61 x32 x34).f3) then (if ((rd_T61 x32 x34).f3) < (x9.length : Int) then (if ((rd_T61 x32 x34).f3) < (x8.length : Int) then (if x34 < (x8.length : Int) then (if x34 < (x9.length : Int) then (impl_PredMay.l0 k x0 x1 x2 (x8.set (x34 : Int).toNat (rdOf false x9 ((rd_T61 x32 x34).f3))) (x9.set (x34 : Int).toNat (rdOf false x8 ((rd_T61 x32 x34).f3))) x32 x33 (wrap64 (x34 + 1))) else (none)) else (none)) else (none)) else (none)) else (none)) else ((impl_LeafOf.f k x0 ((rd_T61 x32 x34).f1)).bind fun bt432 => (if 0 ≤ ((rd_T61 x32 x34).f1) then (if ((rd_T61 x32 x34).f1) < (x2.length : Int) then ((impl_may.f k bt432.1 ((rd_T61 x32 x34).f0) ((rd_T61 x32 x34).f1) ((rd_T61 x32 x34).f2.f0) ((rd_T61 x32 x34).f2.f1) ((rd_T61 x32 x34).f3) ((rd_T61 x32 x34).f4) ((rd_T66 x2 ((rd_T61 x32 x34).f1)).f0) ((rd_T66 x2 ((rd_T61 x32 x34).f1)).f1.f0) ((rd_T66 x2 ((rd_T61 x32 x34).f1)).f1.f1) ((rd_T66 x2 ((rd_T61 x32 x34).f1)).f1.f2.f0) ((rd_T66 x2 ((rd_T61 x32 x34).f1)).f1.f2.f1) ((rd_T66 x2 ((rd_T61 x32 x34).f1)).f1.f3.f0) ((rd_T66 x2 ((rd_T61 x32 x34).f1)).f1.f3.f1)).bind fun bt438 => (if x34 < (x8.length : Int) then (if x34 < (x9.length : Int) then (impl_PredMay.l0 k x0 x1 x2 (x8.set (x34 : Int).toNat bt438.1) (x9.set (x34 : Int).toNat bt438.2) x32 x33 (wrap64 (x34 + 1))) else (none)) else (none))) else (none)) else (none)))))) else (none)) else (none)) else (if 0 ≤ (wrap64 ((x1.length : Int) - 1)) then (if (wrap64 ((x1.length : Int) - 1)) < (x8.length : Int) then (if (wrap64 ((x1.length : Int) - 1)) < (x9.length : Int) then (some (rdOf false x8 (wrap64 ((x1.length : Int) - 1)), rdOf false x9 (wrap64 ((x1.length : Int) - 1)))) else (none)) else (none)) else (none))
end
def impl_PredMay.f (k : Nat) (l0 : List (S57)) (l1 : List (S61)) (l2 : List (S66)) : Option (Bool × Bool) := (impl_PredOk.f k l0 l1).bind fun t386 => (if t386 = true then ((impl_leavesOf.f k l0).bind fun t387 => (impl_PredMay.j0 k l0 l1 l2 ((l2.length : Int) != (t387.length : Int)))) else (impl_PredMay.j0 k l0 l1 l2 true))
def impl_PredMay.T10 : Bool × List (List Nat × List Nat) := (true, [([], []), ([], []), ([], []), ([], []), ([], []), ([4], [4]), ([], []), ([], []), ([], []), ([8], [8]), ([7, 9], [7, 9]), ([10], [10]), ([5, 6, 11], [5, 6, 11]), ([12], [12]), ([13], [13]), ([13], [13]), ([0, 1, 0, 1, 4, 5, 6, 7, 8, 9, 10, 11, 12, 13, 14], [0, 1]), ([16, 14, 12, 0, 1, 4, 5, 6, 7, 8, 9, 10, 11, 12, 13, 14], [14, 16]), ([2, 3, 0, 1, 2, 3, 4, 5, 6, 7, 8, 9, 10, 11, 12, 13, 14, 15, 16, 17], [2, 3]), ([18, 15, 17, 0, 1, 2, 3, 4, 5, 6, 7, 8, 9, 10, 11, 12, 13, 14, 15, 16, 17], [15, 18])])
def impl_PredMay.B10 : List Nat := [0, 0, 0, 0, 0, 16, 0, 0, 0, 256, 896, 1920, 4080, 8176, 16368, 16368, 32755, 98291, 262143, 524287]
theorem impl_PredMay.tab10 : rtab .any (opsOf Try.f11 10) = impl_PredMay.T10 := by kernel_rfl
theorem impl_PredMay.bits10 : waitsOk impl_PredMay.T10.2 impl_PredMay.B10 = true := by kernel_rfl
def impl_PredMay.T12 : Bool × List (List Nat × List Nat) := (true, [([], []), ([], []), ([], []), ([], []), ([], []), ([], []), ([5], [5]), ([4, 6], [4, 6]), ([7], [7]), ([8], [8]), ([9], [9]), ([9], [9]), ([11, 9], [9, 11]), ([10, 12, 9], [9, 10, 12]), ([13, 9], [9, 13]), ([9, 14], [9, 14]), ([], []), ([], []), ([17], [17]), ([16, 18], [16, 18]), ([19], [19]), ([20, 9], [20]), ([21], [21]), ([21], [21]), ([23, 21], [21, 23]), ([22, 24, 21], [21, 22, 24]), ([25, 21], [21, 25]), ([21, 26], [21, 26]), ([0, 1, 0, 1, 4, 5, 6, 7, 8, 9, 10, 11, 12, 13, 14, 15, 20, 26], [0, 1]), ([28, 15, 21, 0, 1, 4, 5, 6, 7, 8, 9, 10, 11, 12, 13, 14, 15, 20, 26], [15, 28]), ([2, 3, 0, 1, 2, 3, 4, 5, 6, 7, 8, 9, 10, 11, 12, 13, 14, 15, 16, 17, 18, 19, 20, 21, 22, 23, 24, 25, 26, 27, 28, 29], [2, 3]), ([30, 27, 29, 0, 1, 2, 3, 4, 5, 6, 7, 8, 9, 10, 11, 12, 13, 14, 15, 16, 17, 18, 19, 20, 21, 22, 23, 24, 25, 26, 27, 28, 29], [27, 30])])
def impl_PredMay.B12 : List Nat := [0, 0, 0, 0, 0, 0, 32, 112, 240, 496, 1008, 1008, 3056, 8176, 16368, 32752, 0, 0, 131072, 458752, 983040, 2032624, 4129776, 4129776, 12518384, 33489904, 67044336, 134153200, 134217715, 402653171, 1073741823, 2147483647]
theorem impl_PredMay.tab12 : rtab .any (opsOf Try.f11 12) = impl_PredMay.T12 := by kernel_rfl
theorem impl_PredMay.bits12 : waitsOk impl_PredMay.T12.2 impl_PredMay.B12 = true := by kernel_rfl
def impl_PredMay.T14 : Bool × List (List Nat × List Nat) := (true, [([], []), ([], []), ([], []), ([], []), ([], []), ([], []), ([5], [5]), ([4, 6], [4, 6]), ([7], [7]), ([8], [8]), ([9], [9]), ([9], [9]), ([11, 9], [9, 11]), ([10, 12, 9], [9, 10, 12]), ([13, 9], [9, 13]), ([9, 14], [9, 14]), ([], []), ([], []), ([17], [17]), ([16, 18], [16, 18]), ([19], [19]), ([20, 9], [20]), ([21], [21]), ([21], [21]), ([23, 21], [21, 23]), ([22, 24, 21], [21, 22, 24]), ([25, 21], [21, 25]), ([21, 26], [21, 26]), ([0, 1, 0, 1, 4, 5, 6, 7, 8, 9, 10, 11, 12, 13, 14, 15, 20, 26], [0, 1]), ([28, 15, 21, 0, 1, 4, 5, 6, 7, 8, 9, 10, 11, 12, 13, 14, 15, 20, 26], [15, 28]), ([2, 3, 0, 1, 2, 3, 4, 5, 6, 7, 8, 9, 10, 11, 12, 13, 14, 15, 16, 17, 18, 19, 20, 21, 22, 23, 24, 25, 26, 27, 28, 29], [2, 3]), ([30, 27, 29, 0, 1, 2, 3, 4, 5, 6, 7, 8, 9, 10, 11, 12, 13, 14, 15, 16, 17, 18, 19, 20, 21, 22, 23, 24, 25, 26, 27, 28, 29], [27, 30])])
def impl_PredMay.B14 : List Nat := [0, 0, 0, 0, 0, 0, 32, 112, 240, 496, 1008, 1008, 3056, 8176, 16368, 32752, 0, 0, 131072, 458752, 983040, 2032624, 4129776, 4129776, 12518384, 33489904, 67044336, 134153200, 134217715, 402653171, 1073741823, 2147483647]
theorem impl_PredMay.tab14 : rtab .any (opsOf Try.f11 14) = impl_PredMay.T14 := by kernel_rfl
theorem impl_PredMay.bits14 : waitsOk impl_PredMay.T14.2 impl_PredMay.B14 = true := by kernel_rfl
def impl_PredMay.T16 : Bool × List (List Nat × List Nat) := (true, [([], []), ([], []), ([], []), ([], []), ([], []), ([], []), ([5], [5]), ([4, 6], [4, 6]), ([7], [7]), ([], []), ([], []), ([10], [10]), ([9, 11], [9, 11]), ([12], [12]), ([0, 1, 0, 1, 4, 5, 6, 7, 8, 13], [0, 1]), ([14, 8, 0, 1, 4, 5, 6, 7, 8, 13], [8, 14]), ([2, 3, 0, 1, 2, 3, 4, 5, 6, 7, 8, 9, 10, 11, 12, 13, 14, 15], [2, 3]), ([16, 13, 15, 0, 1, 2, 3, 4, 5, 6, 7, 8, 9, 10, 11, 12, 13, 14, 15], [13, 16])])
def impl_PredMay.B16 : List Nat := [0, 0, 0, 0, 0, 0, 32, 112, 240, 0, 0, 1024, 3584, 7680, 16371, 32755, 65535, 131071]
theorem impl_PredMay.tab16 : rtab .any (opsOf Try.f11 16) = impl_PredMay.T16 := by kernel_rfl
theorem impl_PredMay.bits16 : waitsOk impl_PredMay.T16.2 impl_PredMay.B16 = true := by kernel_rfl
def impl_PredMay.T18 : Bool × List (List Nat × List Nat) := (true, [([], []), ([], []), ([1], [1]), ([2], [2]), ([0, 3], [0, 3]), ([4], [4]), ([], []), ([], []), ([7], [7]), ([8], [8]), ([6, 9], [6, 9]), ([10], [10]), ([5, 0, 1, 2, 3, 4, 5], [5]), ([11, 12, 0, 1, 2, 3, 4, 5, 6, 7, 8, 9, 10, 11, 12], [11])])
def impl_PredMay.B18 : List Nat := [0, 0, 2, 6, 15, 31, 0, 0, 128, 384, 960, 1984, 63, 8191]
theorem impl_PredMay.tab18 : rtab .any (opsOf Try.f11 18) = impl_PredMay.T18 := by kernel_rfl
theorem impl_PredMay.bits18 : waitsOk impl_PredMay.T18.2 impl_PredMay.B18 = true := by kernel_rfl
set_option maxHeartbeats 8000000 in
set_option maxRecDepth 100000 in
theorem impl_PredMay.calls (k : Nat) (A0 : Option Addr) (c0 : Nat) (l0 : List (S57)) (A1 : Option Addr) (c1 : Nat) (l1 : List (S61)) (A2 : Option Addr) (c2 : Nat) (l2 : List (S66)) (r1 : Bool) (r2 : Bool) (w : World) (hr0 : Kd.C k57 w A0 l0.length l0) (hc0 : l0.length ≤ c0) (hr1 : Kd.C k61 w A1 l1.length l1) (hc1 : l1.length ≤ c1) (hr2 : Kd.C k66 w A2 l2.length l2) (hc2 : l2.length ≤ c2) (h : impl_PredMay.f k l0 l1 l2 = some (r1, r2)) :
  Calls Try.prog 11 #[.slice A0 l0.length c0, .slice A1 l1.length c1, .slice A2 l2.length c2] w fun e w' => e = .returned (.tuple #[.bool r1, .bool r2]) ∧ Below w.heap.size w w' := by
 have hu61 := Try.underlying61
 have hu70 := Try.underlying70
 have hu66 := Try.underlying66
 have HR0 := Aside0.mk hr0
 have HC0 := Aside0.mk hc0
 clear hr0 hc0
 have HR1 := Aside0.mk hr1
 have HC1 := Aside0.mk hc1
 clear hr1 hc1
 have HR2 := Aside0.mk hr2
 have HC2 := Aside0.mk hc2
 clear hr2 hc2
 have HB := Aside0.mk (Below.refl w.heap.size w)
 have H : ((impl_PredOk.f k l0 l1).bind fun t386 => (if t386 = true then ((impl_leavesOf.f k l0).bind fun t387 => (impl_PredMay.j0 k l0 l1 l2 ((l2.length : Int) != (t387.length : Int)))) else (impl_PredMay.j0 k l0 l1 l2 true))) = some (r1, r2) := h
 clear h
 have HC4 := Aside0.mk H
 clear H
 go_enter Try.func11, Try.ntmps11
 go_upto_region 1 with (fail)
 go_cut [25] (fun v25 wc => ∃ (kq : Nat) (x25_3 : Bool), v25 = .bool x25_3 ∧ Aside0 (impl_PredMay.j0 kq l0 l1 l2 x25_3 = some (r1, r2)) ∧ Aside0 (kq ≤ k) ∧ Aside0 (Below w.heap.size w wc))
 case first =>
  have H := HC4.out
  clear HC4
  replace H := bnd H
  obtain ⟨t386, A5, H⟩ := H
  by_cases c6 : t386 = true
  ·
   subst c6
   replace H := ifp rfl H
   replace H := bnd H
   obtain ⟨t387, A7, H⟩ := H
   have H' := Aside0.mk H
   clear H
   go_wp2_with (first | ((with_reducible refine gate_callee (f := 24) rfl ?_); refine gl_ (some 16) Try.func24 #[.slice A0 l0.length c0, .slice A1 l1.length c1] rfl ?_; (with_reducible refine (impl_PredOk.calls k _ _ l0 _ _ l1 true _ ?side1 ?side2 ?side3 ?side4 A5.out).mono ?_); (case side1 => repeat (first | exact (Kd.C_below HR0.out HB.out) | (with_reducible refine Kd.C_alloc ?_ _) | (with_reducible refine Kd.C_drewN ?_ _) | (with_reducible refine Kd.C_drew ?_))); (case side2 => exact HC0.out); (case side3 => repeat (first | exact (Kd.C_below HR1.out HB.out) | (with_reducible refine Kd.C_alloc ?_ _) | (with_reducible refine Kd.C_drewN ?_ _) | (with_reducible refine Kd.C_drew ?_))); (case side4 => exact HC1.out); rintro e w8 ⟨rfl, hb⟩; refine ⟨_, rfl, ?_⟩; replace HB := bst HB hb; (try clear hb)) | (go_at_call 25; (with_reducible refine (impl_leavesOf.calls k _ _ l0 t387 _ ?side1 ?side2 A7.out).mono ?_); (case side1 => repeat (first | exact (Kd.C_below HR0.out HB.out) | (with_reducible refine Kd.C_alloc ?_ _) | (with_reducible refine Kd.C_drewN ?_ _) | (with_reducible refine Kd.C_drew ?_))); (case side2 => exact HC0.out); rintro e w9 ⟨v388, rfl, ho0, hb⟩; have HO389 := Aside0.mk (Kd.R_lower ho0 (below_size (below_later HB.out))); replace HB := bst HB hb; (try clear hb); (try clear ho0); obtain ⟨Ao10, co10, eo10⟩ := Kd.R_slice HO389.out; subst eo10))
   go_meet
   case rel => exact ⟨_, (((l2.length : Int) != (t387.length : Int))), sr, H', ⟨by first | omega | exact Nat.le_refl _⟩, ⟨below_later HB.out⟩⟩
  ·
   replace c6 := Bool.eq_false_iff.mpr c6
   subst c6
   replace H := ifn Bool.false_ne_true H
   have H' := Aside0.mk H
   clear H
   go_wp2_with (first | ((with_reducible refine gate_callee (f := 24) rfl ?_); refine gl_ (some 16) Try.func24 #[.slice A0 l0.length c0, .slice A1 l1.length c1] rfl ?_; (with_reducible refine (impl_PredOk.calls k _ _ l0 _ _ l1 false _ ?side1 ?side2 ?side3 ?side4 A5.out).mono ?_); (case side1 => repeat (first | exact (Kd.C_below HR0.out HB.out) | (with_reducible refine Kd.C_alloc ?_ _) | (with_reducible refine Kd.C_drewN ?_ _) | (with_reducible refine Kd.C_drew ?_))); (case side2 => exact HC0.out); (case side3 => repeat (first | exact (Kd.C_below HR1.out HB.out) | (with_reducible refine Kd.C_alloc ?_ _) | (with_reducible refine Kd.C_drewN ?_ _) | (with_reducible refine Kd.C_drew ?_))); (case side4 => exact HC1.out); rintro e w11 ⟨rfl, hb⟩; refine ⟨_, rfl, ?_⟩; replace HB := bst HB hb; (try clear hb)))
   go_meet
   case rel => exact ⟨_, (true), sr, H', ⟨by first | omega | exact Nat.le_refl _⟩, ⟨below_later HB.out⟩⟩
 case rest =>
  clear HC4
  try clear c1
  try clear c2
  obtain ⟨kq, x25_3, rfl, HA, HJ3, HB⟩ := hcut
  cases kq with
  | zero => exact absurd HA.out (by simp [impl_PredMay.j0])
  | succ kj3 =>
   have H := HA.out
   clear HA
   simp only [impl_PredMay.j0] at H
   by_cases c12 : x25_3 = true
   ·
    subst c12
    replace H := ifp rfl H
    simp only [Option.some.injEq, Prod.mk.injEq] at H
    obtain ⟨rfl, rfl⟩ := H
    go_wp2
    go_ret2
    exact fin_ (below_later HB.out)
   ·
    replace c12 := Bool.eq_false_iff.mpr c12
    subst c12
    replace H := ifn Bool.false_ne_true H
    by_cases c13 : 0 ≤ (l1.length : Int)
    ·
     rw [if_pos c13] at H
     have c13b0 := eq_true c13
     have c13b1 := decide_eq_true c13
     clear c13
     by_cases c14 : ((l1.length : Int) : Int).toNat ≤ 281474976710656
     ·
      rw [if_pos c14] at H
      have c14b0 := eq_true c14
      have c14b1 := decide_eq_true c14
      clear c14
      obtain ⟨y390, hy390⟩ : ∃ y_ : List Bool, y_ = (List.replicate ((l1.length : Int) : Int).toNat false) := ⟨_, rfl⟩
      replace H : (impl_PredMay.l0 kj3 l0 l1 l2 y390 (List.replicate ((l1.length : Int) : Int).toNat false) l1 (l1.length : Int) 0) = some (r1, r2) := by first | (rw [hy390]; with_reducible exact H) | (rw [hy390]; exact H) | exact H
      have Ny390 := Aside0.mk hy390
      clear hy390
      obtain ⟨y393, hy393⟩ : ∃ y_ : List Bool, y_ = (List.replicate ((l1.length : Int) : Int).toNat false) := ⟨_, rfl⟩
      replace H : (impl_PredMay.l0 kj3 l0 l1 l2 y390 y393 l1 (l1.length : Int) 0) = some (r1, r2) := by first | (rw [hy393]; with_reducible exact H) | (rw [hy393]; exact H) | exact H
      have Ny393 := Aside0.mk hy393
      clear hy393
      have H' := Aside0.mk H
      clear H
      go_wp2_with (first | ((with_reducible refine gate_dst (N := 28) rfl ?_); (try (refine gate_guard (by rfl) ?_; dsimp only)); refine Kd.R_make Kd.bool _ 4 rfl (N := 28) rfl 68 _ _ rfl (l1.length : Int) rfl rfl Try.underlying68 (.bool false) 1 info4 rfl (by decide) (by omega) false (ok := fun _ => True) (okp := fun _ => True) rfl (fun _ hk => hk) trivial (dcd) (Nat.le_trans (Nat.mul_le_mul_right _ (dcd : (l1.length : Int).toNat ≤ 281474976710656)) (by omega)) (Below.refl _ _) (Nat.le_refl _) ?_; intro v391 w15 ho16 hb hg_ hnew_; clear hg_ hnew_; (first | rw [← Ny390.out] at ho16 | (simp only [Int.reduceToNat] at ho16; rw [← Ny390.out] at ho16)); have HO392 := Aside0.mk (Kd.R_lower ho16 (below_size (below_later HB.out))); replace HB := bst HB hb; clear hb ho16) | ((with_reducible refine gate_dst (N := 31) rfl ?_); (try (refine gate_guard (by rfl) ?_; dsimp only)); refine Kd.R_make Kd.bool _ 4 rfl (N := 31) rfl 68 _ _ rfl (l1.length : Int) rfl rfl Try.underlying68 (.bool false) 1 info4 rfl (by decide) (by omega) false (ok := fun _ => True) (okp := fun _ => True) rfl (fun _ hk => hk) trivial (dcd) (Nat.le_trans (Nat.mul_le_mul_right _ (dcd : (l1.length : Int).toNat ≤ 281474976710656)) (by omega)) (Below.refl _ _) (Nat.le_refl _) ?_; intro v394 w17 ho18 hb hg_ hnew_; clear hg_ hnew_; (first | rw [← Ny393.out] at ho18 | (simp only [Int.reduceToNat] at ho18; rw [← Ny393.out] at ho18)); have HO395 := Aside0.mk (Kd.R_lower (Kd.R_new' ho18 (Kd.R_lt (R_later HO392.out))) (below_size (below_later HB.out))); replace HO392 := Aside0.mk (Kd.R_elder' (R_later HO392.out) (Kd.R_base ho18) hb); replace HB := bst HB hb; clear hb ho18))
      go_loopg [34] kj3 (fun kq v34 w' => ∃ (x8_2 : List Bool) (x9_2 : List Bool) (x34_2 : Int), v34 = .int .i64 x34_2 ∧ Aside0 (impl_PredMay.l0 kq l0 l1 l2 x8_2 x9_2 l1 (l1.length : Int) x34_2 = some (r1, r2)) ∧ Aside0 (kq ≤ kj3) ∧ Aside0 (Kd.R Kd.bool 4 w' w.heap.size (fun k_ => some k_ ≠ (v394 : Value).ownBlock) v391 x8_2) ∧ Aside0 (Kd.R Kd.bool 4 w' w.heap.size (fun k_ => some k_ ≠ (v391 : Value).ownBlock) v394 x9_2) ∧ Aside0 (Below w.heap.size w w'))
      case atStart => exact ⟨(y390), (y393), (0), sr, H', ⟨Nat.le_refl _⟩, ⟨R_later (Kd.R_mono HO392.out (fun _ hk => hk.2))⟩, ⟨R_later (Kd.R_mono HO395.out (fun _ hk => hk.2))⟩, ⟨below_later HB.out⟩⟩
      case round =>
       clear H'
       try clear c1
       try clear c2
       try clear c12
       try clear c13
       try clear c13b0
       try clear c13b1
       try clear c14
       try clear c14b0
       try clear c14b1
       obtain ⟨x8_2, x9_2, x34_2, rfl, HA, HK2, HO_8, HO_9, HB⟩ := hrel
       cases gk with
       | zero => exact absurd HA.out (by simp [impl_PredMay.l0])
       | succ k2 =>
        have H := HA.out
        clear HA
        simp only [impl_PredMay.l0] at H
        by_cases c19 : x34_2 < (l1.length : Int)
        ·
         rw [if_pos c19] at H
         have c19b0 := decide_eq_true c19
         clear c19
         by_cases c20 : 0 ≤ x34_2
         ·
          rw [if_pos c20] at H
          have c20b0 := decide_eq_true c20
          clear c20
          by_cases c21 : x34_2 < (l1.length : Int)
          ·
           rw [if_pos c21] at H
           have c21b0 := decide_eq_true c21
           clear c21
           by_cases c22 : ((rd_T61 l1 x34_2).f0) = 5
           ·
            rw [if_pos c22] at H
            have c22b0 : (((rd_T61 l1 x34_2).f0) == 5) = true := beq_iff_eq.mpr c22
            have c22b1 : (((rd_T61 l1 x34_2).f0) != 5) = false := bne_eq_false_iff_eq.mpr c22
            clear c22
            by_cases c23 : 0 ≤ ((rd_T61 l1 x34_2).f3)
            ·
             rw [if_pos c23] at H
             have c23b0 := decide_eq_true c23
             clear c23
             by_cases c24 : ((rd_T61 l1 x34_2).f3) < (x8_2.length : Int)
             ·
              rw [if_pos c24] at H
              have c24b0 := decide_eq_true c24
              clear c24
              obtain ⟨bq25, hbq25⟩ : ∃ b_ : Bool, b_ = (rdOf false x8_2 ((rd_T61 l1 x34_2).f3)) := ⟨_, rfl⟩
              replace H : (if bq25 = true then (if 0 ≤ ((rd_T61 l1 x34_2).f4) then (if ((rd_T61 l1 x34_2).f4) < (x8_2.length : Int) then (if ((rd_T61 l1 x34_2).f3) < (x9_2.length : Int) then (if rdOf false x9_2 ((rd_T61 l1 x34_2).f3) = true then (if x34_2 < (x8_2.length : Int) then (if x34_2 < (x9_2.length : Int) then (impl_PredMay.l0 k2 l0 l1 l2 (x8_2.set (x34_2 : Int).toNat (rdOf false x8_2 ((rd_T61 l1 x34_2).f4))) (x9_2.set (x34_2 : Int).toNat true) l1 (l1.length : Int) (wrap64 (x34_2 + 1))) else (none)) else (none)) else (if ((rd_T61 l1 x34_2).f4) < (x9_2.length : Int) then (if x34_2 < (x8_2.length : Int) then (if x34_2 < (x9_2.length : Int) then (impl_PredMay.l0 k2 l0 l1 l2 (x8_2.set (x34_2 : Int).toNat (rdOf false x8_2 ((rd_T61 l1 x34_2).f4))) (x9_2.set (x34_2 : Int).toNat (rdOf false x9_2 ((rd_T61 l1 x34_2).f4))) l1 (l1.length : Int) (wrap64 (x34_2 + 1))) else (none)) else (none)) else (none))) else (none)) else (none)) else (none)) else (if ((rd_T61 l1 x34_2).f3) < (x9_2.length : Int) then (if rdOf false x9_2 ((rd_T61 l1 x34_2).f3) = true then (if x34_2 < (x8_2.length : Int) then (if x34_2 < (x9_2.length : Int) then (impl_PredMay.l0 k2 l0 l1 l2 (x8_2.set (x34_2 : Int).toNat false) (x9_2.set (x34_2 : Int).toNat true) l1 (l1.length : Int) (wrap64 (x34_2 + 1))) else (none)) else (none)) else (if 0 ≤ ((rd_T61 l1 x34_2).f4) then (if ((rd_T61 l1 x34_2).f4) < (x9_2.length : Int) then (if x34_2 < (x8_2.length : Int) then (if x34_2 < (x9_2.length : Int) then (impl_PredMay.l0 k2 l0 l1 l2 (x8_2.set (x34_2 : Int).toNat false) (x9_2.set (x34_2 : Int).toNat (rdOf false x9_2 ((rd_T61 l1 x34_2).f4))) l1 (l1.length : Int) (wrap64 (x34_2 + 1))) else (none)) else (none)) else (none)) else (none))) else (none))) = some (r1, r2) := by rw [← hbq25] at H; exact H
              have Nbq25 := Aside0.mk hbq25
              clear hbq25
              by_cases c26 : bq25 = true
              ·
               subst c26
               replace H := ifp rfl H
               by_cases c27 : 0 ≤ ((rd_T61 l1 x34_2).f4)
               ·
                rw [if_pos c27] at H
                have c27b0 := decide_eq_true c27
                clear c27
                by_cases c28 : ((rd_T61 l1 x34_2).f4) < (x8_2.length : Int)
                ·
                 rw [if_pos c28] at H
                 have c28b0 := decide_eq_true c28
                 clear c28
                 by_cases c29 : ((rd_T61 l1 x34_2).f3) < (x9_2.length : Int)
                 ·
                  rw [if_pos c29] at H
                  have c29b0 := decide_eq_true c29
                  clear c29
                  obtain ⟨bq30, hbq30⟩ : ∃ b_ : Bool, b_ = (rdOf false x9_2 ((rd_T61 l1 x34_2).f3)) := ⟨_, rfl⟩
                  replace H : (if bq30 = true then (if x34_2 < (x8_2.length : Int) then (if x34_2 < (x9_2.length : Int) then (impl_PredMay.l0 k2 l0 l1 l2 (x8_2.set (x34_2 : Int).toNat (rdOf false x8_2 ((rd_T61 l1 x34_2).f4))) (x9_2.set (x34_2 : Int).toNat true) l1 (l1.length : Int) (wrap64 (x34_2 + 1))) else (none)) else (none)) else (if ((rd_T61 l1 x34_2).f4) < (x9_2.length : Int) then (if x34_2 < (x8_2.length : Int) then (if x34_2 < (x9_2.length : Int) then (impl_PredMay.l0 k2 l0 l1 l2 (x8_2.set (x34_2 : Int).toNat (rdOf false x8_2 ((rd_T61 l1 x34_2).f4))) (x9_2.set (x34_2 : Int).toNat (rdOf false x9_2 ((rd_T61 l1 x34_2).f4))) l1 (l1.length : Int) (wrap64 (x34_2 + 1))) else (none)) else (none)) else (none))) = some (r1, r2) := by rw [← hbq30] at H; exact H
                  have Nbq30 := Aside0.mk hbq30
                  clear hbq30
                  by_cases c31 : bq30 = true
                  ·
                   subst c31
                   replace H := ifp rfl H
                   by_cases c32 : x34_2 < (x8_2.length : Int)
                   ·
                    rw [if_pos c32] at H
                    have c32b0 := decide_eq_true c32
                    clear c32
                    obtain ⟨y403, hy403⟩ : ∃ y_ : List Bool, y_ = (x8_2.set (x34_2 : Int).toNat (rdOf false x8_2 ((rd_T61 l1 x34_2).f4))) := ⟨_, rfl⟩
                    replace H : (if x34_2 < (x9_2.length : Int) then (impl_PredMay.l0 k2 l0 l1 l2 y403 (x9_2.set (x34_2 : Int).toNat true) l1 (l1.length : Int) (wrap64 (x34_2 + 1))) else (none)) = some (r1, r2) := by first | (rw [hy403]; with_reducible exact H) | (rw [hy403]; exact H) | exact H
                    have Ny403 := Aside0.mk hy403
                    clear hy403
                    by_cases c34 : x34_2 < (x9_2.length : Int)
                    ·
                     rw [if_pos c34] at H
                     have c34b0 := decide_eq_true c34
                     clear c34
                     obtain ⟨y404, hy404⟩ : ∃ y_ : List Bool, y_ = (x9_2.set (x34_2 : Int).toNat true) := ⟨_, rfl⟩
                     replace H : (impl_PredMay.l0 k2 l0 l1 l2 y403 y404 l1 (l1.length : Int) (wrap64 (x34_2 + 1))) = some (r1, r2) := by first | (rw [hy404]; with_reducible exact H) | (rw [hy404]; exact H) | exact H
                     have Ny404 := Aside0.mk hy404
                     clear hy404
                     have H' := Aside0.mk H
                     clear H
                     have p398 : 0 ≤ (x34_2 : Int) := dcd
                     have q398 : x34_2 < (l1.length : Int) := dcd
                     obtain ⟨ad398, e398, hx398_0, hx398_1, hx398_2, hx398_3, hx398_4, hx398_5⟩ := at_T61 HR1.out x34_2 p398 q398
                     cases e398
                     replace hx398_0 := crd HB hx398_0
                     replace hx398_1 := crd HB hx398_1
                     replace hx398_2 := crd HB hx398_2
                     replace hx398_3 := crd HB hx398_3
                     replace hx398_4 := crd HB hx398_4
                     replace hx398_5 := crd HB hx398_5
                     replace p398 := eq_true p398
                     replace q398 := eq_true q398
                     try go_wp2_with (first | ((with_reducible refine gate_dst (N := 11) rfl ?_); (try (refine gate_guard (by rfl) ?_; dsimp only)); refine bx_ 11 #[.int .i64 0, .int .i64 0, .int .i64 0, .string (⟨#[]⟩ : ByteArray), .int .i64 0, .int .i64 0] 61 ?_; intro gb399 hg w36 hbox hb; have BK399 := Aside0.mk (hbox); have GW399 := gwe HB hg; have GE399 := GW399; replace HO_8 := Aside0.mk (Kd.R_below (R_later HO_8.out) hb); replace HO_9 := Aside0.mk (Kd.R_below (R_later HO_9.out) hb); replace HB := bst HB hb; clear hb hbox hg; obtain ⟨hcz37_0, hcz37_1, hcz37_2, hcz37_3, hcz37_4, hcz37_5, hfz37_0, hfz37_1, hfz37_2, hfz37_3, hfz37_4, hfz37_5⟩ := cl6 BK399))
                     have n0_ : Aside0 (Kd.R Kd.bool 4 ((((((w36.setCell ⟨gb399, 0, none⟩ (.int .i64 ((rd_T61 l1 x34_2).f0))).setCell ⟨gb399, 1, none⟩ (.int .i64 ((rd_T61 l1 x34_2).f1))).setCell ⟨gb399, 2, none⟩ (.int .i64 ((rd_T61 l1 x34_2).f2.f0))).setCell ⟨gb399, 3, none⟩ (.string ((rd_T61 l1 x34_2).f2.f1))).setCell ⟨gb399, 4, none⟩ (.int .i64 ((rd_T61 l1 x34_2).f3))).setCell ⟨gb399, 5, none⟩ (.int .i64 ((rd_T61 l1 x34_2).f4))) w.heap.size (fun k_ => some k_ ≠ (v394 : Value).ownBlock) v391 x8_2) := ⟨by (with_reducible repeat (first | apply Kd.R_alloc | apply Kd.R_drewN | apply Kd.R_drew)); exact Kd.R_mono (Kd.R_far (p := ⟨gb399, 5, none⟩) (Kd.R_far (p := ⟨gb399, 4, none⟩) (Kd.R_far (p := ⟨gb399, 3, none⟩) (Kd.R_far (p := ⟨gb399, 2, none⟩) (Kd.R_far (p := ⟨gb399, 1, none⟩) (Kd.R_far (p := ⟨gb399, 0, none⟩) (Kd.R_types HO_8.out BK399.out (by decide)) (fun _ hk => hk.2) (.int .i64 ((rd_T61 l1 x34_2).f0))) (fun _ hk => hk.2) (.int .i64 ((rd_T61 l1 x34_2).f1))) (fun _ hk => hk.2) (.int .i64 ((rd_T61 l1 x34_2).f2.f0))) (fun _ hk => hk.2) (.string ((rd_T61 l1 x34_2).f2.f1))) (fun _ hk => hk.2) (.int .i64 ((rd_T61 l1 x34_2).f3))) (fun _ hk => hk.2) (.int .i64 ((rd_T61 l1 x34_2).f4))) (fun _ hk => hk.1)⟩
                     have n1_ : Aside0 (Kd.R Kd.bool 4 ((((((w36.setCell ⟨gb399, 0, none⟩ (.int .i64 ((rd_T61 l1 x34_2).f0))).setCell ⟨gb399, 1, none⟩ (.int .i64 ((rd_T61 l1 x34_2).f1))).setCell ⟨gb399, 2, none⟩ (.int .i64 ((rd_T61 l1 x34_2).f2.f0))).setCell ⟨gb399, 3, none⟩ (.string ((rd_T61 l1 x34_2).f2.f1))).setCell ⟨gb399, 4, none⟩ (.int .i64 ((rd_T61 l1 x34_2).f3))).setCell ⟨gb399, 5, none⟩ (.int .i64 ((rd_T61 l1 x34_2).f4))) w.heap.size (fun k_ => some k_ ≠ (v391 : Value).ownBlock) v394 x9_2) := ⟨by (with_reducible repeat (first | apply Kd.R_alloc | apply Kd.R_drewN | apply Kd.R_drew)); exact Kd.R_mono (Kd.R_far (p := ⟨gb399, 5, none⟩) (Kd.R_far (p := ⟨gb399, 4, none⟩) (Kd.R_far (p := ⟨gb399, 3, none⟩) (Kd.R_far (p := ⟨gb399, 2, none⟩) (Kd.R_far (p := ⟨gb399, 1, none⟩) (Kd.R_far (p := ⟨gb399, 0, none⟩) (Kd.R_types HO_9.out BK399.out (by decide)) (fun _ hk => hk.2) (.int .i64 ((rd_T61 l1 x34_2).f0))) (fun _ hk => hk.2) (.int .i64 ((rd_T61 l1 x34_2).f1))) (fun _ hk => hk.2) (.int .i64 ((rd_T61 l1 x34_2).f2.f0))) (fun _ hk => hk.2) (.string ((rd_T61 l1 x34_2).f2.f1))) (fun _ hk => hk.2) (.int .i64 ((rd_T61 l1 x34_2).f3))) (fun _ hk => hk.2) (.int .i64 ((rd_T61 l1 x34_2).f4))) (fun _ hk => hk.1)⟩
                     have n2_ : Aside0 (((((((w36.setCell ⟨gb399, 0, none⟩ (.int .i64 ((rd_T61 l1 x34_2).f0))).setCell ⟨gb399, 1, none⟩ (.int .i64 ((rd_T61 l1 x34_2).f1))).setCell ⟨gb399, 2, none⟩ (.int .i64 ((rd_T61 l1 x34_2).f2.f0))).setCell ⟨gb399, 3, none⟩ (.string ((rd_T61 l1 x34_2).f2.f1))).setCell ⟨gb399, 4, none⟩ (.int .i64 ((rd_T61 l1 x34_2).f3))).setCell ⟨gb399, 5, none⟩ (.int .i64 ((rd_T61 l1 x34_2).f4))).heap[gb399]? = some (.cells #[.int .i64 ((rd_T61 l1 x34_2).f0), .int .i64 ((rd_T61 l1 x34_2).f1), .int .i64 ((rd_T61 l1 x34_2).f2.f0), .string ((rd_T61 l1 x34_2).f2.f1), .int .i64 ((rd_T61 l1 x34_2).f3), .int .i64 ((rd_T61 l1 x34_2).f4)] 61 (0, 0))) := ⟨blk_later BK399.out⟩
                     have n3_ : Aside0 (Below w.heap.size w ((((((w36.setCell ⟨gb399, 0, none⟩ (.int .i64 ((rd_T61 l1 x34_2).f0))).setCell ⟨gb399, 1, none⟩ (.int .i64 ((rd_T61 l1 x34_2).f1))).setCell ⟨gb399, 2, none⟩ (.int .i64 ((rd_T61 l1 x34_2).f2.f0))).setCell ⟨gb399, 3, none⟩ (.string ((rd_T61 l1 x34_2).f2.f1))).setCell ⟨gb399, 4, none⟩ (.int .i64 ((rd_T61 l1 x34_2).f3))).setCell ⟨gb399, 5, none⟩ (.int .i64 ((rd_T61 l1 x34_2).f4)))) := ⟨below_later HB.out⟩
                     (try clear HO_8)
                     (try clear HO_9)
                     (try clear BK399)
                     (try clear HB)
                     generalize ((((((w36.setCell ⟨gb399, 0, none⟩ (.int .i64 ((rd_T61 l1 x34_2).f0))).setCell ⟨gb399, 1, none⟩ (.int .i64 ((rd_T61 l1 x34_2).f1))).setCell ⟨gb399, 2, none⟩ (.int .i64 ((rd_T61 l1 x34_2).f2.f0))).setCell ⟨gb399, 3, none⟩ (.string ((rd_T61 l1 x34_2).f2.f1))).setCell ⟨gb399, 4, none⟩ (.int .i64 ((rd_T61 l1 x34_2).f3))).setCell ⟨gb399, 5, none⟩ (.int .i64 ((rd_T61 l1 x34_2).f4))) = w38 at n0_ n1_ n2_ n3_ ⊢
                     have HO_8 := n0_
                     have HO_9 := n1_
                     have BK399 := n2_
                     have HB := n3_
                     clear n0_ n1_ n2_ n3_
                     have n0_ := Aside0.mk (Kd.R_drew HO_8.out)
                     have n1_ := Aside0.mk (Kd.R_drew HO_9.out)
                     have n2_ := Aside0.mk (blk_drew BK399.out)
                     have n3_ := Aside0.mk (below_drew1 HB.out)
                     clear HO_8
                     clear HO_9
                     clear BK399
                     clear HB
                     have HO_8 := n0_
                     have HO_9 := n1_
                     have BK399 := n2_
                     have HB := n3_
                     clear n0_ n1_ n2_ n3_
                     obtain ⟨Ao40, co40, eo40⟩ := Kd.R_slice HO_8.out
                     (first | subst eo40 | (injection eo40 with f1_ f2_ f3_; have f4_ := f1_.symm; have f5_ := f3_.symm; clear f1_ f2_ f3_; subst f4_; subst f5_))
                     have p400 : 0 ≤ (((rd_T61 l1 x34_2).f3) : Int) := dcd
                     have q400 : ((rd_T61 l1 x34_2).f3) < (x8_2.length : Int) := dcd
                     obtain ⟨ad400, e400, hx400_0⟩ := Kd.at_bool (Kd.R_reads' HO_8.out).2.2 ((rd_T61 l1 x34_2).f3) p400 q400
                     (try rw [← Nbq25.out] at hx400_0)
                     (try rw [← Nbq30.out] at hx400_0)
                     cases e400
                     replace p400 := eq_true p400
                     replace q400 := eq_true q400
                     have p401 : 0 ≤ (((rd_T61 l1 x34_2).f4) : Int) := dcd
                     have q401 : ((rd_T61 l1 x34_2).f4) < (x8_2.length : Int) := dcd
                     obtain ⟨ad401, e401, hx401_0⟩ := Kd.at_bool (Kd.R_reads' HO_8.out).2.2 ((rd_T61 l1 x34_2).f4) p401 q401
                     (try rw [← Nbq25.out] at hx401_0)
                     (try rw [← Nbq30.out] at hx401_0)
                     obtain rfl : ad400 = ad401 := (by injection e401)
                     replace p401 := eq_true p401
                     replace q401 := eq_true q401
                     obtain ⟨Ao41, co41, eo41⟩ := Kd.R_slice HO_9.out
                     (first | subst eo41 | (injection eo41 with f1_ f2_ f3_; have f4_ := f1_.symm; have f5_ := f3_.symm; clear f1_ f2_ f3_; subst f4_; subst f5_))
                     have p402 : 0 ≤ (((rd_T61 l1 x34_2).f3) : Int) := dcd
                     have q402 : ((rd_T61 l1 x34_2).f3) < (x9_2.length : Int) := dcd
                     obtain ⟨ad402, e402, hx402_0⟩ := Kd.at_bool (Kd.R_reads' HO_9.out).2.2 ((rd_T61 l1 x34_2).f3) p402 q402
                     (try rw [← Nbq25.out] at hx402_0)
                     (try rw [← Nbq30.out] at hx402_0)
                     cases e402
                     replace p402 := eq_true p402
                     replace q402 := eq_true q402
                     have p33 : 0 ≤ (x34_2 : Int) := dcd
                     have q33 : (x34_2 : Int) < ((x8_2.length : Int) : Int) := dcd
                     obtain ⟨go33, co33, eo33, gb33, gl33, cl33, HG33⟩ := Kd.R_form HO_8.out (by omega)
                     (first | cases eo33 | (injection eo33 with ea_ en_ ec_; (first | subst ea_ | (injection ea_ with ea_; subst ea_)); subst ec_; clear en_))
                     have GB33 := Aside0.mk gb33
                     have GG33 := Aside0.mk HG33
                     clear gb33 gl33 HG33
                     (first | simp only [add_plain] at hx400_0 | skip)
                     (first | simp only [add_plain] at hx401_0 | skip)
                     obtain ⟨hx33_0, hf33_0⟩ := Kd.R_celln false HO_8.out (x34_2 : Int) p33 q33
                     replace p33 := eq_true p33
                     replace q33 := eq_true q33
                     have HP42 := Kd.R_putn HO_8.out (x34_2 : Int) (rdOf false x8_2 ((rd_T61 l1 x34_2).f4))
                     rw [← Ny403.out] at HP42
                     have HQ42 := Aside0.mk HP42
                     clear HP42
                     have p35 : 0 ≤ (x34_2 : Int) := dcd
                     have q35 : (x34_2 : Int) < ((x9_2.length : Int) : Int) := dcd
                     obtain ⟨go35, co35, eo35, gb35, gl35, cl35, HG35⟩ := Kd.R_form HO_9.out (by omega)
                     (first | cases eo35 | (injection eo35 with ea_ en_ ec_; (first | subst ea_ | (injection ea_ with ea_; subst ea_)); subst ec_; clear en_))
                     have GB35 := Aside0.mk gb35
                     have GG35 := Aside0.mk HG35
                     clear gb35 gl35 HG35
                     (first | simp only [add_plain] at hx402_0 | skip)
                     obtain ⟨hx35_0, hf35_0⟩ := Kd.R_celln false (Kd.R_far (p := ⟨go33, (x34_2 : Int).toNat, none⟩) (Kd.R_mono HO_9.out (fun k_ hk => (⟨hk, fun e_ => hk (by rw [e_]; rfl)⟩ : _ ∧ k_ ≠ go33))) (fun _ hk => hk.2) (.bool (rdOf false x8_2 ((rd_T61 l1 x34_2).f4)))) (x34_2 : Int) p35 q35
                     replace p35 := eq_true p35
                     replace q35 := eq_true q35
                     have HP43 := Kd.R_putn (Kd.R_far (p := ⟨go33, (x34_2 : Int).toNat, none⟩) (Kd.R_mono HO_9.out (fun k_ hk => (⟨hk, fun e_ => hk (by rw [e_]; rfl)⟩ : _ ∧ k_ ≠ go33))) (fun _ hk => hk.2) (.bool (rdOf false x8_2 ((rd_T61 l1 x34_2).f4)))) (x34_2 : Int) true
                     rw [← Ny404.out] at HP43
                     have HQ43 := Aside0.mk HP43
                     clear HP43
                     refine start_ (n := 32) (S := fun w' => w'.cell? ⟨gb399, 0, none⟩ = some (.int .i64 ((rd_T61 l1 x34_2).f0)) ∧ w'.cell? ⟨gb399, 1, none⟩ = some (.int .i64 ((rd_T61 l1 x34_2).f1)) ∧ w'.cell? ⟨gb399, 2, none⟩ = some (.int .i64 ((rd_T61 l1 x34_2).f2.f0)) ∧ w'.cell? ⟨gb399, 3, none⟩ = some (.string ((rd_T61 l1 x34_2).f2.f1)) ∧ w'.cell? ⟨gb399, 4, none⟩ = some (.int .i64 ((rd_T61 l1 x34_2).f3)) ∧ w'.cell? ⟨gb399, 5, none⟩ = some (.int .i64 ((rd_T61 l1 x34_2).f4)) ∧ w'.cell? ⟨go33, (((rd_T61 l1 x34_2).f3)).toNat, none⟩ = some (.bool true) ∧ w'.cell? ⟨go33, (((rd_T61 l1 x34_2).f4)).toNat, none⟩ = some (.bool (rdOf false x8_2 ((rd_T61 l1 x34_2).f4))) ∧ w'.cell? ⟨go35, (((rd_T61 l1 x34_2).f3)).toNat, none⟩ = some (.bool true)) (ds := [29, 31]) #[false, false, false, false, false, false, false, false, false, false, false, false, false, false, false, false, false, false, false, false, false, false, false, false, false, false, false, false, false, false, false, false] (by kernel_rfl) rfl rfl ⟨(blk_cell BK399.out 0).trans rfl, (blk_cell BK399.out 1).trans rfl, (blk_cell BK399.out 2).trans rfl, (blk_cell BK399.out 3).trans rfl, (blk_cell BK399.out 4).trans rfl, (blk_cell BK399.out 5).trans rfl, hx400_0, hx401_0, hx402_0⟩ (fun hHeld => ?_); refine with_tabW impl_PredMay.tab12 impl_PredMay.bits12 (fun HT_ HW_ => ?_)
                     generalize w38.drew = w39 at HO_8 HO_9 BK399 HB GG33 GG35 HQ42 HQ43 hf33_0 hf35_0 hx33_0 hx35_0 hx400_0 hx401_0 hx402_0 hHeld ⊢
                     refine pu_ 0 68 ?_; refine pu_ 1 69 ?_; refine pu_ 2 70 ?_; refine pu_ 3 71 ?_; refine pu_ 4 72 ?_; refine pu_ 5 73 ?_; refine pu_ 16 84 ?_; refine pu_ 17 85 ?_; refine tk_ 6 74 hHeld ?_; refine pu_ 7 75 ?_; refine tk_ 8 76 hHeld ?_; refine pu_ 9 77 ?_; refine pu_ 10 78 ?_; refine pu_ 11 79 ?_; refine tk_ 12 80 hHeld ?_; refine pu_ 13 81 ?_; refine tk_ 14 82 hHeld ?_; refine pu_ 15 83 ?_; refine tk_ 18 86 hHeld ?_; refine pu_ 19 87 ?_; refine tk_ 20 88 hHeld ?_; refine pu_ 21 89 ?_; refine pn_ 22 90 ?_; refine pn_ 23 91 ?_; refine pn_ 24 92 ?_; refine pn_ 25 93 ?_; refine pn_ 26 94 ?_; refine pu_ 27 95 ?_; refine pu_ 28 96 ?_
                     refine last_ (i := 29) (N := none) #[true, true, true, true, true, true, true, true, true, true, true, true, true, true, true, true, true, true, true, true, true, true, true, true, true, true, true, true, true, true, false, false] rfl rfl (one_of HT_.out (by kernel_rfl)) (by decide) (fun K hK => ?_)
                     refine skip_ (w1 := ?_) (by rfl) rfl ?_ ?_
                     rotate_left
                     ·
                      go_simp
                      rfl
                     refine hK.out _ _ ?_
                     clear hK K
                     refine pu_ 30 97 ?_
                     refine last_ (i := 31) (N := none) #[true, true, true, true, true, true, true, true, true, true, true, true, true, true, true, true, true, true, true, true, true, true, true, true, true, true, true, true, true, true, true, true] rfl rfl (one_of HT_.out (by kernel_rfl)) (by decide) (fun K hK => ?_)
                     refine skip_ (w1 := ?_) (by rfl) rfl ?_ ?_
                     rotate_left
                     ·
                      go_simp
                      rfl
                     refine hK.out _ _ ?_
                     clear hK K
                     refine done_ (done_of HT_.out (by kernel_rfl)) ?_
                     try go_wp2
                     go_roundg k2
                     case measure => have := HJ3.out; have := HK2.out; omega
                     case rel => exact ⟨(y403), (y404), (wrap64 (x34_2 + 1)), sr, H', ⟨by have := HJ3.out; have := HK2.out; omega⟩, ⟨R_later (Kd.R_mono (Kd.R_far (p := ⟨go35, (x34_2 : Int).toNat, none⟩) (Kd.R_mono HQ42.out (fun k_ hk => (⟨hk, fun e_ => hk (by rw [e_]; rfl)⟩ : _ ∧ k_ ≠ go35))) (fun _ hk => hk.2) (.bool true)) (fun _ hk => hk.1))⟩, ⟨R_later (Kd.R_mono HQ43.out (fun _ hk => hk.1))⟩, ⟨by repeat (first | (with_reducible first | exact HB.out | apply below_alloc | apply pw_below_drewN | apply below_drew1 | refine below_set ?_ GB33.out | refine below_set ?_ GB35.out | refine below_set ?_ GE399.out) | exact HB.out)⟩⟩
                    ·
                     rw [if_neg c34] at H
                     exact absurd H (by simp)
                   ·
                    rw [if_neg c32] at H
                    exact absurd H (by simp)
                  ·
                   replace c31 := Bool.eq_false_iff.mpr c31
                   subst c31
                   replace H := ifn Bool.false_ne_true H
                   by_cases c44 : ((rd_T61 l1 x34_2).f4) < (x9_2.length : Int)
                   ·
                    rw [if_pos c44] at H
                    have c44b0 := decide_eq_true c44
                    clear c44
                    by_cases c45 : x34_2 < (x8_2.length : Int)
                    ·
                     rw [if_pos c45] at H
                     have c45b0 := decide_eq_true c45
                     clear c45
                     obtain ⟨y406, hy406⟩ : ∃ y_ : List Bool, y_ = (x8_2.set (x34_2 : Int).toNat (rdOf false x8_2 ((rd_T61 l1 x34_2).f4))) := ⟨_, rfl⟩
                     replace H : (if x34_2 < (x9_2.length : Int) then (impl_PredMay.l0 k2 l0 l1 l2 y406 (x9_2.set (x34_2 : Int).toNat (rdOf false x9_2 ((rd_T61 l1 x34_2).f4))) l1 (l1.length : Int) (wrap64 (x34_2 + 1))) else (none)) = some (r1, r2) := by first | (rw [hy406]; with_reducible exact H) | (rw [hy406]; exact H) | exact H
                     have Ny406 := Aside0.mk hy406
                     clear hy406
                     by_cases c47 : x34_2 < (x9_2.length : Int)
                     ·
                      rw [if_pos c47] at H
                      have c47b0 := decide_eq_true c47
                      clear c47
                      obtain ⟨y407, hy407⟩ : ∃ y_ : List Bool, y_ = (x9_2.set (x34_2 : Int).toNat (rdOf false x9_2 ((rd_T61 l1 x34_2).f4))) := ⟨_, rfl⟩
                      replace H : (impl_PredMay.l0 k2 l0 l1 l2 y406 y407 l1 (l1.length : Int) (wrap64 (x34_2 + 1))) = some (r1, r2) := by first | (rw [hy407]; with_reducible exact H) | (rw [hy407]; exact H) | exact H
                      have Ny407 := Aside0.mk hy407
                      clear hy407
                      have H' := Aside0.mk H
                      clear H
                      have p398 : 0 ≤ (x34_2 : Int) := dcd
                      have q398 : x34_2 < (l1.length : Int) := dcd
                      obtain ⟨ad398, e398, hx398_0, hx398_1, hx398_2, hx398_3, hx398_4, hx398_5⟩ := at_T61 HR1.out x34_2 p398 q398
                      cases e398
                      replace hx398_0 := crd HB hx398_0
                      replace hx398_1 := crd HB hx398_1
                      replace hx398_2 := crd HB hx398_2
                      replace hx398_3 := crd HB hx398_3
                      replace hx398_4 := crd HB hx398_4
                      replace hx398_5 := crd HB hx398_5
                      replace p398 := eq_true p398
                      replace q398 := eq_true q398
                      try go_wp2_with (first | ((with_reducible refine gate_dst (N := 11) rfl ?_); (try (refine gate_guard (by rfl) ?_; dsimp only)); refine bx_ 11 #[.int .i64 0, .int .i64 0, .int .i64 0, .string (⟨#[]⟩ : ByteArray), .int .i64 0, .int .i64 0] 61 ?_; intro gb399 hg w49 hbox hb; have BK399 := Aside0.mk (hbox); have GW399 := gwe HB hg; have GE399 := GW399; replace HO_8 := Aside0.mk (Kd.R_below (R_later HO_8.out) hb); replace HO_9 := Aside0.mk (Kd.R_below (R_later HO_9.out) hb); replace HB := bst HB hb; clear hb hbox hg; obtain ⟨hcz50_0, hcz50_1, hcz50_2, hcz50_3, hcz50_4, hcz50_5, hfz50_0, hfz50_1, hfz50_2, hfz50_3, hfz50_4, hfz50_5⟩ := cl6 BK399))
                      have n0_ : Aside0 (Kd.R Kd.bool 4 ((((((w49.setCell ⟨gb399, 0, none⟩ (.int .i64 ((rd_T61 l1 x34_2).f0))).setCell ⟨gb399, 1, none⟩ (.int .i64 ((rd_T61 l1 x34_2).f1))).setCell ⟨gb399, 2, none⟩ (.int .i64 ((rd_T61 l1 x34_2).f2.f0))).setCell ⟨gb399, 3, none⟩ (.string ((rd_T61 l1 x34_2).f2.f1))).setCell ⟨gb399, 4, none⟩ (.int .i64 ((rd_T61 l1 x34_2).f3))).setCell ⟨gb399, 5, none⟩ (.int .i64 ((rd_T61 l1 x34_2).f4))) w.heap.size (fun k_ => some k_ ≠ (v394 : Value).ownBlock) v391 x8_2) := ⟨by (with_reducible repeat (first | apply Kd.R_alloc | apply Kd.R_drewN | apply Kd.R_drew)); exact Kd.R_mono (Kd.R_far (p := ⟨gb399, 5, none⟩) (Kd.R_far (p := ⟨gb399, 4, none⟩) (Kd.R_far (p := ⟨gb399, 3, none⟩) (Kd.R_far (p := ⟨gb399, 2, none⟩) (Kd.R_far (p := ⟨gb399, 1, none⟩) (Kd.R_far (p := ⟨gb399, 0, none⟩) (Kd.R_types HO_8.out BK399.out (by decide)) (fun _ hk => hk.2) (.int .i64 ((rd_T61 l1 x34_2).f0))) (fun _ hk => hk.2) (.int .i64 ((rd_T61 l1 x34_2).f1))) (fun _ hk => hk.2) (.int .i64 ((rd_T61 l1 x34_2).f2.f0))) (fun _ hk => hk.2) (.string ((rd_T61 l1 x34_2).f2.f1))) (fun _ hk => hk.2) (.int .i64 ((rd_T61 l1 x34_2).f3))) (fun _ hk => hk.2) (.int .i64 ((rd_T61 l1 x34_2).f4))) (fun _ hk => hk.1)⟩
                      have n1_ : Aside0 (Kd.R Kd.bool 4 ((((((w49.setCell ⟨gb399, 0, none⟩ (.int .i64 ((rd_T61 l1 x34_2).f0))).setCell ⟨gb399, 1, none⟩ (.int .i64 ((rd_T61 l1 x34_2).f1))).setCell ⟨gb399, 2, none⟩ (.int .i64 ((rd_T61 l1 x34_2).f2.f0))).setCell ⟨gb399, 3, none⟩ (.string ((rd_T61 l1 x34_2).f2.f1))).setCell ⟨gb399, 4, none⟩ (.int .i64 ((rd_T61 l1 x34_2).f3))).setCell ⟨gb399, 5, none⟩ (.int .i64 ((rd_T61 l1 x34_2).f4))) w.heap.size (fun k_ => some k_ ≠ (v391 : Value).ownBlock) v394 x9_2) := ⟨by (with_reducible repeat (first | apply Kd.R_alloc | apply Kd.R_drewN | apply Kd.R_drew)); exact Kd.R_mono (Kd.R_far (p := ⟨gb399, 5, none⟩) (Kd.R_far (p := ⟨gb399, 4, none⟩) (Kd.R_far (p := ⟨gb399, 3, none⟩) (Kd.R_far (p := ⟨gb399, 2, none⟩) (Kd.R_far (p := ⟨gb399, 1, none⟩) (Kd.R_far (p := ⟨gb399, 0, none⟩) (Kd.R_types HO_9.out BK399.out (by decide)) (fun _ hk => hk.2) (.int .i64 ((rd_T61 l1 x34_2).f0))) (fun _ hk => hk.2) (.int .i64 ((rd_T61 l1 x34_2).f1))) (fun _ hk => hk.2) (.int .i64 ((rd_T61 l1 x34_2).f2.f0))) (fun _ hk => hk.2) (.string ((rd_T61 l1 x34_2).f2.f1))) (fun _ hk => hk.2) (.int .i64 ((rd_T61 l1 x34_2).f3))) (fun _ hk => hk.2) (.int .i64 ((rd_T61 l1 x34_2).f4))) (fun _ hk => hk.1)⟩
                      have n2_ : Aside0 (((((((w49.setCell ⟨gb399, 0, none⟩ (.int .i64 ((rd_T61 l1 x34_2).f0))).setCell ⟨gb399, 1, none⟩ (.int .i64 ((rd_T61 l1 x34_2).f1))).setCell ⟨gb399, 2, none⟩ (.int .i64 ((rd_T61 l1 x34_2).f2.f0))).setCell ⟨gb399, 3, none⟩ (.string ((rd_T61 l1 x34_2).f2.f1))).setCell ⟨gb399, 4, none⟩ (.int .i64 ((rd_T61 l1 x34_2).f3))).setCell ⟨gb399, 5, none⟩ (.int .i64 ((rd_T61 l1 x34_2).f4))).heap[gb399]? = some (.cells #[.int .i64 ((rd_T61 l1 x34_2).f0), .int .i64 ((rd_T61 l1 x34_2).f1), .int .i64 ((rd_T61 l1 x34_2).f2.f0), .string ((rd_T61 l1 x34_2).f2.f1), .int .i64 ((rd_T61 l1 x34_2).f3), .int .i64 ((rd_T61 l1 x34_2).f4)] 61 (0, 0))) := ⟨blk_later BK399.out⟩
                      have n3_ : Aside0 (Below w.heap.size w ((((((w49.setCell ⟨gb399, 0, none⟩ (.int .i64 ((rd_T61 l1 x34_2).f0))).setCell ⟨gb399, 1, none⟩ (.int .i64 ((rd_T61 l1 x34_2).f1))).setCell ⟨gb399, 2, none⟩ (.int .i64 ((rd_T61 l1 x34_2).f2.f0))).setCell ⟨gb399, 3, none⟩ (.string ((rd_T61 l1 x34_2).f2.f1))).setCell ⟨gb399, 4, none⟩ (.int .i64 ((rd_T61 l1 x34_2).f3))).setCell ⟨gb399, 5, none⟩ (.int .i64 ((rd_T61 l1 x34_2).f4)))) := ⟨below_later HB.out⟩
                      (try clear HO_8)
                      (try clear HO_9)
                      (try clear BK399)
                      (try clear HB)
                      generalize ((((((w49.setCell ⟨gb399, 0, none⟩ (.int .i64 ((rd_T61 l1 x34_2).f0))).setCell ⟨gb399, 1, none⟩ (.int .i64 ((rd_T61 l1 x34_2).f1))).setCell ⟨gb399, 2, none⟩ (.int .i64 ((rd_T61 l1 x34_2).f2.f0))).setCell ⟨gb399, 3, none⟩ (.string ((rd_T61 l1 x34_2).f2.f1))).setCell ⟨gb399, 4, none⟩ (.int .i64 ((rd_T61 l1 x34_2).f3))).setCell ⟨gb399, 5, none⟩ (.int .i64 ((rd_T61 l1 x34_2).f4))) = w51 at n0_ n1_ n2_ n3_ ⊢
                      have HO_8 := n0_
                      have HO_9 := n1_
                      have BK399 := n2_
                      have HB := n3_
                      clear n0_ n1_ n2_ n3_
                      have n0_ := Aside0.mk (Kd.R_drew HO_8.out)
                      have n1_ := Aside0.mk (Kd.R_drew HO_9.out)
                      have n2_ := Aside0.mk (blk_drew BK399.out)
                      have n3_ := Aside0.mk (below_drew1 HB.out)
                      clear HO_8
                      clear HO_9
                      clear BK399
                      clear HB
                      have HO_8 := n0_
                      have HO_9 := n1_
                      have BK399 := n2_
                      have HB := n3_
                      clear n0_ n1_ n2_ n3_
                      obtain ⟨Ao53, co53, eo53⟩ := Kd.R_slice HO_8.out
                      (first | subst eo53 | (injection eo53 with f1_ f2_ f3_; have f4_ := f1_.symm; have f5_ := f3_.symm; clear f1_ f2_ f3_; subst f4_; subst f5_))
                      have p400 : 0 ≤ (((rd_T61 l1 x34_2).f3) : Int) := dcd
                      have q400 : ((rd_T61 l1 x34_2).f3) < (x8_2.length : Int) := dcd
                      obtain ⟨ad400, e400, hx400_0⟩ := Kd.at_bool (Kd.R_reads' HO_8.out).2.2 ((rd_T61 l1 x34_2).f3) p400 q400
                      (try rw [← Nbq25.out] at hx400_0)
                      (try rw [← Nbq30.out] at hx400_0)
                      cases e400
                      replace p400 := eq_true p400
                      replace q400 := eq_true q400
                      have p401 : 0 ≤ (((rd_T61 l1 x34_2).f4) : Int) := dcd
                      have q401 : ((rd_T61 l1 x34_2).f4) < (x8_2.length : Int) := dcd
                      obtain ⟨ad401, e401, hx401_0⟩ := Kd.at_bool (Kd.R_reads' HO_8.out).2.2 ((rd_T61 l1 x34_2).f4) p401 q401
                      (try rw [← Nbq25.out] at hx401_0)
                      (try rw [← Nbq30.out] at hx401_0)
                      obtain rfl : ad400 = ad401 := (by injection e401)
                      replace p401 := eq_true p401
                      replace q401 := eq_true q401
                      obtain ⟨Ao54, co54, eo54⟩ := Kd.R_slice HO_9.out
                      (first | subst eo54 | (injection eo54 with f1_ f2_ f3_; have f4_ := f1_.symm; have f5_ := f3_.symm; clear f1_ f2_ f3_; subst f4_; subst f5_))
                      have p402 : 0 ≤ (((rd_T61 l1 x34_2).f3) : Int) := dcd
                      have q402 : ((rd_T61 l1 x34_2).f3) < (x9_2.length : Int) := dcd
                      obtain ⟨ad402, e402, hx402_0⟩ := Kd.at_bool (Kd.R_reads' HO_9.out).2.2 ((rd_T61 l1 x34_2).f3) p402 q402
                      (try rw [← Nbq25.out] at hx402_0)
                      (try rw [← Nbq30.out] at hx402_0)
                      cases e402
                      replace p402 := eq_true p402
                      replace q402 := eq_true q402
                      have p405 : 0 ≤ (((rd_T61 l1 x34_2).f4) : Int) := dcd
                      have q405 : ((rd_T61 l1 x34_2).f4) < (x9_2.length : Int) := dcd
                      obtain ⟨ad405, e405, hx405_0⟩ := Kd.at_bool (Kd.R_reads' HO_9.out).2.2 ((rd_T61 l1 x34_2).f4) p405 q405
                      (try rw [← Nbq25.out] at hx405_0)
                      (try rw [← Nbq30.out] at hx405_0)
                      obtain rfl : ad402 = ad405 := (by injection e405)
                      replace p405 := eq_true p405
                      replace q405 := eq_true q405
                      have p46 : 0 ≤ (x34_2 : Int) := dcd
                      have q46 : (x34_2 : Int) < ((x8_2.length : Int) : Int) := dcd
                      obtain ⟨go46, co46, eo46, gb46, gl46, cl46, HG46⟩ := Kd.R_form HO_8.out (by omega)
                      (first | cases eo46 | (injection eo46 with ea_ en_ ec_; (first | subst ea_ | (injection ea_ with ea_; subst ea_)); subst ec_; clear en_))
                      have GB46 := Aside0.mk gb46
                      have GG46 := Aside0.mk HG46
                      clear gb46 gl46 HG46
                      (first | simp only [add_plain] at hx400_0 | skip)
                      (first | simp only [add_plain] at hx401_0 | skip)
                      obtain ⟨hx46_0, hf46_0⟩ := Kd.R_celln false HO_8.out (x34_2 : Int) p46 q46
                      replace p46 := eq_true p46
                      replace q46 := eq_true q46
                      have HP55 := Kd.R_putn HO_8.out (x34_2 : Int) (rdOf false x8_2 ((rd_T61 l1 x34_2).f4))
                      rw [← Ny406.out] at HP55
                      have HQ55 := Aside0.mk HP55
                      clear HP55
                      have p48 : 0 ≤ (x34_2 : Int) := dcd
                      have q48 : (x34_2 : Int) < ((x9_2.length : Int) : Int) := dcd
                      obtain ⟨go48, co48, eo48, gb48, gl48, cl48, HG48⟩ := Kd.R_form HO_9.out (by omega)
                      (first | cases eo48 | (injection eo48 with ea_ en_ ec_; (first | subst ea_ | (injection ea_ with ea_; subst ea_)); subst ec_; clear en_))
                      have GB48 := Aside0.mk gb48
                      have GG48 := Aside0.mk HG48
                      clear gb48 gl48 HG48
                      (first | simp only [add_plain] at hx402_0 | skip)
                      (first | simp only [add_plain] at hx405_0 | skip)
                      obtain ⟨hx48_0, hf48_0⟩ := Kd.R_celln false (Kd.R_far (p := ⟨go46, (x34_2 : Int).toNat, none⟩) (Kd.R_mono HO_9.out (fun k_ hk => (⟨hk, fun e_ => hk (by rw [e_]; rfl)⟩ : _ ∧ k_ ≠ go46))) (fun _ hk => hk.2) (.bool (rdOf false x8_2 ((rd_T61 l1 x34_2).f4)))) (x34_2 : Int) p48 q48
                      replace p48 := eq_true p48
                      replace q48 := eq_true q48
                      have HP56 := Kd.R_putn (Kd.R_far (p := ⟨go46, (x34_2 : Int).toNat, none⟩) (Kd.R_mono HO_9.out (fun k_ hk => (⟨hk, fun e_ => hk (by rw [e_]; rfl)⟩ : _ ∧ k_ ≠ go46))) (fun _ hk => hk.2) (.bool (rdOf false x8_2 ((rd_T61 l1 x34_2).f4)))) (x34_2 : Int) (rdOf false x9_2 ((rd_T61 l1 x34_2).f4))
                      rw [← Ny407.out] at HP56
                      have HQ56 := Aside0.mk HP56
                      clear HP56
                      refine start_ (n := 32) (S := fun w' => w'.cell? ⟨gb399, 0, none⟩ = some (.int .i64 ((rd_T61 l1 x34_2).f0)) ∧ w'.cell? ⟨gb399, 1, none⟩ = some (.int .i64 ((rd_T61 l1 x34_2).f1)) ∧ w'.cell? ⟨gb399, 2, none⟩ = some (.int .i64 ((rd_T61 l1 x34_2).f2.f0)) ∧ w'.cell? ⟨gb399, 3, none⟩ = some (.string ((rd_T61 l1 x34_2).f2.f1)) ∧ w'.cell? ⟨gb399, 4, none⟩ = some (.int .i64 ((rd_T61 l1 x34_2).f3)) ∧ w'.cell? ⟨gb399, 5, none⟩ = some (.int .i64 ((rd_T61 l1 x34_2).f4)) ∧ w'.cell? ⟨go46, (((rd_T61 l1 x34_2).f3)).toNat, none⟩ = some (.bool true) ∧ w'.cell? ⟨go46, (((rd_T61 l1 x34_2).f4)).toNat, none⟩ = some (.bool (rdOf false x8_2 ((rd_T61 l1 x34_2).f4))) ∧ w'.cell? ⟨go48, (((rd_T61 l1 x34_2).f3)).toNat, none⟩ = some (.bool false) ∧ w'.cell? ⟨go48, (((rd_T61 l1 x34_2).f4)).toNat, none⟩ = some (.bool (rdOf false x9_2 ((rd_T61 l1 x34_2).f4)))) (ds := [29, 31]) #[false, false, false, false, false, false, false, false, false, false, false, false, false, false, false, false, false, false, false, false, false, false, false, false, false, false, false, false, false, false, false, false] (by kernel_rfl) rfl rfl ⟨(blk_cell BK399.out 0).trans rfl, (blk_cell BK399.out 1).trans rfl, (blk_cell BK399.out 2).trans rfl, (blk_cell BK399.out 3).trans rfl, (blk_cell BK399.out 4).trans rfl, (blk_cell BK399.out 5).trans rfl, hx400_0, hx401_0, hx402_0, hx405_0⟩ (fun hHeld => ?_); refine with_tabW impl_PredMay.tab12 impl_PredMay.bits12 (fun HT_ HW_ => ?_)
                      generalize w51.drew = w52 at HO_8 HO_9 BK399 HB GG46 GG48 HQ55 HQ56 hf46_0 hf48_0 hx400_0 hx401_0 hx402_0 hx405_0 hx46_0 hx48_0 hHeld ⊢
                      refine pu_ 0 68 ?_; refine pu_ 1 69 ?_; refine pu_ 2 70 ?_; refine pu_ 3 71 ?_; refine pu_ 4 72 ?_; refine pu_ 5 73 ?_; refine pu_ 16 84 ?_; refine pu_ 17 85 ?_; refine tk_ 6 74 hHeld ?_; refine pu_ 7 75 ?_; refine tk_ 8 76 hHeld ?_; refine pu_ 9 77 ?_; refine pu_ 10 78 ?_; refine pu_ 11 79 ?_; refine tk_ 12 80 hHeld ?_; refine pu_ 13 81 ?_; refine tk_ 14 82 hHeld ?_; refine pu_ 15 83 ?_; refine tk_ 18 86 hHeld ?_; refine pu_ 19 87 ?_; refine tk_ 20 88 hHeld ?_; refine pu_ 21 89 ?_; refine pu_ 22 90 ?_; refine pu_ 23 91 ?_; refine tk_ 24 92 hHeld ?_; refine pu_ 25 93 ?_; refine tk_ 26 94 hHeld ?_; refine pu_ 27 95 ?_; refine pu_ 28 96 ?_
                      refine last_ (i := 29) (N := none) #[true, true, true, true, true, true, true, true, true, true, true, true, true, true, true, true, true, true, true, true, true, true, true, true, true, true, true, true, true, true, false, false] rfl rfl (one_of HT_.out (by kernel_rfl)) (by decide) (fun K hK => ?_)
                      refine skip_ (w1 := ?_) (by rfl) rfl ?_ ?_
                      rotate_left
                      ·
                       go_simp
                       rfl
                      refine hK.out _ _ ?_
                      clear hK K
                      refine pu_ 30 97 ?_
                      refine last_ (i := 31) (N := none) #[true, true, true, true, true, true, true, true, true, true, true, true, true, true, true, true, true, true, true, true, true, true, true, true, true, true, true, true, true, true, true, true] rfl rfl (one_of HT_.out (by kernel_rfl)) (by decide) (fun K hK => ?_)
                      refine skip_ (w1 := ?_) (by rfl) rfl ?_ ?_
                      rotate_left
                      ·
                       go_simp
                       rfl
                      refine hK.out _ _ ?_
                      clear hK K
                      refine done_ (done_of HT_.out (by kernel_rfl)) ?_
                      try go_wp2
                      go_roundg k2
                      case measure => have := HJ3.out; have := HK2.out; omega
                      case rel => exact ⟨(y406), (y407), (wrap64 (x34_2 + 1)), sr, H', ⟨by have := HJ3.out; have := HK2.out; omega⟩, ⟨R_later (Kd.R_mono (Kd.R_far (p := ⟨go48, (x34_2 : Int).toNat, none⟩) (Kd.R_mono HQ55.out (fun k_ hk => (⟨hk, fun e_ => hk (by rw [e_]; rfl)⟩ : _ ∧ k_ ≠ go48))) (fun _ hk => hk.2) (.bool (rdOf false x9_2 ((rd_T61 l1 x34_2).f4)))) (fun _ hk => hk.1))⟩, ⟨R_later (Kd.R_mono HQ56.out (fun _ hk => hk.1))⟩, ⟨by repeat (first | (with_reducible first | exact HB.out | apply below_alloc | apply pw_below_drewN | apply below_drew1 | refine below_set ?_ GB46.out | refine below_set ?_ GB48.out | refine below_set ?_ GE399.out) | exact HB.out)⟩⟩
                     ·
                      rw [if_neg c47] at H
                      exact absurd H (by simp)
                    ·
                     rw [if_neg c45] at H
                     exact absurd H (by simp)
                   ·
                    rw [if_neg c44] at H
                    exact absurd H (by simp)
                 ·
                  rw [if_neg c29] at H
                  exact absurd H (by simp)
                ·
                 rw [if_neg c28] at H
                 exact absurd H (by simp)
               ·
                rw [if_neg c27] at H
                exact absurd H (by simp)
              ·
               replace c26 := Bool.eq_false_iff.mpr c26
               subst c26
               replace H := ifn Bool.false_ne_true H
               by_cases c57 : ((rd_T61 l1 x34_2).f3) < (x9_2.length : Int)
               ·
                rw [if_pos c57] at H
                have c57b0 := decide_eq_true c57
                clear c57
                obtain ⟨bq58, hbq58⟩ : ∃ b_ : Bool, b_ = (rdOf false x9_2 ((rd_T61 l1 x34_2).f3)) := ⟨_, rfl⟩
                replace H : (if bq58 = true then (if x34_2 < (x8_2.length : Int) then (if x34_2 < (x9_2.length : Int) then (impl_PredMay.l0 k2 l0 l1 l2 (x8_2.set (x34_2 : Int).toNat false) (x9_2.set (x34_2 : Int).toNat true) l1 (l1.length : Int) (wrap64 (x34_2 + 1))) else (none)) else (none)) else (if 0 ≤ ((rd_T61 l1 x34_2).f4) then (if ((rd_T61 l1 x34_2).f4) < (x9_2.length : Int) then (if x34_2 < (x8_2.length : Int) then (if x34_2 < (x9_2.length : Int) then (impl_PredMay.l0 k2 l0 l1 l2 (x8_2.set (x34_2 : Int).toNat false) (x9_2.set (x34_2 : Int).toNat (rdOf false x9_2 ((rd_T61 l1 x34_2).f4))) l1 (l1.length : Int) (wrap64 (x34_2 + 1))) else (none)) else (none)) else (none)) else (none))) = some (r1, r2) := by rw [← hbq58] at H; exact H
                have Nbq58 := Aside0.mk hbq58
                clear hbq58
                by_cases c59 : bq58 = true
                ·
                 subst c59
                 replace H := ifp rfl H
                 by_cases c60 : x34_2 < (x8_2.length : Int)
                 ·
                  rw [if_pos c60] at H
                  have c60b0 := decide_eq_true c60
                  clear c60
                  obtain ⟨y409, hy409⟩ : ∃ y_ : List Bool, y_ = (x8_2.set (x34_2 : Int).toNat false) := ⟨_, rfl⟩
                  replace H : (if x34_2 < (x9_2.length : Int) then (impl_PredMay.l0 k2 l0 l1 l2 y409 (x9_2.set (x34_2 : Int).toNat true) l1 (l1.length : Int) (wrap64 (x34_2 + 1))) else (none)) = some (r1, r2) := by first | (rw [hy409]; with_reducible exact H) | (rw [hy409]; exact H) | exact H
                  have Ny409 := Aside0.mk hy409
                  clear hy409
                  by_cases c62 : x34_2 < (x9_2.length : Int)
                  ·
                   rw [if_pos c62] at H
                   have c62b0 := decide_eq_true c62
                   clear c62
                   obtain ⟨y410, hy410⟩ : ∃ y_ : List Bool, y_ = (x9_2.set (x34_2 : Int).toNat true) := ⟨_, rfl⟩
                   replace H : (impl_PredMay.l0 k2 l0 l1 l2 y409 y410 l1 (l1.length : Int) (wrap64 (x34_2 + 1))) = some (r1, r2) := by first | (rw [hy410]; with_reducible exact H) | (rw [hy410]; exact H) | exact H
                   have Ny410 := Aside0.mk hy410
                   clear hy410
                   have H' := Aside0.mk H
                   clear H
                   have p398 : 0 ≤ (x34_2 : Int) := dcd
                   have q398 : x34_2 < (l1.length : Int) := dcd
                   obtain ⟨ad398, e398, hx398_0, hx398_1, hx398_2, hx398_3, hx398_4, hx398_5⟩ := at_T61 HR1.out x34_2 p398 q398
                   cases e398
                   replace hx398_0 := crd HB hx398_0
                   replace hx398_1 := crd HB hx398_1
                   replace hx398_2 := crd HB hx398_2
                   replace hx398_3 := crd HB hx398_3
                   replace hx398_4 := crd HB hx398_4
                   replace hx398_5 := crd HB hx398_5
                   replace p398 := eq_true p398
                   replace q398 := eq_true q398
                   try go_wp2_with (first | ((with_reducible refine gate_dst (N := 11) rfl ?_); (try (refine gate_guard (by rfl) ?_; dsimp only)); refine bx_ 11 #[.int .i64 0, .int .i64 0, .int .i64 0, .string (⟨#[]⟩ : ByteArray), .int .i64 0, .int .i64 0] 61 ?_; intro gb399 hg w64 hbox hb; have BK399 := Aside0.mk (hbox); have GW399 := gwe HB hg; have GE399 := GW399; replace HO_8 := Aside0.mk (Kd.R_below (R_later HO_8.out) hb); replace HO_9 := Aside0.mk (Kd.R_below (R_later HO_9.out) hb); replace HB := bst HB hb; clear hb hbox hg; obtain ⟨hcz65_0, hcz65_1, hcz65_2, hcz65_3, hcz65_4, hcz65_5, hfz65_0, hfz65_1, hfz65_2, hfz65_3, hfz65_4, hfz65_5⟩ := cl6 BK399))
                   have n0_ : Aside0 (Kd.R Kd.bool 4 ((((((w64.setCell ⟨gb399, 0, none⟩ (.int .i64 ((rd_T61 l1 x34_2).f0))).setCell ⟨gb399, 1, none⟩ (.int .i64 ((rd_T61 l1 x34_2).f1))).setCell ⟨gb399, 2, none⟩ (.int .i64 ((rd_T61 l1 x34_2).f2.f0))).setCell ⟨gb399, 3, none⟩ (.string ((rd_T61 l1 x34_2).f2.f1))).setCell ⟨gb399, 4, none⟩ (.int .i64 ((rd_T61 l1 x34_2).f3))).setCell ⟨gb399, 5, none⟩ (.int .i64 ((rd_T61 l1 x34_2).f4))) w.heap.size (fun k_ => some k_ ≠ (v394 : Value).ownBlock) v391 x8_2) := ⟨by (with_reducible repeat (first | apply Kd.R_alloc | apply Kd.R_drewN | apply Kd.R_drew)); exact Kd.R_mono (Kd.R_far (p := ⟨gb399, 5, none⟩) (Kd.R_far (p := ⟨gb399, 4, none⟩) (Kd.R_far (p := ⟨gb399, 3, none⟩) (Kd.R_far (p := ⟨gb399, 2, none⟩) (Kd.R_far (p := ⟨gb399, 1, none⟩) (Kd.R_far (p := ⟨gb399, 0, none⟩) (Kd.R_types HO_8.out BK399.out (by decide)) (fun _ hk => hk.2) (.int .i64 ((rd_T61 l1 x34_2).f0))) (fun _ hk => hk.2) (.int .i64 ((rd_T61 l1 x34_2).f1))) (fun _ hk => hk.2) (.int .i64 ((rd_T61 l1 x34_2).f2.f0))) (fun _ hk => hk.2) (.string ((rd_T61 l1 x34_2).f2.f1))) (fun _ hk => hk.2) (.int .i64 ((rd_T61 l1 x34_2).f3))) (fun _ hk => hk.2) (.int .i64 ((rd_T61 l1 x34_2).f4))) (fun _ hk => hk.1)⟩
                   have n1_ : Aside0 (Kd.R Kd.bool 4 ((((((w64.setCell ⟨gb399, 0, none⟩ (.int .i64 ((rd_T61 l1 x34_2).f0))).setCell ⟨gb399, 1, none⟩ (.int .i64 ((rd_T61 l1 x34_2).f1))).setCell ⟨gb399, 2, none⟩ (.int .i64 ((rd_T61 l1 x34_2).f2.f0))).setCell ⟨gb399, 3, none⟩ (.string ((rd_T61 l1 x34_2).f2.f1))).setCell ⟨gb399, 4, none⟩ (.int .i64 ((rd_T61 l1 x34_2).f3))).setCell ⟨gb399, 5, none⟩ (.int .i64 ((rd_T61 l1 x34_2).f4))) w.heap.size (fun k_ => some k_ ≠ (v391 : Value).ownBlock) v394 x9_2) := ⟨by (with_reducible repeat (first | apply Kd.R_alloc | apply Kd.R_drewN | apply Kd.R_drew)); exact Kd.R_mono (Kd.R_far (p := ⟨gb399, 5, none⟩) (Kd.R_far (p := ⟨gb399, 4, none⟩) (Kd.R_far (p := ⟨gb399, 3, none⟩) (Kd.R_far (p := ⟨gb399, 2, none⟩) (Kd.R_far (p := ⟨gb399, 1, none⟩) (Kd.R_far (p := ⟨gb399, 0, none⟩) (Kd.R_types HO_9.out BK399.out (by decide)) (fun _ hk => hk.2) (.int .i64 ((rd_T61 l1 x34_2).f0))) (fun _ hk => hk.2) (.int .i64 ((rd_T61 l1 x34_2).f1))) (fun _ hk => hk.2) (.int .i64 ((rd_T61 l1 x34_2).f2.f0))) (fun _ hk => hk.2) (.string ((rd_T61 l1 x34_2).f2.f1))) (fun _ hk => hk.2) (.int .i64 ((rd_T61 l1 x34_2).f3))) (fun _ hk => hk.2) (.int .i64 ((rd_T61 l1 x34_2).f4))) (fun _ hk => hk.1)⟩
                   have n2_ : Aside0 (((((((w64.setCell ⟨gb399, 0, none⟩ (.int .i64 ((rd_T61 l1 x34_2).f0))).setCell ⟨gb399, 1, none⟩ (.int .i64 ((rd_T61 l1 x34_2).f1))).setCell ⟨gb399, 2, none⟩ (.int .i64 ((rd_T61 l1 x34_2).f2.f0))).setCell ⟨gb399, 3, none⟩ (.string ((rd_T61 l1 x34_2).f2.f1))).setCell ⟨gb399, 4, none⟩ (.int .i64 ((rd_T61 l1 x34_2).f3))).setCell ⟨gb399, 5, none⟩ (.int .i64 ((rd_T61 l1 x34_2).f4))).heap[gb399]? = some (.cells #[.int .i64 ((rd_T61 l1 x34_2).f0), .int .i64 ((rd_T61 l1 x34_2).f1), .int .i64 ((rd_T61 l1 x34_2).f2.f0), .string ((rd_T61 l1 x34_2).f2.f1), .int .i64 ((rd_T61 l1 x34_2).f3), .int .i64 ((rd_T61 l1 x34_2).f4)] 61 (0, 0))) := ⟨blk_later BK399.out⟩
                   have n3_ : Aside0 (Below w.heap.size w ((((((w64.setCell ⟨gb399, 0, none⟩ (.int .i64 ((rd_T61 l1 x34_2).f0))).setCell ⟨gb399, 1, none⟩ (.int .i64 ((rd_T61 l1 x34_2).f1))).setCell ⟨gb399, 2, none⟩ (.int .i64 ((rd_T61 l1 x34_2).f2.f0))).setCell ⟨gb399, 3, none⟩ (.string ((rd_T61 l1 x34_2).f2.f1))).setCell ⟨gb399, 4, none⟩ (.int .i64 ((rd_T61 l1 x34_2).f3))).setCell ⟨gb399, 5, none⟩ (.int .i64 ((rd_T61 l1 x34_2).f4)))) := ⟨below_later HB.out⟩
                   (try clear HO_8)
                   (try clear HO_9)
                   (try clear BK399)
                   (try clear HB)
                   generalize ((((((w64.setCell ⟨gb399, 0, none⟩ (.int .i64 ((rd_T61 l1 x34_2).f0))).setCell ⟨gb399, 1, none⟩ (.int .i64 ((rd_T61 l1 x34_2).f1))).setCell ⟨gb399, 2, none⟩ (.int .i64 ((rd_T61 l1 x34_2).f2.f0))).setCell ⟨gb399, 3, none⟩ (.string ((rd_T61 l1 x34_2).f2.f1))).setCell ⟨gb399, 4, none⟩ (.int .i64 ((rd_T61 l1 x34_2).f3))).setCell ⟨gb399, 5, none⟩ (.int .i64 ((rd_T61 l1 x34_2).f4))) = w66 at n0_ n1_ n2_ n3_ ⊢
                   have HO_8 := n0_
                   have HO_9 := n1_
                   have BK399 := n2_
                   have HB := n3_
                   clear n0_ n1_ n2_ n3_
                   have n0_ := Aside0.mk (Kd.R_drew HO_8.out)
                   have n1_ := Aside0.mk (Kd.R_drew HO_9.out)
                   have n2_ := Aside0.mk (blk_drew BK399.out)
                   have n3_ := Aside0.mk (below_drew1 HB.out)
                   clear HO_8
                   clear HO_9
                   clear BK399
                   clear HB
                   have HO_8 := n0_
                   have HO_9 := n1_
                   have BK399 := n2_
                   have HB := n3_
                   clear n0_ n1_ n2_ n3_
                   obtain ⟨Ao68, co68, eo68⟩ := Kd.R_slice HO_8.out
                   (first | subst eo68 | (injection eo68 with f1_ f2_ f3_; have f4_ := f1_.symm; have f5_ := f3_.symm; clear f1_ f2_ f3_; subst f4_; subst f5_))
                   have p400 : 0 ≤ (((rd_T61 l1 x34_2).f3) : Int) := dcd
                   have q400 : ((rd_T61 l1 x34_2).f3) < (x8_2.length : Int) := dcd
                   obtain ⟨ad400, e400, hx400_0⟩ := Kd.at_bool (Kd.R_reads' HO_8.out).2.2 ((rd_T61 l1 x34_2).f3) p400 q400
                   (try rw [← Nbq25.out] at hx400_0)
                   (try rw [← Nbq58.out] at hx400_0)
                   cases e400
                   replace p400 := eq_true p400
                   replace q400 := eq_true q400
                   obtain ⟨Ao69, co69, eo69⟩ := Kd.R_slice HO_9.out
                   (first | subst eo69 | (injection eo69 with f1_ f2_ f3_; have f4_ := f1_.symm; have f5_ := f3_.symm; clear f1_ f2_ f3_; subst f4_; subst f5_))
                   have p408 : 0 ≤ (((rd_T61 l1 x34_2).f3) : Int) := dcd
                   have q408 : ((rd_T61 l1 x34_2).f3) < (x9_2.length : Int) := dcd
                   obtain ⟨ad408, e408, hx408_0⟩ := Kd.at_bool (Kd.R_reads' HO_9.out).2.2 ((rd_T61 l1 x34_2).f3) p408 q408
                   (try rw [← Nbq25.out] at hx408_0)
                   (try rw [← Nbq58.out] at hx408_0)
                   cases e408
                   replace p408 := eq_true p408
                   replace q408 := eq_true q408
                   have p61 : 0 ≤ (x34_2 : Int) := dcd
                   have q61 : (x34_2 : Int) < ((x8_2.length : Int) : Int) := dcd
                   obtain ⟨go61, co61, eo61, gb61, gl61, cl61, HG61⟩ := Kd.R_form HO_8.out (by omega)
                   (first | cases eo61 | (injection eo61 with ea_ en_ ec_; (first | subst ea_ | (injection ea_ with ea_; subst ea_)); subst ec_; clear en_))
                   have GB61 := Aside0.mk gb61
                   have GG61 := Aside0.mk HG61
                   clear gb61 gl61 HG61
                   (first | simp only [add_plain] at hx400_0 | skip)
                   obtain ⟨hx61_0, hf61_0⟩ := Kd.R_celln false HO_8.out (x34_2 : Int) p61 q61
                   replace p61 := eq_true p61
                   replace q61 := eq_true q61
                   have HP70 := Kd.R_putn HO_8.out (x34_2 : Int) false
                   rw [← Ny409.out] at HP70
                   have HQ70 := Aside0.mk HP70
                   clear HP70
                   have p63 : 0 ≤ (x34_2 : Int) := dcd
                   have q63 : (x34_2 : Int) < ((x9_2.length : Int) : Int) := dcd
                   obtain ⟨go63, co63, eo63, gb63, gl63, cl63, HG63⟩ := Kd.R_form HO_9.out (by omega)
                   (first | cases eo63 | (injection eo63 with ea_ en_ ec_; (first | subst ea_ | (injection ea_ with ea_; subst ea_)); subst ec_; clear en_))
                   have GB63 := Aside0.mk gb63
                   have GG63 := Aside0.mk HG63
                   clear gb63 gl63 HG63
                   (first | simp only [add_plain] at hx408_0 | skip)
                   obtain ⟨hx63_0, hf63_0⟩ := Kd.R_celln false (Kd.R_far (p := ⟨go61, (x34_2 : Int).toNat, none⟩) (Kd.R_mono HO_9.out (fun k_ hk => (⟨hk, fun e_ => hk (by rw [e_]; rfl)⟩ : _ ∧ k_ ≠ go61))) (fun _ hk => hk.2) (.bool false)) (x34_2 : Int) p63 q63
                   replace p63 := eq_true p63
                   replace q63 := eq_true q63
                   have HP71 := Kd.R_putn (Kd.R_far (p := ⟨go61, (x34_2 : Int).toNat, none⟩) (Kd.R_mono HO_9.out (fun k_ hk => (⟨hk, fun e_ => hk (by rw [e_]; rfl)⟩ : _ ∧ k_ ≠ go61))) (fun _ hk => hk.2) (.bool false)) (x34_2 : Int) true
                   rw [← Ny410.out] at HP71
                   have HQ71 := Aside0.mk HP71
                   clear HP71
                   refine start_ (n := 32) (S := fun w' => w'.cell? ⟨gb399, 0, none⟩ = some (.int .i64 ((rd_T61 l1 x34_2).f0)) ∧ w'.cell? ⟨gb399, 1, none⟩ = some (.int .i64 ((rd_T61 l1 x34_2).f1)) ∧ w'.cell? ⟨gb399, 2, none⟩ = some (.int .i64 ((rd_T61 l1 x34_2).f2.f0)) ∧ w'.cell? ⟨gb399, 3, none⟩ = some (.string ((rd_T61 l1 x34_2).f2.f1)) ∧ w'.cell? ⟨gb399, 4, none⟩ = some (.int .i64 ((rd_T61 l1 x34_2).f3)) ∧ w'.cell? ⟨gb399, 5, none⟩ = some (.int .i64 ((rd_T61 l1 x34_2).f4)) ∧ w'.cell? ⟨go61, (((rd_T61 l1 x34_2).f3)).toNat, none⟩ = some (.bool false) ∧ w'.cell? ⟨go63, (((rd_T61 l1 x34_2).f3)).toNat, none⟩ = some (.bool true)) (ds := [29, 31]) #[false, false, false, false, false, false, false, false, false, false, false, false, false, false, false, false, false, false, false, false, false, false, false, false, false, false, false, false, false, false, false, false] (by kernel_rfl) rfl rfl ⟨(blk_cell BK399.out 0).trans rfl, (blk_cell BK399.out 1).trans rfl, (blk_cell BK399.out 2).trans rfl, (blk_cell BK399.out 3).trans rfl, (blk_cell BK399.out 4).trans rfl, (blk_cell BK399.out 5).trans rfl, hx400_0, hx408_0⟩ (fun hHeld => ?_); refine with_tabW impl_PredMay.tab12 impl_PredMay.bits12 (fun HT_ HW_ => ?_)
                   generalize w66.drew = w67 at HO_8 HO_9 BK399 HB GG61 GG63 HQ70 HQ71 hf61_0 hf63_0 hx400_0 hx408_0 hx61_0 hx63_0 hHeld ⊢
                   refine pu_ 0 68 ?_; refine pu_ 1 69 ?_; refine pu_ 2 70 ?_; refine pu_ 3 71 ?_; refine pu_ 4 72 ?_; refine pu_ 5 73 ?_; refine pu_ 16 84 ?_; refine pu_ 17 85 ?_; refine tk_ 6 74 hHeld ?_; refine pu_ 7 75 ?_; refine tk_ 8 76 hHeld ?_; refine pu_ 9 77 ?_; refine pn_ 10 78 ?_; refine pn_ 11 79 ?_; refine pn_ 12 80 ?_; refine pn_ 13 81 ?_; refine pn_ 14 82 ?_; refine pu_ 15 83 ?_; refine tk_ 18 86 hHeld ?_; refine pu_ 19 87 ?_; refine tk_ 20 88 hHeld ?_; refine pu_ 21 89 ?_; refine pn_ 22 90 ?_; refine pn_ 23 91 ?_; refine pn_ 24 92 ?_; refine pn_ 25 93 ?_; refine pn_ 26 94 ?_; refine pu_ 27 95 ?_; refine pu_ 28 96 ?_
                   refine last_ (i := 29) (N := none) #[true, true, true, true, true, true, true, true, true, true, true, true, true, true, true, true, true, true, true, true, true, true, true, true, true, true, true, true, true, true, false, false] rfl rfl (one_of HT_.out (by kernel_rfl)) (by decide) (fun K hK => ?_)
                   refine skip_ (w1 := ?_) (by rfl) rfl ?_ ?_
                   rotate_left
                   ·
                    go_simp
                    rfl
                   refine hK.out _ _ ?_
                   clear hK K
                   refine pu_ 30 97 ?_
                   refine last_ (i := 31) (N := none) #[true, true, true, true, true, true, true, true, true, true, true, true, true, true, true, true, true, true, true, true, true, true, true, true, true, true, true, true, true, true, true, true] rfl rfl (one_of HT_.out (by kernel_rfl)) (by decide) (fun K hK => ?_)
                   refine skip_ (w1 := ?_) (by rfl) rfl ?_ ?_
                   rotate_left
                   ·
                    go_simp
                    rfl
                   refine hK.out _ _ ?_
                   clear hK K
                   refine done_ (done_of HT_.out (by kernel_rfl)) ?_
                   try go_wp2
                   go_roundg k2
                   case measure => have := HJ3.out; have := HK2.out; omega
                   case rel => exact ⟨(y409), (y410), (wrap64 (x34_2 + 1)), sr, H', ⟨by have := HJ3.out; have := HK2.out; omega⟩, ⟨R_later (Kd.R_mono (Kd.R_far (p := ⟨go63, (x34_2 : Int).toNat, none⟩) (Kd.R_mono HQ70.out (fun k_ hk => (⟨hk, fun e_ => hk (by rw [e_]; rfl)⟩ : _ ∧ k_ ≠ go63))) (fun _ hk => hk.2) (.bool true)) (fun _ hk => hk.1))⟩, ⟨R_later (Kd.R_mono HQ71.out (fun _ hk => hk.1))⟩, ⟨by repeat (first | (with_reducible first | exact HB.out | apply below_alloc | apply pw_below_drewN | apply below_drew1 | refine below_set ?_ GB61.out | refine below_set ?_ GB63.out | refine below_set ?_ GE399.out) | exact HB.out)⟩⟩
                  ·
                   rw [if_neg c62] at H
                   exact absurd H (by simp)
                 ·
                  rw [if_neg c60] at H
                  exact absurd H (by simp)
                ·
                 replace c59 := Bool.eq_false_iff.mpr c59
                 subst c59
                 replace H := ifn Bool.false_ne_true H
                 by_cases c72 : 0 ≤ ((rd_T61 l1 x34_2).f4)
                 ·
                  rw [if_pos c72] at H
                  have c72b0 := decide_eq_true c72
                  clear c72
                  by_cases c73 : ((rd_T61 l1 x34_2).f4) < (x9_2.length : Int)
                  ·
                   rw [if_pos c73] at H
                   have c73b0 := decide_eq_true c73
                   clear c73
                   by_cases c74 : x34_2 < (x8_2.length : Int)
                   ·
                    rw [if_pos c74] at H
                    have c74b0 := decide_eq_true c74
                    clear c74
                    obtain ⟨y412, hy412⟩ : ∃ y_ : List Bool, y_ = (x8_2.set (x34_2 : Int).toNat false) := ⟨_, rfl⟩
                    replace H : (if x34_2 < (x9_2.length : Int) then (impl_PredMay.l0 k2 l0 l1 l2 y412 (x9_2.set (x34_2 : Int).toNat (rdOf false x9_2 ((rd_T61 l1 x34_2).f4))) l1 (l1.length : Int) (wrap64 (x34_2 + 1))) else (none)) = some (r1, r2) := by first | (rw [hy412]; with_reducible exact H) | (rw [hy412]; exact H) | exact H
                    have Ny412 := Aside0.mk hy412
                    clear hy412
                    by_cases c76 : x34_2 < (x9_2.length : Int)
                    ·
                     rw [if_pos c76] at H
                     have c76b0 := decide_eq_true c76
                     clear c76
                     obtain ⟨y413, hy413⟩ : ∃ y_ : List Bool, y_ = (x9_2.set (x34_2 : Int).toNat (rdOf false x9_2 ((rd_T61 l1 x34_2).f4))) := ⟨_, rfl⟩
                     replace H : (impl_PredMay.l0 k2 l0 l1 l2 y412 y413 l1 (l1.length : Int) (wrap64 (x34_2 + 1))) = some (r1, r2) := by first | (rw [hy413]; with_reducible exact H) | (rw [hy413]; exact H) | exact H
                     have Ny413 := Aside0.mk hy413
                     clear hy413
                     have H' := Aside0.mk H
                     clear H
                     have p398 : 0 ≤ (x34_2 : Int) := dcd
                     have q398 : x34_2 < (l1.length : Int) := dcd
                     obtain ⟨ad398, e398, hx398_0, hx398_1, hx398_2, hx398_3, hx398_4, hx398_5⟩ := at_T61 HR1.out x34_2 p398 q398
                     cases e398
                     replace hx398_0 := crd HB hx398_0
                     replace hx398_1 := crd HB hx398_1
                     replace hx398_2 := crd HB hx398_2
                     replace hx398_3 := crd HB hx398_3
                     replace hx398_4 := crd HB hx398_4
                     replace hx398_5 := crd HB hx398_5
                     replace p398 := eq_true p398
                     replace q398 := eq_true q398
                     try go_wp2_with (first | ((with_reducible refine gate_dst (N := 11) rfl ?_); (try (refine gate_guard (by rfl) ?_; dsimp only)); refine bx_ 11 #[.int .i64 0, .int .i64 0, .int .i64 0, .string (⟨#[]⟩ : ByteArray), .int .i64 0, .int .i64 0] 61 ?_; intro gb399 hg w78 hbox hb; have BK399 := Aside0.mk (hbox); have GW399 := gwe HB hg; have GE399 := GW399; replace HO_8 := Aside0.mk (Kd.R_below (R_later HO_8.out) hb); replace HO_9 := Aside0.mk (Kd.R_below (R_later HO_9.out) hb); replace HB := bst HB hb; clear hb hbox hg; obtain ⟨hcz79_0, hcz79_1, hcz79_2, hcz79_3, hcz79_4, hcz79_5, hfz79_0, hfz79_1, hfz79_2, hfz79_3, hfz79_4, hfz79_5⟩ := cl6 BK399))
                     have n0_ : Aside0 (Kd.R Kd.bool 4 ((((((w78.setCell ⟨gb399, 0, none⟩ (.int .i64 ((rd_T61 l1 x34_2).f0))).setCell ⟨gb399, 1, none⟩ (.int .i64 ((rd_T61 l1 x34_2).f1))).setCell ⟨gb399, 2, none⟩ (.int .i64 ((rd_T61 l1 x34_2).f2.f0))).setCell ⟨gb399, 3, none⟩ (.string ((rd_T61 l1 x34_2).f2.f1))).setCell ⟨gb399, 4, none⟩ (.int .i64 ((rd_T61 l1 x34_2).f3))).setCell ⟨gb399, 5, none⟩ (.int .i64 ((rd_T61 l1 x34_2).f4))) w.heap.size (fun k_ => some k_ ≠ (v394 : Value).ownBlock) v391 x8_2) := ⟨by (with_reducible repeat (first | apply Kd.R_alloc | apply Kd.R_drewN | apply Kd.R_drew)); exact Kd.R_mono (Kd.R_far (p := ⟨gb399, 5, none⟩) (Kd.R_far (p := ⟨gb399, 4, none⟩) (Kd.R_far (p := ⟨gb399, 3, none⟩) (Kd.R_far (p := ⟨gb399, 2, none⟩) (Kd.R_far (p := ⟨gb399, 1, none⟩) (Kd.R_far (p := ⟨gb399, 0, none⟩) (Kd.R_types HO_8.out BK399.out (by decide)) (fun _ hk => hk.2) (.int .i64 ((rd_T61 l1 x34_2).f0))) (fun _ hk => hk.2) (.int .i64 ((rd_T61 l1 x34_2).f1))) (fun _ hk => hk.2) (.int .i64 ((rd_T61 l1 x34_2).f2.f0))) (fun _ hk => hk.2) (.string ((rd_T61 l1 x34_2).f2.f1))) (fun _ hk => hk.2) (.int .i64 ((rd_T61 l1 x34_2).f3))) (fun _ hk => hk.2) (.int .i64 ((rd_T61 l1 x34_2).f4))) (fun _ hk => hk.1)⟩
                     have n1_ : Aside0 (Kd.R Kd.bool 4 ((((((w78.setCell ⟨gb399, 0, none⟩ (.int .i64 ((rd_T61 l1 x34_2).f0))).setCell ⟨gb399, 1, none⟩ (.int .i64 ((rd_T61 l1 x34_2).f1))).setCell ⟨gb399, 2, none⟩ (.int .i64 ((rd_T61 l1 x34_2).f2.f0))).setCell ⟨gb399, 3, none⟩ (.string ((rd_T61 l1 x34_2).f2.f1))).setCell ⟨gb399, 4, none⟩ (.int .i64 ((rd_T61 l1 x34_2).f3))).setCell ⟨gb399, 5, none⟩ (.int .i64 ((rd_T61 l1 x34_2).f4))) w.heap.size (fun k_ => some k_ ≠ (v391 : Value).ownBlock) v394 x9_2) := ⟨by (with_reducible repeat (first | apply Kd.R_alloc | apply Kd.R_drewN | apply Kd.R_drew)); exact Kd.R_mono (Kd.R_far (p := ⟨gb399, 5, none⟩) (Kd.R_far (p := ⟨gb399, 4, none⟩) (Kd.R_far (p := ⟨gb399, 3, none⟩) (Kd.R_far (p := ⟨gb399, 2, none⟩) (Kd.R_far (p := ⟨gb399, 1, none⟩) (Kd.R_far (p := ⟨gb399, 0, none⟩) (Kd.R_types HO_9.out BK399.out (by decide)) (fun _ hk => hk.2) (.int .i64 ((rd_T61 l1 x34_2).f0))) (fun _ hk => hk.2) (.int .i64 ((rd_T61 l1 x34_2).f1))) (fun _ hk => hk.2) (.int .i64 ((rd_T61 l1 x34_2).f2.f0))) (fun _ hk => hk.2) (.string ((rd_T61 l1 x34_2).f2.f1))) (fun _ hk => hk.2) (.int .i64 ((rd_T61 l1 x34_2).f3))) (fun _ hk => hk.2) (.int .i64 ((rd_T61 l1 x34_2).f4))) (fun _ hk => hk.1)⟩
                     have n2_ : Aside0 (((((((w78.setCell ⟨gb399, 0, none⟩ (.int .i64 ((rd_T61 l1 x34_2).f0))).setCell ⟨gb399, 1, none⟩ (.int .i64 ((rd_T61 l1 x34_2).f1))).setCell ⟨gb399, 2, none⟩ (.int .i64 ((rd_T61 l1 x34_2).f2.f0))).setCell ⟨gb399, 3, none⟩ (.string ((rd_T61 l1 x34_2).f2.f1))).setCell ⟨gb399, 4, none⟩ (.int .i64 ((rd_T61 l1 x34_2).f3))).setCell ⟨gb399, 5, none⟩ (.int .i64 ((rd_T61 l1 x34_2).f4))).heap[gb399]? = some (.cells #[.int .i64 ((rd_T61 l1 x34_2).f0), .int .i64 ((rd_T61 l1 x34_2).f1), .int .i64 ((rd_T61 l1 x34_2).f2.f0), .string ((rd_T61 l1 x34_2).f2.f1), .int .i64 ((rd_T61 l1 x34_2).f3), .int .i64 ((rd_T61 l1 x34_2).f4)] 61 (0, 0))) := ⟨blk_later BK399.out⟩
                     have n3_ : Aside0 (Below w.heap.size w ((((((w78.setCell ⟨gb399, 0, none⟩ (.int .i64 ((rd_T61 l1 x34_2).f0))).setCell ⟨gb399, 1, none⟩ (.int .i64 ((rd_T61 l1 x34_2).f1))).setCell ⟨gb399, 2, none⟩ (.int .i64 ((rd_T61 l1 x34_2).f2.f0))).setCell ⟨gb399, 3, none⟩ (.string ((rd_T61 l1 x34_2).f2.f1))).setCell ⟨gb399, 4, none⟩ (.int .i64 ((rd_T61 l1 x34_2).f3))).setCell ⟨gb399, 5, none⟩ (.int .i64 ((rd_T61 l1 x34_2).f4)))) := ⟨below_later HB.out⟩
                     (try clear HO_8)
                     (try clear HO_9)
                     (try clear BK399)
                     (try clear HB)
                     generalize ((((((w78.setCell ⟨gb399, 0, none⟩ (.int .i64 ((rd_T61 l1 x34_2).f0))).setCell ⟨gb399, 1, none⟩ (.int .i64 ((rd_T61 l1 x34_2).f1))).setCell ⟨gb399, 2, none⟩ (.int .i64 ((rd_T61 l1 x34_2).f2.f0))).setCell ⟨gb399, 3, none⟩ (.string ((rd_T61 l1 x34_2).f2.f1))).setCell ⟨gb399, 4, none⟩ (.int .i64 ((rd_T61 l1 x34_2).f3))).setCell ⟨gb399, 5, none⟩ (.int .i64 ((rd_T61 l1 x34_2).f4))) = w80 at n0_ n1_ n2_ n3_ ⊢
                     have HO_8 := n0_
                     have HO_9 := n1_
                     have BK399 := n2_
                     have HB := n3_
                     clear n0_ n1_ n2_ n3_
                     have n0_ := Aside0.mk (Kd.R_drew HO_8.out)
                     have n1_ := Aside0.mk (Kd.R_drew HO_9.out)
                     have n2_ := Aside0.mk (blk_drew BK399.out)
                     have n3_ := Aside0.mk (below_drew1 HB.out)
                     clear HO_8
                     clear HO_9
                     clear BK399
                     clear HB
                     have HO_8 := n0_
                     have HO_9 := n1_
                     have BK399 := n2_
                     have HB := n3_
                     clear n0_ n1_ n2_ n3_
                     obtain ⟨Ao82, co82, eo82⟩ := Kd.R_slice HO_8.out
                     (first | subst eo82 | (injection eo82 with f1_ f2_ f3_; have f4_ := f1_.symm; have f5_ := f3_.symm; clear f1_ f2_ f3_; subst f4_; subst f5_))
                     have p400 : 0 ≤ (((rd_T61 l1 x34_2).f3) : Int) := dcd
                     have q400 : ((rd_T61 l1 x34_2).f3) < (x8_2.length : Int) := dcd
                     obtain ⟨ad400, e400, hx400_0⟩ := Kd.at_bool (Kd.R_reads' HO_8.out).2.2 ((rd_T61 l1 x34_2).f3) p400 q400
                     (try rw [← Nbq25.out] at hx400_0)
                     (try rw [← Nbq58.out] at hx400_0)
                     cases e400
                     replace p400 := eq_true p400
                     replace q400 := eq_true q400
                     obtain ⟨Ao83, co83, eo83⟩ := Kd.R_slice HO_9.out
                     (first | subst eo83 | (injection eo83 with f1_ f2_ f3_; have f4_ := f1_.symm; have f5_ := f3_.symm; clear f1_ f2_ f3_; subst f4_; subst f5_))
                     have p408 : 0 ≤ (((rd_T61 l1 x34_2).f3) : Int) := dcd
                     have q408 : ((rd_T61 l1 x34_2).f3) < (x9_2.length : Int) := dcd
                     obtain ⟨ad408, e408, hx408_0⟩ := Kd.at_bool (Kd.R_reads' HO_9.out).2.2 ((rd_T61 l1 x34_2).f3) p408 q408
                     (try rw [← Nbq25.out] at hx408_0)
                     (try rw [← Nbq58.out] at hx408_0)
                     cases e408
                     replace p408 := eq_true p408
                     replace q408 := eq_true q408
                     have p411 : 0 ≤ (((rd_T61 l1 x34_2).f4) : Int) := dcd
                     have q411 : ((rd_T61 l1 x34_2).f4) < (x9_2.length : Int) := dcd
                     obtain ⟨ad411, e411, hx411_0⟩ := Kd.at_bool (Kd.R_reads' HO_9.out).2.2 ((rd_T61 l1 x34_2).f4) p411 q411
                     (try rw [← Nbq25.out] at hx411_0)
                     (try rw [← Nbq58.out] at hx411_0)
                     obtain rfl : ad408 = ad411 := (by injection e411)
                     replace p411 := eq_true p411
                     replace q411 := eq_true q411
                     have p75 : 0 ≤ (x34_2 : Int) := dcd
                     have q75 : (x34_2 : Int) < ((x8_2.length : Int) : Int) := dcd
                     obtain ⟨go75, co75, eo75, gb75, gl75, cl75, HG75⟩ := Kd.R_form HO_8.out (by omega)
                     (first | cases eo75 | (injection eo75 with ea_ en_ ec_; (first | subst ea_ | (injection ea_ with ea_; subst ea_)); subst ec_; clear en_))
                     have GB75 := Aside0.mk gb75
                     have GG75 := Aside0.mk HG75
                     clear gb75 gl75 HG75
                     (first | simp only [add_plain] at hx400_0 | skip)
                     obtain ⟨hx75_0, hf75_0⟩ := Kd.R_celln false HO_8.out (x34_2 : Int) p75 q75
                     replace p75 := eq_true p75
                     replace q75 := eq_true q75
                     have HP84 := Kd.R_putn HO_8.out (x34_2 : Int) false
                     rw [← Ny412.out] at HP84
                     have HQ84 := Aside0.mk HP84
                     clear HP84
                     have p77 : 0 ≤ (x34_2 : Int) := dcd
                     have q77 : (x34_2 : Int) < ((x9_2.length : Int) : Int) := dcd
                     obtain ⟨go77, co77, eo77, gb77, gl77, cl77, HG77⟩ := Kd.R_form HO_9.out (by omega)
                     (first | cases eo77 | (injection eo77 with ea_ en_ ec_; (first | subst ea_ | (injection ea_ with ea_; subst ea_)); subst ec_; clear en_))
                     have GB77 := Aside0.mk gb77
                     have GG77 := Aside0.mk HG77
                     clear gb77 gl77 HG77
                     (first | simp only [add_plain] at hx408_0 | skip)
                     (first | simp only [add_plain] at hx411_0 | skip)
                     obtain ⟨hx77_0, hf77_0⟩ := Kd.R_celln false (Kd.R_far (p := ⟨go75, (x34_2 : Int).toNat, none⟩) (Kd.R_mono HO_9.out (fun k_ hk => (⟨hk, fun e_ => hk (by rw [e_]; rfl)⟩ : _ ∧ k_ ≠ go75))) (fun _ hk => hk.2) (.bool false)) (x34_2 : Int) p77 q77
                     replace p77 := eq_true p77
                     replace q77 := eq_true q77
                     have HP85 := Kd.R_putn (Kd.R_far (p := ⟨go75, (x34_2 : Int).toNat, none⟩) (Kd.R_mono HO_9.out (fun k_ hk => (⟨hk, fun e_ => hk (by rw [e_]; rfl)⟩ : _ ∧ k_ ≠ go75))) (fun _ hk => hk.2) (.bool false)) (x34_2 : Int) (rdOf false x9_2 ((rd_T61 l1 x34_2).f4))
                     rw [← Ny413.out] at HP85
                     have HQ85 := Aside0.mk HP85
                     clear HP85
                     refine start_ (n := 32) (S := fun w' => w'.cell? ⟨gb399, 0, none⟩ = some (.int .i64 ((rd_T61 l1 x34_2).f0)) ∧ w'.cell? ⟨gb399, 1, none⟩ = some (.int .i64 ((rd_T61 l1 x34_2).f1)) ∧ w'.cell? ⟨gb399, 2, none⟩ = some (.int .i64 ((rd_T61 l1 x34_2).f2.f0)) ∧ w'.cell? ⟨gb399, 3, none⟩ = some (.string ((rd_T61 l1 x34_2).f2.f1)) ∧ w'.cell? ⟨gb399, 4, none⟩ = some (.int .i64 ((rd_T61 l1 x34_2).f3)) ∧ w'.cell? ⟨gb399, 5, none⟩ = some (.int .i64 ((rd_T61 l1 x34_2).f4)) ∧ w'.cell? ⟨go75, (((rd_T61 l1 x34_2).f3)).toNat, none⟩ = some (.bool false) ∧ w'.cell? ⟨go77, (((rd_T61 l1 x34_2).f3)).toNat, none⟩ = some (.bool false) ∧ w'.cell? ⟨go77, (((rd_T61 l1 x34_2).f4)).toNat, none⟩ = some (.bool (rdOf false x9_2 ((rd_T61 l1 x34_2).f4)))) (ds := [29, 31]) #[false, false, false, false, false, false, false, false, false, false, false, false, false, false, false, false, false, false, false, false, false, false, false, false, false, false, false, false, false, false, false, false] (by kernel_rfl) rfl rfl ⟨(blk_cell BK399.out 0).trans rfl, (blk_cell BK399.out 1).trans rfl, (blk_cell BK399.out 2).trans rfl, (blk_cell BK399.out 3).trans rfl, (blk_cell BK399.out 4).trans rfl, (blk_cell BK399.out 5).trans rfl, hx400_0, hx408_0, hx411_0⟩ (fun hHeld => ?_); refine with_tabW impl_PredMay.tab12 impl_PredMay.bits12 (fun HT_ HW_ => ?_)
                     generalize w80.drew = w81 at HO_8 HO_9 BK399 HB GG75 GG77 HQ84 HQ85 hf75_0 hf77_0 hx400_0 hx408_0 hx411_0 hx75_0 hx77_0 hHeld ⊢
                     refine pu_ 0 68 ?_; refine pu_ 1 69 ?_; refine pu_ 2 70 ?_; refine pu_ 3 71 ?_; refine pu_ 4 72 ?_; refine pu_ 5 73 ?_; refine pu_ 16 84 ?_; refine pu_ 17 85 ?_; refine tk_ 6 74 hHeld ?_; refine pu_ 7 75 ?_; refine tk_ 8 76 hHeld ?_; refine pu_ 9 77 ?_; refine pn_ 10 78 ?_; refine pn_ 11 79 ?_; refine pn_ 12 80 ?_; refine pn_ 13 81 ?_; refine pn_ 14 82 ?_; refine pu_ 15 83 ?_; refine tk_ 18 86 hHeld ?_; refine pu_ 19 87 ?_; refine tk_ 20 88 hHeld ?_; refine pu_ 21 89 ?_; refine pu_ 22 90 ?_; refine pu_ 23 91 ?_; refine tk_ 24 92 hHeld ?_; refine pu_ 25 93 ?_; refine tk_ 26 94 hHeld ?_; refine pu_ 27 95 ?_; refine pu_ 28 96 ?_
                     refine last_ (i := 29) (N := none) #[true, true, true, true, true, true, true, true, true, true, true, true, true, true, true, true, true, true, true, true, true, true, true, true, true, true, true, true, true, true, false, false] rfl rfl (one_of HT_.out (by kernel_rfl)) (by decide) (fun K hK => ?_)
                     refine skip_ (w1 := ?_) (by rfl) rfl ?_ ?_
                     rotate_left
                     ·
                      go_simp
                      rfl
                     refine hK.out _ _ ?_
                     clear hK K
                     refine pu_ 30 97 ?_
                     refine last_ (i := 31) (N := none) #[true, true, true, true, true, true, true, true, true, true, true, true, true, true, true, true, true, true, true, true, true, true, true, true, true, true, true, true, true, true, true, true] rfl rfl (one_of HT_.out (by kernel_rfl)) (by decide) (fun K hK => ?_)
                     refine skip_ (w1 := ?_) (by rfl) rfl ?_ ?_
                     rotate_left
                     ·
                      go_simp
                      rfl
                     refine hK.out _ _ ?_
                     clear hK K
                     refine done_ (done_of HT_.out (by kernel_rfl)) ?_
                     try go_wp2
                     go_roundg k2
                     case measure => have := HJ3.out; have := HK2.out; omega
                     case rel => exact ⟨(y412), (y413), (wrap64 (x34_2 + 1)), sr, H', ⟨by have := HJ3.out; have := HK2.out; omega⟩, ⟨R_later (Kd.R_mono (Kd.R_far (p := ⟨go77, (x34_2 : Int).toNat, none⟩) (Kd.R_mono HQ84.out (fun k_ hk => (⟨hk, fun e_ => hk (by rw [e_]; rfl)⟩ : _ ∧ k_ ≠ go77))) (fun _ hk => hk.2) (.bool (rdOf false x9_2 ((rd_T61 l1 x34_2).f4)))) (fun _ hk => hk.1))⟩, ⟨R_later (Kd.R_mono HQ85.out (fun _ hk => hk.1))⟩, ⟨by repeat (first | (with_reducible first | exact HB.out | apply below_alloc | apply pw_below_drewN | apply below_drew1 | refine below_set ?_ GB75.out | refine below_set ?_ GB77.out | refine below_set ?_ GE399.out) | exact HB.out)⟩⟩
                    ·
                     rw [if_neg c76] at H
                     exact absurd H (by simp)
                   ·
                    rw [if_neg c74] at H
                    exact absurd H (by simp)
                  ·
                   rw [if_neg c73] at H
                   exact absurd H (by simp)
                 ·
                  rw [if_neg c72] at H
                  exact absurd H (by simp)
               ·
                rw [if_neg c57] at H
                exact absurd H (by simp)
             ·
              rw [if_neg c24] at H
              exact absurd H (by simp)
            ·
             rw [if_neg c23] at H
             exact absurd H (by simp)
           ·
            rw [if_neg c22] at H
            have c22b0 : (((rd_T61 l1 x34_2).f0) == 5) = false := beq_eq_false_iff_ne.mpr c22
            have c22b1 : (((rd_T61 l1 x34_2).f0) != 5) = true := bne_iff_ne.mpr c22
            by_cases c86 : ((rd_T61 l1 x34_2).f0) = 6
            ·
             rw [if_pos c86] at H
             have c86b0 : (((rd_T61 l1 x34_2).f0) == 6) = true := beq_iff_eq.mpr c86
             have c86b1 : (((rd_T61 l1 x34_2).f0) != 6) = false := bne_eq_false_iff_eq.mpr c86
             clear c86
             by_cases c87 : 0 ≤ ((rd_T61 l1 x34_2).f3)
             ·
              rw [if_pos c87] at H
              have c87b0 := decide_eq_true c87
              clear c87
              by_cases c88 : ((rd_T61 l1 x34_2).f3) < (x8_2.length : Int)
              ·
               rw [if_pos c88] at H
               have c88b0 := decide_eq_true c88
               clear c88
               obtain ⟨bq89, hbq89⟩ : ∃ b_ : Bool, b_ = (rdOf false x8_2 ((rd_T61 l1 x34_2).f3)) := ⟨_, rfl⟩
               replace H : (if bq89 = true then (if ((rd_T61 l1 x34_2).f3) < (x9_2.length : Int) then (if rdOf false x9_2 ((rd_T61 l1 x34_2).f3) = true then (if 0 ≤ ((rd_T61 l1 x34_2).f4) then (if ((rd_T61 l1 x34_2).f4) < (x9_2.length : Int) then (if x34_2 < (x8_2.length : Int) then (if x34_2 < (x9_2.length : Int) then (impl_PredMay.l0 k2 l0 l1 l2 (x8_2.set (x34_2 : Int).toNat true) (x9_2.set (x34_2 : Int).toNat (rdOf false x9_2 ((rd_T61 l1 x34_2).f4))) l1 (l1.length : Int) (wrap64 (x34_2 + 1))) else (none)) else (none)) else (none)) else (none)) else (if x34_2 < (x8_2.length : Int) then (if x34_2 < (x9_2.length : Int) then (impl_PredMay.l0 k2 l0 l1 l2 (x8_2.set (x34_2 : Int).toNat true) (x9_2.set (x34_2 : Int).toNat false) l1 (l1.length : Int) (wrap64 (x34_2 + 1))) else (none)) else (none))) else (none)) else (if 0 ≤ ((rd_T61 l1 x34_2).f4) then (if ((rd_T61 l1 x34_2).f4) < (x8_2.length : Int) then (if ((rd_T61 l1 x34_2).f3) < (x9_2.length : Int) then (if rdOf false x9_2 ((rd_T61 l1 x34_2).f3) = true then (if ((rd_T61 l1 x34_2).f4) < (x9_2.length : Int) then (if x34_2 < (x8_2.length : Int) then (if x34_2 < (x9_2.length : Int) then (impl_PredMay.l0 k2 l0 l1 l2 (x8_2.set (x34_2 : Int).toNat (rdOf false x8_2 ((rd_T61 l1 x34_2).f4))) (x9_2.set (x34_2 : Int).toNat (rdOf false x9_2 ((rd_T61 l1 x34_2).f4))) l1 (l1.length : Int) (wrap64 (x34_2 + 1))) else (none)) else (none)) else (none)) else (if x34_2 < (x8_2.length : Int) then (if x34_2 < (x9_2.length : Int) then (impl_PredMay.l0 k2 l0 l1 l2 (x8_2.set (x34_2 : Int).toNat (rdOf false x8_2 ((rd_T61 l1 x34_2).f4))) (x9_2.set (x34_2 : Int).toNat false) l1 (l1.length : Int) (wrap64 (x34_2 + 1))) else (none)) else (none))) else (none)) else (none)) else (none))) = some (r1, r2) := by rw [← hbq89] at H; exact H
               have Nbq89 := Aside0.mk hbq89
               clear hbq89
               by_cases c90 : bq89 = true
               ·
                subst c90
                replace H := ifp rfl H
                by_cases c91 : ((rd_T61 l1 x34_2).f3) < (x9_2.length : Int)
                ·
                 rw [if_pos c91] at H
                 have c91b0 := decide_eq_true c91
                 clear c91
                 obtain ⟨bq92, hbq92⟩ : ∃ b_ : Bool, b_ = (rdOf false x9_2 ((rd_T61 l1 x34_2).f3)) := ⟨_, rfl⟩
                 replace H : (if bq92 = true then (if 0 ≤ ((rd_T61 l1 x34_2).f4) then (if ((rd_T61 l1 x34_2).f4) < (x9_2.length : Int) then (if x34_2 < (x8_2.length : Int) then (if x34_2 < (x9_2.length : Int) then (impl_PredMay.l0 k2 l0 l1 l2 (x8_2.set (x34_2 : Int).toNat true) (x9_2.set (x34_2 : Int).toNat (rdOf false x9_2 ((rd_T61 l1 x34_2).f4))) l1 (l1.length : Int) (wrap64 (x34_2 + 1))) else (none)) else (none)) else (none)) else (none)) else (if x34_2 < (x8_2.length : Int) then (if x34_2 < (x9_2.length : Int) then (impl_PredMay.l0 k2 l0 l1 l2 (x8_2.set (x34_2 : Int).toNat true) (x9_2.set (x34_2 : Int).toNat false) l1 (l1.length : Int) (wrap64 (x34_2 + 1))) else (none)) else (none))) = some (r1, r2) := by rw [← hbq92] at H; exact H
                 have Nbq92 := Aside0.mk hbq92
                 clear hbq92
                 by_cases c93 : bq92 = true
                 ·
                  subst c93
                  replace H := ifp rfl H
                  by_cases c94 : 0 ≤ ((rd_T61 l1 x34_2).f4)
                  ·
                   rw [if_pos c94] at H
                   have c94b0 := decide_eq_true c94
                   clear c94
                   by_cases c95 : ((rd_T61 l1 x34_2).f4) < (x9_2.length : Int)
                   ·
                    rw [if_pos c95] at H
                    have c95b0 := decide_eq_true c95
                    clear c95
                    by_cases c96 : x34_2 < (x8_2.length : Int)
                    ·
                     rw [if_pos c96] at H
                     have c96b0 := decide_eq_true c96
                     clear c96
                     obtain ⟨y417, hy417⟩ : ∃ y_ : List Bool, y_ = (x8_2.set (x34_2 : Int).toNat true) := ⟨_, rfl⟩
                     replace H : (if x34_2 < (x9_2.length : Int) then (impl_PredMay.l0 k2 l0 l1 l2 y417 (x9_2.set (x34_2 : Int).toNat (rdOf false x9_2 ((rd_T61 l1 x34_2).f4))) l1 (l1.length : Int) (wrap64 (x34_2 + 1))) else (none)) = some (r1, r2) := by first | (rw [hy417]; with_reducible exact H) | (rw [hy417]; exact H) | exact H
                     have Ny417 := Aside0.mk hy417
                     clear hy417
                     by_cases c98 : x34_2 < (x9_2.length : Int)
                     ·
                      rw [if_pos c98] at H
                      have c98b0 := decide_eq_true c98
                      clear c98
                      obtain ⟨y418, hy418⟩ : ∃ y_ : List Bool, y_ = (x9_2.set (x34_2 : Int).toNat (rdOf false x9_2 ((rd_T61 l1 x34_2).f4))) := ⟨_, rfl⟩
                      replace H : (impl_PredMay.l0 k2 l0 l1 l2 y417 y418 l1 (l1.length : Int) (wrap64 (x34_2 + 1))) = some (r1, r2) := by first | (rw [hy418]; with_reducible exact H) | (rw [hy418]; exact H) | exact H
                      have Ny418 := Aside0.mk hy418
                      clear hy418
                      have H' := Aside0.mk H
                      clear H
                      have p398 : 0 ≤ (x34_2 : Int) := dcd
                      have q398 : x34_2 < (l1.length : Int) := dcd
                      obtain ⟨ad398, e398, hx398_0, hx398_1, hx398_2, hx398_3, hx398_4, hx398_5⟩ := at_T61 HR1.out x34_2 p398 q398
                      cases e398
                      replace hx398_0 := crd HB hx398_0
                      replace hx398_1 := crd HB hx398_1
                      replace hx398_2 := crd HB hx398_2
                      replace hx398_3 := crd HB hx398_3
                      replace hx398_4 := crd HB hx398_4
                      replace hx398_5 := crd HB hx398_5
                      replace p398 := eq_true p398
                      replace q398 := eq_true q398
                      try go_wp2_with (first | ((with_reducible refine gate_dst (N := 11) rfl ?_); (try (refine gate_guard (by rfl) ?_; dsimp only)); refine bx_ 11 #[.int .i64 0, .int .i64 0, .int .i64 0, .string (⟨#[]⟩ : ByteArray), .int .i64 0, .int .i64 0] 61 ?_; intro gb399 hg w100 hbox hb; have BK399 := Aside0.mk (hbox); have GW399 := gwe HB hg; have GE399 := GW399; replace HO_8 := Aside0.mk (Kd.R_below (R_later HO_8.out) hb); replace HO_9 := Aside0.mk (Kd.R_below (R_later HO_9.out) hb); replace HB := bst HB hb; clear hb hbox hg; obtain ⟨hcz101_0, hcz101_1, hcz101_2, hcz101_3, hcz101_4, hcz101_5, hfz101_0, hfz101_1, hfz101_2, hfz101_3, hfz101_4, hfz101_5⟩ := cl6 BK399))
                      have n0_ : Aside0 (Kd.R Kd.bool 4 ((((((w100.setCell ⟨gb399, 0, none⟩ (.int .i64 ((rd_T61 l1 x34_2).f0))).setCell ⟨gb399, 1, none⟩ (.int .i64 ((rd_T61 l1 x34_2).f1))).setCell ⟨gb399, 2, none⟩ (.int .i64 ((rd_T61 l1 x34_2).f2.f0))).setCell ⟨gb399, 3, none⟩ (.string ((rd_T61 l1 x34_2).f2.f1))).setCell ⟨gb399, 4, none⟩ (.int .i64 ((rd_T61 l1 x34_2).f3))).setCell ⟨gb399, 5, none⟩ (.int .i64 ((rd_T61 l1 x34_2).f4))) w.heap.size (fun k_ => some k_ ≠ (v394 : Value).ownBlock) v391 x8_2) := ⟨by (with_reducible repeat (first | apply Kd.R_alloc | apply Kd.R_drewN | apply Kd.R_drew)); exact Kd.R_mono (Kd.R_far (p := ⟨gb399, 5, none⟩) (Kd.R_far (p := ⟨gb399, 4, none⟩) (Kd.R_far (p := ⟨gb399, 3, none⟩) (Kd.R_far (p := ⟨gb399, 2, none⟩) (Kd.R_far (p := ⟨gb399, 1, none⟩) (Kd.R_far (p := ⟨gb399, 0, none⟩) (Kd.R_types HO_8.out BK399.out (by decide)) (fun _ hk => hk.2) (.int .i64 ((rd_T61 l1 x34_2).f0))) (fun _ hk => hk.2) (.int .i64 ((rd_T61 l1 x34_2).f1))) (fun _ hk => hk.2) (.int .i64 ((rd_T61 l1 x34_2).f2.f0))) (fun _ hk => hk.2) (.string ((rd_T61 l1 x34_2).f2.f1))) (fun _ hk => hk.2) (.int .i64 ((rd_T61 l1 x34_2).f3))) (fun _ hk => hk.2) (.int .i64 ((rd_T61 l1 x34_2).f4))) (fun _ hk => hk.1)⟩
                      have n1_ : Aside0 (Kd.R Kd.bool 4 ((((((w100.setCell ⟨gb399, 0, none⟩ (.int .i64 ((rd_T61 l1 x34_2).f0))).setCell ⟨gb399, 1, none⟩ (.int .i64 ((rd_T61 l1 x34_2).f1))).setCell ⟨gb399, 2, none⟩ (.int .i64 ((rd_T61 l1 x34_2).f2.f0))).setCell ⟨gb399, 3, none⟩ (.string ((rd_T61 l1 x34_2).f2.f1))).setCell ⟨gb399, 4, none⟩ (.int .i64 ((rd_T61 l1 x34_2).f3))).setCell ⟨gb399, 5, none⟩ (.int .i64 ((rd_T61 l1 x34_2).f4))) w.heap.size (fun k_ => some k_ ≠ (v391 : Value).ownBlock) v394 x9_2) := ⟨by (with_reducible repeat (first | apply Kd.R_alloc | apply Kd.R_drewN | apply Kd.R_drew)); exact Kd.R_mono (Kd.R_far (p := ⟨gb399, 5, none⟩) (Kd.R_far (p := ⟨gb399, 4, none⟩) (Kd.R_far (p := ⟨gb399, 3, none⟩) (Kd.R_far (p := ⟨gb399, 2, none⟩) (Kd.R_far (p := ⟨gb399, 1, none⟩) (Kd.R_far (p := ⟨gb399, 0, none⟩) (Kd.R_types HO_9.out BK399.out (by decide)) (fun _ hk => hk.2) (.int .i64 ((rd_T61 l1 x34_2).f0))) (fun _ hk => hk.2) (.int .i64 ((rd_T61 l1 x34_2).f1))) (fun _ hk => hk.2) (.int .i64 ((rd_T61 l1 x34_2).f2.f0))) (fun _ hk => hk.2) (.string ((rd_T61 l1 x34_2).f2.f1))) (fun _ hk => hk.2) (.int .i64 ((rd_T61 l1 x34_2).f3))) (fun _ hk => hk.2) (.int .i64 ((rd_T61 l1 x34_2).f4))) (fun _ hk => hk.1)⟩
                      have n2_ : Aside0 (((((((w100.setCell ⟨gb399, 0, none⟩ (.int .i64 ((rd_T61 l1 x34_2).f0))).setCell ⟨gb399, 1, none⟩ (.int .i64 ((rd_T61 l1 x34_2).f1))).setCell ⟨gb399, 2, none⟩ (.int .i64 ((rd_T61 l1 x34_2).f2.f0))).setCell ⟨gb399, 3, none⟩ (.string ((rd_T61 l1 x34_2).f2.f1))).setCell ⟨gb399, 4, none⟩ (.int .i64 ((rd_T61 l1 x34_2).f3))).setCell ⟨gb399, 5, none⟩ (.int .i64 ((rd_T61 l1 x34_2).f4))).heap[gb399]? = some (.cells #[.int .i64 ((rd_T61 l1 x34_2).f0), .int .i64 ((rd_T61 l1 x34_2).f1), .int .i64 ((rd_T61 l1 x34_2).f2.f0), .string ((rd_T61 l1 x34_2).f2.f1), .int .i64 ((rd_T61 l1 x34_2).f3), .int .i64 ((rd_T61 l1 x34_2).f4)] 61 (0, 0))) := ⟨blk_later BK399.out⟩
                      have n3_ : Aside0 (Below w.heap.size w ((((((w100.setCell ⟨gb399, 0, none⟩ (.int .i64 ((rd_T61 l1 x34_2).f0))).setCell ⟨gb399, 1, none⟩ (.int .i64 ((rd_T61 l1 x34_2).f1))).setCell ⟨gb399, 2, none⟩ (.int .i64 ((rd_T61 l1 x34_2).f2.f0))).setCell ⟨gb399, 3, none⟩ (.string ((rd_T61 l1 x34_2).f2.f1))).setCell ⟨gb399, 4, none⟩ (.int .i64 ((rd_T61 l1 x34_2).f3))).setCell ⟨gb399, 5, none⟩ (.int .i64 ((rd_T61 l1 x34_2).f4)))) := ⟨below_later HB.out⟩
                      (try clear HO_8)
                      (try clear HO_9)
                      (try clear BK399)
                      (try clear HB)
                      generalize ((((((w100.setCell ⟨gb399, 0, none⟩ (.int .i64 ((rd_T61 l1 x34_2).f0))).setCell ⟨gb399, 1, none⟩ (.int .i64 ((rd_T61 l1 x34_2).f1))).setCell ⟨gb399, 2, none⟩ (.int .i64 ((rd_T61 l1 x34_2).f2.f0))).setCell ⟨gb399, 3, none⟩ (.string ((rd_T61 l1 x34_2).f2.f1))).setCell ⟨gb399, 4, none⟩ (.int .i64 ((rd_T61 l1 x34_2).f3))).setCell ⟨gb399, 5, none⟩ (.int .i64 ((rd_T61 l1 x34_2).f4))) = w102 at n0_ n1_ n2_ n3_ ⊢
                      have HO_8 := n0_
                      have HO_9 := n1_
                      have BK399 := n2_
                      have HB := n3_
                      clear n0_ n1_ n2_ n3_
                      have n0_ := Aside0.mk (Kd.R_drew HO_8.out)
                      have n1_ := Aside0.mk (Kd.R_drew HO_9.out)
                      have n2_ := Aside0.mk (blk_drew BK399.out)
                      have n3_ := Aside0.mk (below_drew1 HB.out)
                      clear HO_8
                      clear HO_9
                      clear BK399
                      clear HB
                      have HO_8 := n0_
                      have HO_9 := n1_
                      have BK399 := n2_
                      have HB := n3_
                      clear n0_ n1_ n2_ n3_
                      obtain ⟨Ao104, co104, eo104⟩ := Kd.R_slice HO_8.out
                      (first | subst eo104 | (injection eo104 with f1_ f2_ f3_; have f4_ := f1_.symm; have f5_ := f3_.symm; clear f1_ f2_ f3_; subst f4_; subst f5_))
                      have p414 : 0 ≤ (((rd_T61 l1 x34_2).f3) : Int) := dcd
                      have q414 : ((rd_T61 l1 x34_2).f3) < (x8_2.length : Int) := dcd
                      obtain ⟨ad414, e414, hx414_0⟩ := Kd.at_bool (Kd.R_reads' HO_8.out).2.2 ((rd_T61 l1 x34_2).f3) p414 q414
                      (try rw [← Nbq89.out] at hx414_0)
                      (try rw [← Nbq92.out] at hx414_0)
                      cases e414
                      replace p414 := eq_true p414
                      replace q414 := eq_true q414
                      obtain ⟨Ao105, co105, eo105⟩ := Kd.R_slice HO_9.out
                      (first | subst eo105 | (injection eo105 with f1_ f2_ f3_; have f4_ := f1_.symm; have f5_ := f3_.symm; clear f1_ f2_ f3_; subst f4_; subst f5_))
                      have p415 : 0 ≤ (((rd_T61 l1 x34_2).f3) : Int) := dcd
                      have q415 : ((rd_T61 l1 x34_2).f3) < (x9_2.length : Int) := dcd
                      obtain ⟨ad415, e415, hx415_0⟩ := Kd.at_bool (Kd.R_reads' HO_9.out).2.2 ((rd_T61 l1 x34_2).f3) p415 q415
                      (try rw [← Nbq89.out] at hx415_0)
                      (try rw [← Nbq92.out] at hx415_0)
                      cases e415
                      replace p415 := eq_true p415
                      replace q415 := eq_true q415
                      have p416 : 0 ≤ (((rd_T61 l1 x34_2).f4) : Int) := dcd
                      have q416 : ((rd_T61 l1 x34_2).f4) < (x9_2.length : Int) := dcd
                      obtain ⟨ad416, e416, hx416_0⟩ := Kd.at_bool (Kd.R_reads' HO_9.out).2.2 ((rd_T61 l1 x34_2).f4) p416 q416
                      (try rw [← Nbq89.out] at hx416_0)
                      (try rw [← Nbq92.out] at hx416_0)
                      obtain rfl : ad415 = ad416 := (by injection e416)
                      replace p416 := eq_true p416
                      replace q416 := eq_true q416
                      have p97 : 0 ≤ (x34_2 : Int) := dcd
                      have q97 : (x34_2 : Int) < ((x8_2.length : Int) : Int) := dcd
                      obtain ⟨go97, co97, eo97, gb97, gl97, cl97, HG97⟩ := Kd.R_form HO_8.out (by omega)
                      (first | cases eo97 | (injection eo97 with ea_ en_ ec_; (first | subst ea_ | (injection ea_ with ea_; subst ea_)); subst ec_; clear en_))
                      have GB97 := Aside0.mk gb97
                      have GG97 := Aside0.mk HG97
                      clear gb97 gl97 HG97
                      (first | simp only [add_plain] at hx414_0 | skip)
                      obtain ⟨hx97_0, hf97_0⟩ := Kd.R_celln false HO_8.out (x34_2 : Int) p97 q97
                      replace p97 := eq_true p97
                      replace q97 := eq_true q97
                      have HP106 := Kd.R_putn HO_8.out (x34_2 : Int) true
                      rw [← Ny417.out] at HP106
                      have HQ106 := Aside0.mk HP106
                      clear HP106
                      have p99 : 0 ≤ (x34_2 : Int) := dcd
                      have q99 : (x34_2 : Int) < ((x9_2.length : Int) : Int) := dcd
                      obtain ⟨go99, co99, eo99, gb99, gl99, cl99, HG99⟩ := Kd.R_form HO_9.out (by omega)
                      (first | cases eo99 | (injection eo99 with ea_ en_ ec_; (first | subst ea_ | (injection ea_ with ea_; subst ea_)); subst ec_; clear en_))
                      have GB99 := Aside0.mk gb99
                      have GG99 := Aside0.mk HG99
                      clear gb99 gl99 HG99
                      (first | simp only [add_plain] at hx415_0 | skip)
                      (first | simp only [add_plain] at hx416_0 | skip)
                      obtain ⟨hx99_0, hf99_0⟩ := Kd.R_celln false (Kd.R_far (p := ⟨go97, (x34_2 : Int).toNat, none⟩) (Kd.R_mono HO_9.out (fun k_ hk => (⟨hk, fun e_ => hk (by rw [e_]; rfl)⟩ : _ ∧ k_ ≠ go97))) (fun _ hk => hk.2) (.bool true)) (x34_2 : Int) p99 q99
                      replace p99 := eq_true p99
                      replace q99 := eq_true q99
                      have HP107 := Kd.R_putn (Kd.R_far (p := ⟨go97, (x34_2 : Int).toNat, none⟩) (Kd.R_mono HO_9.out (fun k_ hk => (⟨hk, fun e_ => hk (by rw [e_]; rfl)⟩ : _ ∧ k_ ≠ go97))) (fun _ hk => hk.2) (.bool true)) (x34_2 : Int) (rdOf false x9_2 ((rd_T61 l1 x34_2).f4))
                      rw [← Ny418.out] at HP107
                      have HQ107 := Aside0.mk HP107
                      clear HP107
                      refine start_ (n := 32) (S := fun w' => w'.cell? ⟨gb399, 0, none⟩ = some (.int .i64 ((rd_T61 l1 x34_2).f0)) ∧ w'.cell? ⟨gb399, 1, none⟩ = some (.int .i64 ((rd_T61 l1 x34_2).f1)) ∧ w'.cell? ⟨gb399, 2, none⟩ = some (.int .i64 ((rd_T61 l1 x34_2).f2.f0)) ∧ w'.cell? ⟨gb399, 3, none⟩ = some (.string ((rd_T61 l1 x34_2).f2.f1)) ∧ w'.cell? ⟨gb399, 4, none⟩ = some (.int .i64 ((rd_T61 l1 x34_2).f3)) ∧ w'.cell? ⟨gb399, 5, none⟩ = some (.int .i64 ((rd_T61 l1 x34_2).f4)) ∧ w'.cell? ⟨go97, (((rd_T61 l1 x34_2).f3)).toNat, none⟩ = some (.bool true) ∧ w'.cell? ⟨go99, (((rd_T61 l1 x34_2).f3)).toNat, none⟩ = some (.bool true) ∧ w'.cell? ⟨go99, (((rd_T61 l1 x34_2).f4)).toNat, none⟩ = some (.bool (rdOf false x9_2 ((rd_T61 l1 x34_2).f4)))) (ds := [29, 31]) #[false, false, false, false, false, false, false, false, false, false, false, false, false, false, false, false, false, false, false, false, false, false, false, false, false, false, false, false, false, false, false, false] (by kernel_rfl) rfl rfl ⟨(blk_cell BK399.out 0).trans rfl, (blk_cell BK399.out 1).trans rfl, (blk_cell BK399.out 2).trans rfl, (blk_cell BK399.out 3).trans rfl, (blk_cell BK399.out 4).trans rfl, (blk_cell BK399.out 5).trans rfl, hx414_0, hx415_0, hx416_0⟩ (fun hHeld => ?_); refine with_tabW impl_PredMay.tab14 impl_PredMay.bits14 (fun HT_ HW_ => ?_)
                      generalize w102.drew = w103 at HO_8 HO_9 BK399 HB GG97 GG99 HQ106 HQ107 hf97_0 hf99_0 hx414_0 hx415_0 hx416_0 hx97_0 hx99_0 hHeld ⊢
                      refine pu_ 0 100 ?_; refine pu_ 1 101 ?_; refine pu_ 2 102 ?_; refine pu_ 3 103 ?_; refine pu_ 4 104 ?_; refine pu_ 5 105 ?_; refine pu_ 16 116 ?_; refine pu_ 17 117 ?_; refine tk_ 6 106 hHeld ?_; refine pu_ 7 107 ?_; refine tk_ 8 108 hHeld ?_; refine pu_ 9 109 ?_; refine pn_ 10 110 ?_; refine pn_ 11 111 ?_; refine pn_ 12 112 ?_; refine pn_ 13 113 ?_; refine pn_ 14 114 ?_; refine pu_ 15 115 ?_; refine tk_ 18 118 hHeld ?_; refine pu_ 19 119 ?_; refine tk_ 20 120 hHeld ?_; refine pu_ 21 121 ?_; refine pu_ 22 122 ?_; refine pu_ 23 123 ?_; refine tk_ 24 124 hHeld ?_; refine pu_ 25 125 ?_; refine tk_ 26 126 hHeld ?_; refine pu_ 27 127 ?_; refine pu_ 28 128 ?_
                      refine last_ (i := 29) (N := none) #[true, true, true, true, true, true, true, true, true, true, true, true, true, true, true, true, true, true, true, true, true, true, true, true, true, true, true, true, true, true, false, false] rfl rfl (one_of HT_.out (by kernel_rfl)) (by decide) (fun K hK => ?_)
                      refine skip_ (w1 := ?_) (by rfl) rfl ?_ ?_
                      rotate_left
                      ·
                       go_simp
                       rfl
                      refine hK.out _ _ ?_
                      clear hK K
                      refine pu_ 30 129 ?_
                      refine last_ (i := 31) (N := none) #[true, true, true, true, true, true, true, true, true, true, true, true, true, true, true, true, true, true, true, true, true, true, true, true, true, true, true, true, true, true, true, true] rfl rfl (one_of HT_.out (by kernel_rfl)) (by decide) (fun K hK => ?_)
                      refine skip_ (w1 := ?_) (by rfl) rfl ?_ ?_
                      rotate_left
                      ·
                       go_simp
                       rfl
                      refine hK.out _ _ ?_
                      clear hK K
                      refine done_ (done_of HT_.out (by kernel_rfl)) ?_
                      try go_wp2
                      go_roundg k2
                      case measure => have := HJ3.out; have := HK2.out; omega
                      case rel => exact ⟨(y417), (y418), (wrap64 (x34_2 + 1)), sr, H', ⟨by have := HJ3.out; have := HK2.out; omega⟩, ⟨R_later (Kd.R_mono (Kd.R_far (p := ⟨go99, (x34_2 : Int).toNat, none⟩) (Kd.R_mono HQ106.out (fun k_ hk => (⟨hk, fun e_ => hk (by rw [e_]; rfl)⟩ : _ ∧ k_ ≠ go99))) (fun _ hk => hk.2) (.bool (rdOf false x9_2 ((rd_T61 l1 x34_2).f4)))) (fun _ hk => hk.1))⟩, ⟨R_later (Kd.R_mono HQ107.out (fun _ hk => hk.1))⟩, ⟨by repeat (first | (with_reducible first | exact HB.out | apply below_alloc | apply pw_below_drewN | apply below_drew1 | refine below_set ?_ GB97.out | refine below_set ?_ GB99.out | refine below_set ?_ GE399.out) | exact HB.out)⟩⟩
                     ·
                      rw [if_neg c98] at H
                      exact absurd H (by simp)
                    ·
                     rw [if_neg c96] at H
                     exact absurd H (by simp)
                   ·
                    rw [if_neg c95] at H
                    exact absurd H (by simp)
                  ·
                   rw [if_neg c94] at H
                   exact absurd H (by simp)
                 ·
                  replace c93 := Bool.eq_false_iff.mpr c93
                  subst c93
                  replace H := ifn Bool.false_ne_true H
                  by_cases c108 : x34_2 < (x8_2.length : Int)
                  ·
                   rw [if_pos c108] at H
                   have c108b0 := decide_eq_true c108
                   clear c108
                   obtain ⟨y419, hy419⟩ : ∃ y_ : List Bool, y_ = (x8_2.set (x34_2 : Int).toNat true) := ⟨_, rfl⟩
                   replace H : (if x34_2 < (x9_2.length : Int) then (impl_PredMay.l0 k2 l0 l1 l2 y419 (x9_2.set (x34_2 : Int).toNat false) l1 (l1.length : Int) (wrap64 (x34_2 + 1))) else (none)) = some (r1, r2) := by first | (rw [hy419]; with_reducible exact H) | (rw [hy419]; exact H) | exact H
                   have Ny419 := Aside0.mk hy419
                   clear hy419
                   by_cases c110 : x34_2 < (x9_2.length : Int)
                   ·
                    rw [if_pos c110] at H
                    have c110b0 := decide_eq_true c110
                    clear c110
                    obtain ⟨y420, hy420⟩ : ∃ y_ : List Bool, y_ = (x9_2.set (x34_2 : Int).toNat false) := ⟨_, rfl⟩
                    replace H : (impl_PredMay.l0 k2 l0 l1 l2 y419 y420 l1 (l1.length : Int) (wrap64 (x34_2 + 1))) = some (r1, r2) := by first | (rw [hy420]; with_reducible exact H) | (rw [hy420]; exact H) | exact H
                    have Ny420 := Aside0.mk hy420
                    clear hy420
                    have H' := Aside0.mk H
                    clear H
                    have p398 : 0 ≤ (x34_2 : Int) := dcd
                    have q398 : x34_2 < (l1.length : Int) := dcd
                    obtain ⟨ad398, e398, hx398_0, hx398_1, hx398_2, hx398_3, hx398_4, hx398_5⟩ := at_T61 HR1.out x34_2 p398 q398
                    cases e398
                    replace hx398_0 := crd HB hx398_0
                    replace hx398_1 := crd HB hx398_1
                    replace hx398_2 := crd HB hx398_2
                    replace hx398_3 := crd HB hx398_3
                    replace hx398_4 := crd HB hx398_4
                    replace hx398_5 := crd HB hx398_5
                    replace p398 := eq_true p398
                    replace q398 := eq_true q398
                    try go_wp2_with (first | ((with_reducible refine gate_dst (N := 11) rfl ?_); (try (refine gate_guard (by rfl) ?_; dsimp only)); refine bx_ 11 #[.int .i64 0, .int .i64 0, .int .i64 0, .string (⟨#[]⟩ : ByteArray), .int .i64 0, .int .i64 0] 61 ?_; intro gb399 hg w112 hbox hb; have BK399 := Aside0.mk (hbox); have GW399 := gwe HB hg; have GE399 := GW399; replace HO_8 := Aside0.mk (Kd.R_below (R_later HO_8.out) hb); replace HO_9 := Aside0.mk (Kd.R_below (R_later HO_9.out) hb); replace HB := bst HB hb; clear hb hbox hg; obtain ⟨hcz113_0, hcz113_1, hcz113_2, hcz113_3, hcz113_4, hcz113_5, hfz113_0, hfz113_1, hfz113_2, hfz113_3, hfz113_4, hfz113_5⟩ := cl6 BK399))
                    have n0_ : Aside0 (Kd.R Kd.bool 4 ((((((w112.setCell ⟨gb399, 0, none⟩ (.int .i64 ((rd_T61 l1 x34_2).f0))).setCell ⟨gb399, 1, none⟩ (.int .i64 ((rd_T61 l1 x34_2).f1))).setCell ⟨gb399, 2, none⟩ (.int .i64 ((rd_T61 l1 x34_2).f2.f0))).setCell ⟨gb399, 3, none⟩ (.string ((rd_T61 l1 x34_2).f2.f1))).setCell ⟨gb399, 4, none⟩ (.int .i64 ((rd_T61 l1 x34_2).f3))).setCell ⟨gb399, 5, none⟩ (.int .i64 ((rd_T61 l1 x34_2).f4))) w.heap.size (fun k_ => some k_ ≠ (v394 : Value).ownBlock) v391 x8_2) := ⟨by (with_reducible repeat (first | apply Kd.R_alloc | apply Kd.R_drewN | apply Kd.R_drew)); exact Kd.R_mono (Kd.R_far (p := ⟨gb399, 5, none⟩) (Kd.R_far (p := ⟨gb399, 4, none⟩) (Kd.R_far (p := ⟨gb399, 3, none⟩) (Kd.R_far (p := ⟨gb399, 2, none⟩) (Kd.R_far (p := ⟨gb399, 1, none⟩) (Kd.R_far (p := ⟨gb399, 0, none⟩) (Kd.R_types HO_8.out BK399.out (by decide)) (fun _ hk => hk.2) (.int .i64 ((rd_T61 l1 x34_2).f0))) (fun _ hk => hk.2) (.int .i64 ((rd_T61 l1 x34_2).f1))) (fun _ hk => hk.2) (.int .i64 ((rd_T61 l1 x34_2).f2.f0))) (fun _ hk => hk.2) (.string ((rd_T61 l1 x34_2).f2.f1))) (fun _ hk => hk.2) (.int .i64 ((rd_T61 l1 x34_2).f3))) (fun _ hk => hk.2) (.int .i64 ((rd_T61 l1 x34_2).f4))) (fun _ hk => hk.1)⟩
                    have n1_ : Aside0 (Kd.R Kd.bool 4 ((((((w112.setCell ⟨gb399, 0, none⟩ (.int .i64 ((rd_T61 l1 x34_2).f0))).setCell ⟨gb399, 1, none⟩ (.int .i64 ((rd_T61 l1 x34_2).f1))).setCell ⟨gb399, 2, none⟩ (.int .i64 ((rd_T61 l1 x34_2).f2.f0))).setCell ⟨gb399, 3, none⟩ (.string ((rd_T61 l1 x34_2).f2.f1))).setCell ⟨gb399, 4, none⟩ (.int .i64 ((rd_T61 l1 x34_2).f3))).setCell ⟨gb399, 5, none⟩ (.int .i64 ((rd_T61 l1 x34_2).f4))) w.heap.size (fun k_ => some k_ ≠ (v391 : Value).ownBlock) v394 x9_2) := ⟨by (with_reducible repeat (first | apply Kd.R_alloc | apply Kd.R_drewN | apply Kd.R_drew)); exact Kd.R_mono (Kd.R_far (p := ⟨gb399, 5, none⟩) (Kd.R_far (p := ⟨gb399, 4, none⟩) (Kd.R_far (p := ⟨gb399, 3, none⟩) (Kd.R_far (p := ⟨gb399, 2, none⟩) (Kd.R_far (p := ⟨gb399, 1, none⟩) (Kd.R_far (p := ⟨gb399, 0, none⟩) (Kd.R_types HO_9.out BK399.out (by decide)) (fun _ hk => hk.2) (.int .i64 ((rd_T61 l1 x34_2).f0))) (fun _ hk => hk.2) (.int .i64 ((rd_T61 l1 x34_2).f1))) (fun _ hk => hk.2) (.int .i64 ((rd_T61 l1 x34_2).f2.f0))) (fun _ hk => hk.2) (.string ((rd_T61 l1 x34_2).f2.f1))) (fun _ hk => hk.2) (.int .i64 ((rd_T61 l1 x34_2).f3))) (fun _ hk => hk.2) (.int .i64 ((rd_T61 l1 x34_2).f4))) (fun _ hk => hk.1)⟩
                    have n2_ : Aside0 (((((((w112.setCell ⟨gb399, 0, none⟩ (.int .i64 ((rd_T61 l1 x34_2).f0))).setCell ⟨gb399, 1, none⟩ (.int .i64 ((rd_T61 l1 x34_2).f1))).setCell ⟨gb399, 2, none⟩ (.int .i64 ((rd_T61 l1 x34_2).f2.f0))).setCell ⟨gb399, 3, none⟩ (.string ((rd_T61 l1 x34_2).f2.f1))).setCell ⟨gb399, 4, none⟩ (.int .i64 ((rd_T61 l1 x34_2).f3))).setCell ⟨gb399, 5, none⟩ (.int .i64 ((rd_T61 l1 x34_2).f4))).heap[gb399]? = some (.cells #[.int .i64 ((rd_T61 l1 x34_2).f0), .int .i64 ((rd_T61 l1 x34_2).f1), .int .i64 ((rd_T61 l1 x34_2).f2.f0), .string ((rd_T61 l1 x34_2).f2.f1), .int .i64 ((rd_T61 l1 x34_2).f3), .int .i64 ((rd_T61 l1 x34_2).f4)] 61 (0, 0))) := ⟨blk_later BK399.out⟩
                    have n3_ : Aside0 (Below w.heap.size w ((((((w112.setCell ⟨gb399, 0, none⟩ (.int .i64 ((rd_T61 l1 x34_2).f0))).setCell ⟨gb399, 1, none⟩ (.int .i64 ((rd_T61 l1 x34_2).f1))).setCell ⟨gb399, 2, none⟩ (.int .i64 ((rd_T61 l1 x34_2).f2.f0))).setCell ⟨gb399, 3, none⟩ (.string ((rd_T61 l1 x34_2).f2.f1))).setCell ⟨gb399, 4, none⟩ (.int .i64 ((rd_T61 l1 x34_2).f3))).setCell ⟨gb399, 5, none⟩ (.int .i64 ((rd_T61 l1 x34_2).f4)))) := ⟨below_later HB.out⟩
                    (try clear HO_8)
                    (try clear HO_9)
                    (try clear BK399)
                    (try clear HB)
                    generalize ((((((w112.setCell ⟨gb399, 0, none⟩ (.int .i64 ((rd_T61 l1 x34_2).f0))).setCell ⟨gb399, 1, none⟩ (.int .i64 ((rd_T61 l1 x34_2).f1))).setCell ⟨gb399, 2, none⟩ (.int .i64 ((rd_T61 l1 x34_2).f2.f0))).setCell ⟨gb399, 3, none⟩ (.string ((rd_T61 l1 x34_2).f2.f1))).setCell ⟨gb399, 4, none⟩ (.int .i64 ((rd_T61 l1 x34_2).f3))).setCell ⟨gb399, 5, none⟩ (.int .i64 ((rd_T61 l1 x34_2).f4))) = w114 at n0_ n1_ n2_ n3_ ⊢
                    have HO_8 := n0_
                    have HO_9 := n1_
                    have BK399 := n2_
                    have HB := n3_
                    clear n0_ n1_ n2_ n3_
                    have n0_ := Aside0.mk (Kd.R_drew HO_8.out)
                    have n1_ := Aside0.mk (Kd.R_drew HO_9.out)
                    have n2_ := Aside0.mk (blk_drew BK399.out)
                    have n3_ := Aside0.mk (below_drew1 HB.out)
                    clear HO_8
                    clear HO_9
                    clear BK399
                    clear HB
                    have HO_8 := n0_
                    have HO_9 := n1_
                    have BK399 := n2_
                    have HB := n3_
                    clear n0_ n1_ n2_ n3_
                    obtain ⟨Ao116, co116, eo116⟩ := Kd.R_slice HO_8.out
                    (first | subst eo116 | (injection eo116 with f1_ f2_ f3_; have f4_ := f1_.symm; have f5_ := f3_.symm; clear f1_ f2_ f3_; subst f4_; subst f5_))
                    have p414 : 0 ≤ (((rd_T61 l1 x34_2).f3) : Int) := dcd
                    have q414 : ((rd_T61 l1 x34_2).f3) < (x8_2.length : Int) := dcd
                    obtain ⟨ad414, e414, hx414_0⟩ := Kd.at_bool (Kd.R_reads' HO_8.out).2.2 ((rd_T61 l1 x34_2).f3) p414 q414
                    (try rw [← Nbq89.out] at hx414_0)
                    (try rw [← Nbq92.out] at hx414_0)
                    cases e414
                    replace p414 := eq_true p414
                    replace q414 := eq_true q414
                    obtain ⟨Ao117, co117, eo117⟩ := Kd.R_slice HO_9.out
                    (first | subst eo117 | (injection eo117 with f1_ f2_ f3_; have f4_ := f1_.symm; have f5_ := f3_.symm; clear f1_ f2_ f3_; subst f4_; subst f5_))
                    have p415 : 0 ≤ (((rd_T61 l1 x34_2).f3) : Int) := dcd
                    have q415 : ((rd_T61 l1 x34_2).f3) < (x9_2.length : Int) := dcd
                    obtain ⟨ad415, e415, hx415_0⟩ := Kd.at_bool (Kd.R_reads' HO_9.out).2.2 ((rd_T61 l1 x34_2).f3) p415 q415
                    (try rw [← Nbq89.out] at hx415_0)
                    (try rw [← Nbq92.out] at hx415_0)
                    cases e415
                    replace p415 := eq_true p415
                    replace q415 := eq_true q415
                    have p109 : 0 ≤ (x34_2 : Int) := dcd
                    have q109 : (x34_2 : Int) < ((x8_2.length : Int) : Int) := dcd
                    obtain ⟨go109, co109, eo109, gb109, gl109, cl109, HG109⟩ := Kd.R_form HO_8.out (by omega)
                    (first | cases eo109 | (injection eo109 with ea_ en_ ec_; (first | subst ea_ | (injection ea_ with ea_; subst ea_)); subst ec_; clear en_))
                    have GB109 := Aside0.mk gb109
                    have GG109 := Aside0.mk HG109
                    clear gb109 gl109 HG109
                    (first | simp only [add_plain] at hx414_0 | skip)
                    obtain ⟨hx109_0, hf109_0⟩ := Kd.R_celln false HO_8.out (x34_2 : Int) p109 q109
                    replace p109 := eq_true p109
                    replace q109 := eq_true q109
                    have HP118 := Kd.R_putn HO_8.out (x34_2 : Int) true
                    rw [← Ny419.out] at HP118
                    have HQ118 := Aside0.mk HP118
                    clear HP118
                    have p111 : 0 ≤ (x34_2 : Int) := dcd
                    have q111 : (x34_2 : Int) < ((x9_2.length : Int) : Int) := dcd
                    obtain ⟨go111, co111, eo111, gb111, gl111, cl111, HG111⟩ := Kd.R_form HO_9.out (by omega)
                    (first | cases eo111 | (injection eo111 with ea_ en_ ec_; (first | subst ea_ | (injection ea_ with ea_; subst ea_)); subst ec_; clear en_))
                    have GB111 := Aside0.mk gb111
                    have GG111 := Aside0.mk HG111
                    clear gb111 gl111 HG111
                    (first | simp only [add_plain] at hx415_0 | skip)
                    obtain ⟨hx111_0, hf111_0⟩ := Kd.R_celln false (Kd.R_far (p := ⟨go109, (x34_2 : Int).toNat, none⟩) (Kd.R_mono HO_9.out (fun k_ hk => (⟨hk, fun e_ => hk (by rw [e_]; rfl)⟩ : _ ∧ k_ ≠ go109))) (fun _ hk => hk.2) (.bool true)) (x34_2 : Int) p111 q111
                    replace p111 := eq_true p111
                    replace q111 := eq_true q111
                    have HP119 := Kd.R_putn (Kd.R_far (p := ⟨go109, (x34_2 : Int).toNat, none⟩) (Kd.R_mono HO_9.out (fun k_ hk => (⟨hk, fun e_ => hk (by rw [e_]; rfl)⟩ : _ ∧ k_ ≠ go109))) (fun _ hk => hk.2) (.bool true)) (x34_2 : Int) false
                    rw [← Ny420.out] at HP119
                    have HQ119 := Aside0.mk HP119
                    clear HP119
                    refine start_ (n := 32) (S := fun w' => w'.cell? ⟨gb399, 0, none⟩ = some (.int .i64 ((rd_T61 l1 x34_2).f0)) ∧ w'.cell? ⟨gb399, 1, none⟩ = some (.int .i64 ((rd_T61 l1 x34_2).f1)) ∧ w'.cell? ⟨gb399, 2, none⟩ = some (.int .i64 ((rd_T61 l1 x34_2).f2.f0)) ∧ w'.cell? ⟨gb399, 3, none⟩ = some (.string ((rd_T61 l1 x34_2).f2.f1)) ∧ w'.cell? ⟨gb399, 4, none⟩ = some (.int .i64 ((rd_T61 l1 x34_2).f3)) ∧ w'.cell? ⟨gb399, 5, none⟩ = some (.int .i64 ((rd_T61 l1 x34_2).f4)) ∧ w'.cell? ⟨go109, (((rd_T61 l1 x34_2).f3)).toNat, none⟩ = some (.bool true) ∧ w'.cell? ⟨go111, (((rd_T61 l1 x34_2).f3)).toNat, none⟩ = some (.bool false)) (ds := [29, 31]) #[false, false, false, false, false, false, false, false, false, false, false, false, false, false, false, false, false, false, false, false, false, false, false, false, false, false, false, false, false, false, false, false] (by kernel_rfl) rfl rfl ⟨(blk_cell BK399.out 0).trans rfl, (blk_cell BK399.out 1).trans rfl, (blk_cell BK399.out 2).trans rfl, (blk_cell BK399.out 3).trans rfl, (blk_cell BK399.out 4).trans rfl, (blk_cell BK399.out 5).trans rfl, hx414_0, hx415_0⟩ (fun hHeld => ?_); refine with_tabW impl_PredMay.tab14 impl_PredMay.bits14 (fun HT_ HW_ => ?_)
                    generalize w114.drew = w115 at HO_8 HO_9 BK399 HB GG109 GG111 HQ118 HQ119 hf109_0 hf111_0 hx109_0 hx111_0 hx414_0 hx415_0 hHeld ⊢
                    refine pu_ 0 100 ?_; refine pu_ 1 101 ?_; refine pu_ 2 102 ?_; refine pu_ 3 103 ?_; refine pu_ 4 104 ?_; refine pu_ 5 105 ?_; refine pu_ 16 116 ?_; refine pu_ 17 117 ?_; refine tk_ 6 106 hHeld ?_; refine pu_ 7 107 ?_; refine tk_ 8 108 hHeld ?_; refine pu_ 9 109 ?_; refine pn_ 10 110 ?_; refine pn_ 11 111 ?_; refine pn_ 12 112 ?_; refine pn_ 13 113 ?_; refine pn_ 14 114 ?_; refine pu_ 15 115 ?_; refine tk_ 18 118 hHeld ?_; refine pu_ 19 119 ?_; refine tk_ 20 120 hHeld ?_; refine pu_ 21 121 ?_; refine pn_ 22 122 ?_; refine pn_ 23 123 ?_; refine pn_ 24 124 ?_; refine pn_ 25 125 ?_; refine pn_ 26 126 ?_; refine pu_ 27 127 ?_; refine pu_ 28 128 ?_
                    refine last_ (i := 29) (N := none) #[true, true, true, true, true, true, true, true, true, true, true, true, true, true, true, true, true, true, true, true, true, true, true, true, true, true, true, true, true, true, false, false] rfl rfl (one_of HT_.out (by kernel_rfl)) (by decide) (fun K hK => ?_)
                    refine skip_ (w1 := ?_) (by rfl) rfl ?_ ?_
                    rotate_left
                    ·
                     go_simp
                     rfl
                    refine hK.out _ _ ?_
                    clear hK K
                    refine pu_ 30 129 ?_
                    refine last_ (i := 31) (N := none) #[true, true, true, true, true, true, true, true, true, true, true, true, true, true, true, true, true, true, true, true, true, true, true, true, true, true, true, true, true, true, true, true] rfl rfl (one_of HT_.out (by kernel_rfl)) (by decide) (fun K hK => ?_)
                    refine skip_ (w1 := ?_) (by rfl) rfl ?_ ?_
                    rotate_left
                    ·
                     go_simp
                     rfl
                    refine hK.out _ _ ?_
                    clear hK K
                    refine done_ (done_of HT_.out (by kernel_rfl)) ?_
                    try go_wp2
                    go_roundg k2
                    case measure => have := HJ3.out; have := HK2.out; omega
                    case rel => exact ⟨(y419), (y420), (wrap64 (x34_2 + 1)), sr, H', ⟨by have := HJ3.out; have := HK2.out; omega⟩, ⟨R_later (Kd.R_mono (Kd.R_far (p := ⟨go111, (x34_2 : Int).toNat, none⟩) (Kd.R_mono HQ118.out (fun k_ hk => (⟨hk, fun e_ => hk (by rw [e_]; rfl)⟩ : _ ∧ k_ ≠ go111))) (fun _ hk => hk.2) (.bool false)) (fun _ hk => hk.1))⟩, ⟨R_later (Kd.R_mono HQ119.out (fun _ hk => hk.1))⟩, ⟨by repeat (first | (with_reducible first | exact HB.out | apply below_alloc | apply pw_below_drewN | apply below_drew1 | refine below_set ?_ GB109.out | refine below_set ?_ GB111.out | refine below_set ?_ GE399.out) | exact HB.out)⟩⟩
                   ·
                    rw [if_neg c110] at H
                    exact absurd H (by simp)
                  ·
                   rw [if_neg c108] at H
                   exact absurd H (by simp)
                ·
                 rw [if_neg c91] at H
                 exact absurd H (by simp)
               ·
                replace c90 := Bool.eq_false_iff.mpr c90
                subst c90
                replace H := ifn Bool.false_ne_true H
                by_cases c120 : 0 ≤ ((rd_T61 l1 x34_2).f4)
                ·
                 rw [if_pos c120] at H
                 have c120b0 := decide_eq_true c120
                 clear c120
                 by_cases c121 : ((rd_T61 l1 x34_2).f4) < (x8_2.length : Int)
                 ·
                  rw [if_pos c121] at H
                  have c121b0 := decide_eq_true c121
                  clear c121
                  by_cases c122 : ((rd_T61 l1 x34_2).f3) < (x9_2.length : Int)
                  ·
                   rw [if_pos c122] at H
                   have c122b0 := decide_eq_true c122
                   clear c122
                   obtain ⟨bq123, hbq123⟩ : ∃ b_ : Bool, b_ = (rdOf false x9_2 ((rd_T61 l1 x34_2).f3)) := ⟨_, rfl⟩
                   replace H : (if bq123 = true then (if ((rd_T61 l1 x34_2).f4) < (x9_2.length : Int) then (if x34_2 < (x8_2.length : Int) then (if x34_2 < (x9_2.length : Int) then (impl_PredMay.l0 k2 l0 l1 l2 (x8_2.set (x34_2 : Int).toNat (rdOf false x8_2 ((rd_T61 l1 x34_2).f4))) (x9_2.set (x34_2 : Int).toNat (rdOf false x9_2 ((rd_T61 l1 x34_2).f4))) l1 (l1.length : Int) (wrap64 (x34_2 + 1))) else (none)) else (none)) else (none)) else (if x34_2 < (x8_2.length : Int) then (if x34_2 < (x9_2.length : Int) then (impl_PredMay.l0 k2 l0 l1 l2 (x8_2.set (x34_2 : Int).toNat (rdOf false x8_2 ((rd_T61 l1 x34_2).f4))) (x9_2.set (x34_2 : Int).toNat false) l1 (l1.length : Int) (wrap64 (x34_2 + 1))) else (none)) else (none))) = some (r1, r2) := by rw [← hbq123] at H; exact H
                   have Nbq123 := Aside0.mk hbq123
                   clear hbq123
                   by_cases c124 : bq123 = true
                   ·
                    subst c124
                    replace H := ifp rfl H
                    by_cases c125 : ((rd_T61 l1 x34_2).f4) < (x9_2.length : Int)
                    ·
                     rw [if_pos c125] at H
                     have c125b0 := decide_eq_true c125
                     clear c125
                     by_cases c126 : x34_2 < (x8_2.length : Int)
                     ·
                      rw [if_pos c126] at H
                      have c126b0 := decide_eq_true c126
                      clear c126
                      obtain ⟨y424, hy424⟩ : ∃ y_ : List Bool, y_ = (x8_2.set (x34_2 : Int).toNat (rdOf false x8_2 ((rd_T61 l1 x34_2).f4))) := ⟨_, rfl⟩
                      replace H : (if x34_2 < (x9_2.length : Int) then (impl_PredMay.l0 k2 l0 l1 l2 y424 (x9_2.set (x34_2 : Int).toNat (rdOf false x9_2 ((rd_T61 l1 x34_2).f4))) l1 (l1.length : Int) (wrap64 (x34_2 + 1))) else (none)) = some (r1, r2) := by first | (rw [hy424]; with_reducible exact H) | (rw [hy424]; exact H) | exact H
                      have Ny424 := Aside0.mk hy424
                      clear hy424
                      by_cases c128 : x34_2 < (x9_2.length : Int)
                      ·
                       rw [if_pos c128] at H
                       have c128b0 := decide_eq_true c128
                       clear c128
                       obtain ⟨y425, hy425⟩ : ∃ y_ : List Bool, y_ = (x9_2.set (x34_2 : Int).toNat (rdOf false x9_2 ((rd_T61 l1 x34_2).f4))) := ⟨_, rfl⟩
                       replace H : (impl_PredMay.l0 k2 l0 l1 l2 y424 y425 l1 (l1.length : Int) (wrap64 (x34_2 + 1))) = some (r1, r2) := by first | (rw [hy425]; with_reducible exact H) | (rw [hy425]; exact H) | exact H
                       have Ny425 := Aside0.mk hy425
                       clear hy425
                       have H' := Aside0.mk H
                       clear H
                       have p398 : 0 ≤ (x34_2 : Int) := dcd
                       have q398 : x34_2 < (l1.length : Int) := dcd
                       obtain ⟨ad398, e398, hx398_0, hx398_1, hx398_2, hx398_3, hx398_4, hx398_5⟩ := at_T61 HR1.out x34_2 p398 q398
                       cases e398
                       replace hx398_0 := crd HB hx398_0
                       replace hx398_1 := crd HB hx398_1
                       replace hx398_2 := crd HB hx398_2
                       replace hx398_3 := crd HB hx398_3
                       replace hx398_4 := crd HB hx398_4
                       replace hx398_5 := crd HB hx398_5
                       replace p398 := eq_true p398
                       replace q398 := eq_true q398
                       try go_wp2_with (first | ((with_reducible refine gate_dst (N := 11) rfl ?_); (try (refine gate_guard (by rfl) ?_; dsimp only)); refine bx_ 11 #[.int .i64 0, .int .i64 0, .int .i64 0, .string (⟨#[]⟩ : ByteArray), .int .i64 0, .int .i64 0] 61 ?_; intro gb399 hg w130 hbox hb; have BK399 := Aside0.mk (hbox); have GW399 := gwe HB hg; have GE399 := GW399; replace HO_8 := Aside0.mk (Kd.R_below (R_later HO_8.out) hb); replace HO_9 := Aside0.mk (Kd.R_below (R_later HO_9.out) hb); replace HB := bst HB hb; clear hb hbox hg; obtain ⟨hcz131_0, hcz131_1, hcz131_2, hcz131_3, hcz131_4, hcz131_5, hfz131_0, hfz131_1, hfz131_2, hfz131_3, hfz131_4, hfz131_5⟩ := cl6 BK399))
                       have n0_ : Aside0 (Kd.R Kd.bool 4 ((((((w130.setCell ⟨gb399, 0, none⟩ (.int .i64 ((rd_T61 l1 x34_2).f0))).setCell ⟨gb399, 1, none⟩ (.int .i64 ((rd_T61 l1 x34_2).f1))).setCell ⟨gb399, 2, none⟩ (.int .i64 ((rd_T61 l1 x34_2).f2.f0))).setCell ⟨gb399, 3, none⟩ (.string ((rd_T61 l1 x34_2).f2.f1))).setCell ⟨gb399, 4, none⟩ (.int .i64 ((rd_T61 l1 x34_2).f3))).setCell ⟨gb399, 5, none⟩ (.int .i64 ((rd_T61 l1 x34_2).f4))) w.heap.size (fun k_ => some k_ ≠ (v394 : Value).ownBlock) v391 x8_2) := ⟨by (with_reducible repeat (first | apply Kd.R_alloc | apply Kd.R_drewN | apply Kd.R_drew)); exact Kd.R_mono (Kd.R_far (p := ⟨gb399, 5, none⟩) (Kd.R_far (p := ⟨gb399, 4, none⟩) (Kd.R_far (p := ⟨gb399, 3, none⟩) (Kd.R_far (p := ⟨gb399, 2, none⟩) (Kd.R_far (p := ⟨gb399, 1, none⟩) (Kd.R_far (p := ⟨gb399, 0, none⟩) (Kd.R_types HO_8.out BK399.out (by decide)) (fun _ hk => hk.2) (.int .i64 ((rd_T61 l1 x34_2).f0))) (fun _ hk => hk.2) (.int .i64 ((rd_T61 l1 x34_2).f1))) (fun _ hk => hk.2) (.int .i64 ((rd_T61 l1 x34_2).f2.f0))) (fun _ hk => hk.2) (.string ((rd_T61 l1 x34_2).f2.f1))) (fun _ hk => hk.2) (.int .i64 ((rd_T61 l1 x34_2).f3))) (fun _ hk => hk.2) (.int .i64 ((rd_T61 l1 x34_2).f4))) (fun _ hk => hk.1)⟩
                       have n1_ : Aside0 (Kd.R Kd.bool 4 ((((((w130.setCell ⟨gb399, 0, none⟩ (.int .i64 ((rd_T61 l1 x34_2).f0))).setCell ⟨gb399, 1, none⟩ (.int .i64 ((rd_T61 l1 x34_2).f1))).setCell ⟨gb399, 2, none⟩ (.int .i64 ((rd_T61 l1 x34_2).f2.f0))).setCell ⟨gb399, 3, none⟩ (.string ((rd_T61 l1 x34_2).f2.f1))).setCell ⟨gb399, 4, none⟩ (.int .i64 ((rd_T61 l1 x34_2).f3))).setCell ⟨gb399, 5, none⟩ (.int .i64 ((rd_T61 l1 x34_2).f4))) w.heap.size (fun k_ => some k_ ≠ (v391 : Value).ownBlock) v394 x9_2) := ⟨by (with_reducible repeat (first | apply Kd.R_alloc | apply Kd.R_drewN | apply Kd.R_drew)); exact Kd.R_mono (Kd.R_far (p := ⟨gb399, 5, none⟩) (Kd.R_far (p := ⟨gb399, 4, none⟩) (Kd.R_far (p := ⟨gb399, 3, none⟩) (Kd.R_far (p := ⟨gb399, 2, none⟩) (Kd.R_far (p := ⟨gb399, 1, none⟩) (Kd.R_far (p := ⟨gb399, 0, none⟩) (Kd.R_types HO_9.out BK399.out (by decide)) (fun _ hk => hk.2) (.int .i64 ((rd_T61 l1 x34_2).f0))) (fun _ hk => hk.2) (.int .i64 ((rd_T61 l1 x34_2).f1))) (fun _ hk => hk.2) (.int .i64 ((rd_T61 l1 x34_2).f2.f0))) (fun _ hk => hk.2) (.string ((rd_T61 l1 x34_2).f2.f1))) (fun _ hk => hk.2) (.int .i64 ((rd_T61 l1 x34_2).f3))) (fun _ hk => hk.2) (.int .i64 ((rd_T61 l1 x34_2).f4))) (fun _ hk => hk.1)⟩
                       have n2_ : Aside0 (((((((w130.setCell ⟨gb399, 0, none⟩ (.int .i64 ((rd_T61 l1 x34_2).f0))).setCell ⟨gb399, 1, none⟩ (.int .i64 ((rd_T61 l1 x34_2).f1))).setCell ⟨gb399, 2, none⟩ (.int .i64 ((rd_T61 l1 x34_2).f2.f0))).setCell ⟨gb399, 3, none⟩ (.string ((rd_T61 l1 x34_2).f2.f1))).setCell ⟨gb399, 4, none⟩ (.int .i64 ((rd_T61 l1 x34_2).f3))).setCell ⟨gb399, 5, none⟩ (.int .i64 ((rd_T61 l1 x34_2).f4))).heap[gb399]? = some (.cells #[.int .i64 ((rd_T61 l1 x34_2).f0), .int .i64 ((rd_T61 l1 x34_2).f1), .int .i64 ((rd_T61 l1 x34_2).f2.f0), .string ((rd_T61 l1 x34_2).f2.f1), .int .i64 ((rd_T61 l1 x34_2).f3), .int .i64 ((rd_T61 l1 x34_2).f4)] 61 (0, 0))) := ⟨blk_later BK399.out⟩
                       have n3_ : Aside0 (Below w.heap.size w ((((((w130.setCell ⟨gb399, 0, none⟩ (.int .i64 ((rd_T61 l1 x34_2).f0))).setCell ⟨gb399, 1, none⟩ (.int .i64 ((rd_T61 l1 x34_2).f1))).setCell ⟨gb399, 2, none⟩ (.int .i64 ((rd_T61 l1 x34_2).f2.f0))).setCell ⟨gb399, 3, none⟩ (.string ((rd_T61 l1 x34_2).f2.f1))).setCell ⟨gb399, 4, none⟩ (.int .i64 ((rd_T61 l1 x34_2).f3))).setCell ⟨gb399, 5, none⟩ (.int .i64 ((rd_T61 l1 x34_2).f4)))) := ⟨below_later HB.out⟩
                       (try clear HO_8)
                       (try clear HO_9)
                       (try clear BK399)
                       (try clear HB)
                       generalize ((((((w130.setCell ⟨gb399, 0, none⟩ (.int .i64 ((rd_T61 l1 x34_2).f0))).setCell ⟨gb399, 1, none⟩ (.int .i64 ((rd_T61 l1 x34_2).f1))).setCell ⟨gb399, 2, none⟩ (.int .i64 ((rd_T61 l1 x34_2).f2.f0))).setCell ⟨gb399, 3, none⟩ (.string ((rd_T61 l1 x34_2).f2.f1))).setCell ⟨gb399, 4, none⟩ (.int .i64 ((rd_T61 l1 x34_2).f3))).setCell ⟨gb399, 5, none⟩ (.int .i64 ((rd_T61 l1 x34_2).f4))) = w132 at n0_ n1_ n2_ n3_ ⊢
                       have HO_8 := n0_
                       have HO_9 := n1_
                       have BK399 := n2_
                       have HB := n3_
                       clear n0_ n1_ n2_ n3_
                       have n0_ := Aside0.mk (Kd.R_drew HO_8.out)
                       have n1_ := Aside0.mk (Kd.R_drew HO_9.out)
                       have n2_ := Aside0.mk (blk_drew BK399.out)
                       have n3_ := Aside0.mk (below_drew1 HB.out)
                       clear HO_8
                       clear HO_9
                       clear BK399
                       clear HB
                       have HO_8 := n0_
                       have HO_9 := n1_
                       have BK399 := n2_
                       have HB := n3_
                       clear n0_ n1_ n2_ n3_
                       obtain ⟨Ao134, co134, eo134⟩ := Kd.R_slice HO_8.out
                       (first | subst eo134 | (injection eo134 with f1_ f2_ f3_; have f4_ := f1_.symm; have f5_ := f3_.symm; clear f1_ f2_ f3_; subst f4_; subst f5_))
                       have p414 : 0 ≤ (((rd_T61 l1 x34_2).f3) : Int) := dcd
                       have q414 : ((rd_T61 l1 x34_2).f3) < (x8_2.length : Int) := dcd
                       obtain ⟨ad414, e414, hx414_0⟩ := Kd.at_bool (Kd.R_reads' HO_8.out).2.2 ((rd_T61 l1 x34_2).f3) p414 q414
                       (try rw [← Nbq89.out] at hx414_0)
                       (try rw [← Nbq123.out] at hx414_0)
                       cases e414
                       replace p414 := eq_true p414
                       replace q414 := eq_true q414
                       have p421 : 0 ≤ (((rd_T61 l1 x34_2).f4) : Int) := dcd
                       have q421 : ((rd_T61 l1 x34_2).f4) < (x8_2.length : Int) := dcd
                       obtain ⟨ad421, e421, hx421_0⟩ := Kd.at_bool (Kd.R_reads' HO_8.out).2.2 ((rd_T61 l1 x34_2).f4) p421 q421
                       (try rw [← Nbq89.out] at hx421_0)
                       (try rw [← Nbq123.out] at hx421_0)
                       obtain rfl : ad414 = ad421 := (by injection e421)
                       replace p421 := eq_true p421
                       replace q421 := eq_true q421
                       obtain ⟨Ao135, co135, eo135⟩ := Kd.R_slice HO_9.out
                       (first | subst eo135 | (injection eo135 with f1_ f2_ f3_; have f4_ := f1_.symm; have f5_ := f3_.symm; clear f1_ f2_ f3_; subst f4_; subst f5_))
                       have p422 : 0 ≤ (((rd_T61 l1 x34_2).f3) : Int) := dcd
                       have q422 : ((rd_T61 l1 x34_2).f3) < (x9_2.length : Int) := dcd
                       obtain ⟨ad422, e422, hx422_0⟩ := Kd.at_bool (Kd.R_reads' HO_9.out).2.2 ((rd_T61 l1 x34_2).f3) p422 q422
                       (try rw [← Nbq89.out] at hx422_0)
                       (try rw [← Nbq123.out] at hx422_0)
                       cases e422
                       replace p422 := eq_true p422
                       replace q422 := eq_true q422
                       have p423 : 0 ≤ (((rd_T61 l1 x34_2).f4) : Int) := dcd
                       have q423 : ((rd_T61 l1 x34_2).f4) < (x9_2.length : Int) := dcd
                       obtain ⟨ad423, e423, hx423_0⟩ := Kd.at_bool (Kd.R_reads' HO_9.out).2.2 ((rd_T61 l1 x34_2).f4) p423 q423
                       (try rw [← Nbq89.out] at hx423_0)
                       (try rw [← Nbq123.out] at hx423_0)
                       obtain rfl : ad422 = ad423 := (by injection e423)
                       replace p423 := eq_true p423
                       replace q423 := eq_true q423
                       have p127 : 0 ≤ (x34_2 : Int) := dcd
                       have q127 : (x34_2 : Int) < ((x8_2.length : Int) : Int) := dcd
                       obtain ⟨go127, co127, eo127, gb127, gl127, cl127, HG127⟩ := Kd.R_form HO_8.out (by omega)
                       (first | cases eo127 | (injection eo127 with ea_ en_ ec_; (first | subst ea_ | (injection ea_ with ea_; subst ea_)); subst ec_; clear en_))
                       have GB127 := Aside0.mk gb127
                       have GG127 := Aside0.mk HG127
                       clear gb127 gl127 HG127
                       (first | simp only [add_plain] at hx414_0 | skip)
                       (first | simp only [add_plain] at hx421_0 | skip)
                       obtain ⟨hx127_0, hf127_0⟩ := Kd.R_celln false HO_8.out (x34_2 : Int) p127 q127
                       replace p127 := eq_true p127
                       replace q127 := eq_true q127
                       have HP136 := Kd.R_putn HO_8.out (x34_2 : Int) (rdOf false x8_2 ((rd_T61 l1 x34_2).f4))
                       rw [← Ny424.out] at HP136
                       have HQ136 := Aside0.mk HP136
                       clear HP136
                       have p129 : 0 ≤ (x34_2 : Int) := dcd
                       have q129 : (x34_2 : Int) < ((x9_2.length : Int) : Int) := dcd
                       obtain ⟨go129, co129, eo129, gb129, gl129, cl129, HG129⟩ := Kd.R_form HO_9.out (by omega)
                       (first | cases eo129 | (injection eo129 with ea_ en_ ec_; (first | subst ea_ | (injection ea_ with ea_; subst ea_)); subst ec_; clear en_))
                       have GB129 := Aside0.mk gb129
                       have GG129 := Aside0.mk HG129
                       clear gb129 gl129 HG129
                       (first | simp only [add_plain] at hx422_0 | skip)
                       (first | simp only [add_plain] at hx423_0 | skip)
                       obtain ⟨hx129_0, hf129_0⟩ := Kd.R_celln false (Kd.R_far (p := ⟨go127, (x34_2 : Int).toNat, none⟩) (Kd.R_mono HO_9.out (fun k_ hk => (⟨hk, fun e_ => hk (by rw [e_]; rfl)⟩ : _ ∧ k_ ≠ go127))) (fun _ hk => hk.2) (.bool (rdOf false x8_2 ((rd_T61 l1 x34_2).f4)))) (x34_2 : Int) p129 q129
                       replace p129 := eq_true p129
                       replace q129 := eq_true q129
                       have HP137 := Kd.R_putn (Kd.R_far (p := ⟨go127, (x34_2 : Int).toNat, none⟩) (Kd.R_mono HO_9.out (fun k_ hk => (⟨hk, fun e_ => hk (by rw [e_]; rfl)⟩ : _ ∧ k_ ≠ go127))) (fun _ hk => hk.2) (.bool (rdOf false x8_2 ((rd_T61 l1 x34_2).f4)))) (x34_2 : Int) (rdOf false x9_2 ((rd_T61 l1 x34_2).f4))
                       rw [← Ny425.out] at HP137
                       have HQ137 := Aside0.mk HP137
                       clear HP137
                       refine start_ (n := 32) (S := fun w' => w'.cell? ⟨gb399, 0, none⟩ = some (.int .i64 ((rd_T61 l1 x34_2).f0)) ∧ w'.cell? ⟨gb399, 1, none⟩ = some (.int .i64 ((rd_T61 l1 x34_2).f1)) ∧ w'.cell? ⟨gb399, 2, none⟩ = some (.int .i64 ((rd_T61 l1 x34_2).f2.f0)) ∧ w'.cell? ⟨gb399, 3, none⟩ = some (.string ((rd_T61 l1 x34_2).f2.f1)) ∧ w'.cell? ⟨gb399, 4, none⟩ = some (.int .i64 ((rd_T61 l1 x34_2).f3)) ∧ w'.cell? ⟨gb399, 5, none⟩ = some (.int .i64 ((rd_T61 l1 x34_2).f4)) ∧ w'.cell? ⟨go127, (((rd_T61 l1 x34_2).f3)).toNat, none⟩ = some (.bool false) ∧ w'.cell? ⟨go127, (((rd_T61 l1 x34_2).f4)).toNat, none⟩ = some (.bool (rdOf false x8_2 ((rd_T61 l1 x34_2).f4))) ∧ w'.cell? ⟨go129, (((rd_T61 l1 x34_2).f3)).toNat, none⟩ = some (.bool true) ∧ w'.cell? ⟨go129, (((rd_T61 l1 x34_2).f4)).toNat, none⟩ = some (.bool (rdOf false x9_2 ((rd_T61 l1 x34_2).f4)))) (ds := [29, 31]) #[false, false, false, false, false, false, false, false, false, false, false, false, false, false, false, false, false, false, false, false, false, false, false, false, false, false, false, false, false, false, false, false] (by kernel_rfl) rfl rfl ⟨(blk_cell BK399.out 0).trans rfl, (blk_cell BK399.out 1).trans rfl, (blk_cell BK399.out 2).trans rfl, (blk_cell BK399.out 3).trans rfl, (blk_cell BK399.out 4).trans rfl, (blk_cell BK399.out 5).trans rfl, hx414_0, hx421_0, hx422_0, hx423_0⟩ (fun hHeld => ?_); refine with_tabW impl_PredMay.tab14 impl_PredMay.bits14 (fun HT_ HW_ => ?_)
                       generalize w132.drew = w133 at HO_8 HO_9 BK399 HB GG127 GG129 HQ136 HQ137 hf127_0 hf129_0 hx127_0 hx129_0 hx414_0 hx421_0 hx422_0 hx423_0 hHeld ⊢
                       refine pu_ 0 100 ?_; refine pu_ 1 101 ?_; refine pu_ 2 102 ?_; refine pu_ 3 103 ?_; refine pu_ 4 104 ?_; refine pu_ 5 105 ?_; refine pu_ 16 116 ?_; refine pu_ 17 117 ?_; refine tk_ 6 106 hHeld ?_; refine pu_ 7 107 ?_; refine tk_ 8 108 hHeld ?_; refine pu_ 9 109 ?_; refine pu_ 10 110 ?_; refine pu_ 11 111 ?_; refine tk_ 12 112 hHeld ?_; refine pu_ 13 113 ?_; refine tk_ 14 114 hHeld ?_; refine pu_ 15 115 ?_; refine tk_ 18 118 hHeld ?_; refine pu_ 19 119 ?_; refine tk_ 20 120 hHeld ?_; refine pu_ 21 121 ?_; refine pu_ 22 122 ?_; refine pu_ 23 123 ?_; refine tk_ 24 124 hHeld ?_; refine pu_ 25 125 ?_; refine tk_ 26 126 hHeld ?_; refine pu_ 27 127 ?_; refine pu_ 28 128 ?_
                       refine last_ (i := 29) (N := none) #[true, true, true, true, true, true, true, true, true, true, true, true, true, true, true, true, true, true, true, true, true, true, true, true, true, true, true, true, true, true, false, false] rfl rfl (one_of HT_.out (by kernel_rfl)) (by decide) (fun K hK => ?_)
                       refine skip_ (w1 := ?_) (by rfl) rfl ?_ ?_
                       rotate_left
                       ·
                        go_simp
                        rfl
                       refine hK.out _ _ ?_
                       clear hK K
                       refine pu_ 30 129 ?_
                       refine last_ (i := 31) (N := none) #[true, true, true, true, true, true, true, true, true, true, true, true, true, true, true, true, true, true, true, true, true, true, true, true, true, true, true, true, true, true, true, true] rfl rfl (one_of HT_.out (by kernel_rfl)) (by decide) (fun K hK => ?_)
                       refine skip_ (w1 := ?_) (by rfl) rfl ?_ ?_
                       rotate_left
                       ·
                        go_simp
                        rfl
                       refine hK.out _ _ ?_
                       clear hK K
                       refine done_ (done_of HT_.out (by kernel_rfl)) ?_
                       try go_wp2
                       go_roundg k2
                       case measure => have := HJ3.out; have := HK2.out; omega
                       case rel => exact ⟨(y424), (y425), (wrap64 (x34_2 + 1)), sr, H', ⟨by have := HJ3.out; have := HK2.out; omega⟩, ⟨R_later (Kd.R_mono (Kd.R_far (p := ⟨go129, (x34_2 : Int).toNat, none⟩) (Kd.R_mono HQ136.out (fun k_ hk => (⟨hk, fun e_ => hk (by rw [e_]; rfl)⟩ : _ ∧ k_ ≠ go129))) (fun _ hk => hk.2) (.bool (rdOf false x9_2 ((rd_T61 l1 x34_2).f4)))) (fun _ hk => hk.1))⟩, ⟨R_later (Kd.R_mono HQ137.out (fun _ hk => hk.1))⟩, ⟨by repeat (first | (with_reducible first | exact HB.out | apply below_alloc | apply pw_below_drewN | apply below_drew1 | refine below_set ?_ GB127.out | refine below_set ?_ GB129.out | refine below_set ?_ GE399.out) | exact HB.out)⟩⟩
                      ·
                       rw [if_neg c128] at H
                       exact absurd H (by simp)
                     ·
                      rw [if_neg c126] at H
                      exact absurd H (by simp)
                    ·
                     rw [if_neg c125] at H
                     exact absurd H (by simp)
                   ·
                    replace c124 := Bool.eq_false_iff.mpr c124
                    subst c124
                    replace H := ifn Bool.false_ne_true H
                    by_cases c138 : x34_2 < (x8_2.length : Int)
                    ·
                     rw [if_pos c138] at H
                     have c138b0 := decide_eq_true c138
                     clear c138
                     obtain ⟨y426, hy426⟩ : ∃ y_ : List Bool, y_ = (x8_2.set (x34_2 : Int).toNat (rdOf false x8_2 ((rd_T61 l1 x34_2).f4))) := ⟨_, rfl⟩
                     replace H : (if x34_2 < (x9_2.length : Int) then (impl_PredMay.l0 k2 l0 l1 l2 y426 (x9_2.set (x34_2 : Int).toNat false) l1 (l1.length : Int) (wrap64 (x34_2 + 1))) else (none)) = some (r1, r2) := by first | (rw [hy426]; with_reducible exact H) | (rw [hy426]; exact H) | exact H
                     have Ny426 := Aside0.mk hy426
                     clear hy426
                     by_cases c140 : x34_2 < (x9_2.length : Int)
                     ·
                      rw [if_pos c140] at H
                      have c140b0 := decide_eq_true c140
                      clear c140
                      obtain ⟨y427, hy427⟩ : ∃ y_ : List Bool, y_ = (x9_2.set (x34_2 : Int).toNat false) := ⟨_, rfl⟩
                      replace H : (impl_PredMay.l0 k2 l0 l1 l2 y426 y427 l1 (l1.length : Int) (wrap64 (x34_2 + 1))) = some (r1, r2) := by first | (rw [hy427]; with_reducible exact H) | (rw [hy427]; exact H) | exact H
                      have Ny427 := Aside0.mk hy427
                      clear hy427
                      have H' := Aside0.mk H
                      clear H
                      have p398 : 0 ≤ (x34_2 : Int) := dcd
                      have q398 : x34_2 < (l1.length : Int) := dcd
                      obtain ⟨ad398, e398, hx398_0, hx398_1, hx398_2, hx398_3, hx398_4, hx398_5⟩ := at_T61 HR1.out x34_2 p398 q398
                      cases e398
                      replace hx398_0 := crd HB hx398_0
                      replace hx398_1 := crd HB hx398_1
                      replace hx398_2 := crd HB hx398_2
                      replace hx398_3 := crd HB hx398_3
                      replace hx398_4 := crd HB hx398_4
                      replace hx398_5 := crd HB hx398_5
                      replace p398 := eq_true p398
                      replace q398 := eq_true q398
                      try go_wp2_with (first | ((with_reducible refine gate_dst (N := 11) rfl ?_); (try (refine gate_guard (by rfl) ?_; dsimp only)); refine bx_ 11 #[.int .i64 0, .int .i64 0, .int .i64 0, .string (⟨#[]⟩ : ByteArray), .int .i64 0, .int .i64 0] 61 ?_; intro gb399 hg w142 hbox hb; have BK399 := Aside0.mk (hbox); have GW399 := gwe HB hg; have GE399 := GW399; replace HO_8 := Aside0.mk (Kd.R_below (R_later HO_8.out) hb); replace HO_9 := Aside0.mk (Kd.R_below (R_later HO_9.out) hb); replace HB := bst HB hb; clear hb hbox hg; obtain ⟨hcz143_0, hcz143_1, hcz143_2, hcz143_3, hcz143_4, hcz143_5, hfz143_0, hfz143_1, hfz143_2, hfz143_3, hfz143_4, hfz143_5⟩ := cl6 BK399))
                      have n0_ : Aside0 (Kd.R Kd.bool 4 ((((((w142.setCell ⟨gb399, 0, none⟩ (.int .i64 ((rd_T61 l1 x34_2).f0))).setCell ⟨gb399, 1, none⟩ (.int .i64 ((rd_T61 l1 x34_2).f1))).setCell ⟨gb399, 2, none⟩ (.int .i64 ((rd_T61 l1 x34_2).f2.f0))).setCell ⟨gb399, 3, none⟩ (.string ((rd_T61 l1 x34_2).f2.f1))).setCell ⟨gb399, 4, none⟩ (.int .i64 ((rd_T61 l1 x34_2).f3))).setCell ⟨gb399, 5, none⟩ (.int .i64 ((rd_T61 l1 x34_2).f4))) w.heap.size (fun k_ => some k_ ≠ (v394 : Value).ownBlock) v391 x8_2) := ⟨by (with_reducible repeat (first | apply Kd.R_alloc | apply Kd.R_drewN | apply Kd.R_drew)); exact Kd.R_mono (Kd.R_far (p := ⟨gb399, 5, none⟩) (Kd.R_far (p := ⟨gb399, 4, none⟩) (Kd.R_far (p := ⟨gb399, 3, none⟩) (Kd.R_far (p := ⟨gb399, 2, none⟩) (Kd.R_far (p := ⟨gb399, 1, none⟩) (Kd.R_far (p := ⟨gb399, 0, none⟩) (Kd.R_types HO_8.out BK399.out (by decide)) (fun _ hk => hk.2) (.int .i64 ((rd_T61 l1 x34_2).f0))) (fun _ hk => hk.2) (.int .i64 ((rd_T61 l1 x34_2).f1))) (fun _ hk => hk.2) (.int .i64 ((rd_T61 l1 x34_2).f2.f0))) (fun _ hk => hk.2) (.string ((rd_T61 l1 x34_2).f2.f1))) (fun _ hk => hk.2) (.int .i64 ((rd_T61 l1 x34_2).f3))) (fun _ hk => hk.2) (.int .i64 ((rd_T61 l1 x34_2).f4))) (fun _ hk => hk.1)⟩
                      have n1_ : Aside0 (Kd.R Kd.bool 4 ((((((w142.setCell ⟨gb399, 0, none⟩ (.int .i64 ((rd_T61 l1 x34_2).f0))).setCell ⟨gb399, 1, none⟩ (.int .i64 ((rd_T61 l1 x34_2).f1))).setCell ⟨gb399, 2, none⟩ (.int .i64 ((rd_T61 l1 x34_2).f2.f0))).setCell ⟨gb399, 3, none⟩ (.string ((rd_T61 l1 x34_2).f2.f1))).setCell ⟨gb399, 4, none⟩ (.int .i64 ((rd_T61 l1 x34_2).f3))).setCell ⟨gb399, 5, none⟩ (.int .i64 ((rd_T61 l1 x34_2).f4))) w.heap.size (fun k_ => some k_ ≠ (v391 : Value).ownBlock) v394 x9_2) := ⟨by (with_reducible repeat (first | apply Kd.R_alloc | apply Kd.R_drewN | apply Kd.R_drew)); exact Kd.R_mono (Kd.R_far (p := ⟨gb399, 5, none⟩) (Kd.R_far (p := ⟨gb399, 4, none⟩) (Kd.R_far (p := ⟨gb399, 3, none⟩) (Kd.R_far (p := ⟨gb399, 2, none⟩) (Kd.R_far (p := ⟨gb399, 1, none⟩) (Kd.R_far (p := ⟨gb399, 0, none⟩) (Kd.R_types HO_9.out BK399.out (by decide)) (fun _ hk => hk.2) (.int .i64 ((rd_T61 l1 x34_2).f0))) (fun _ hk => hk.2) (.int .i64 ((rd_T61 l1 x34_2).f1))) (fun _ hk => hk.2) (.int .i64 ((rd_T61 l1 x34_2).f2.f0))) (fun _ hk => hk.2) (.string ((rd_T61 l1 x34_2).f2.f1))) (fun _ hk => hk.2) (.int .i64 ((rd_T61 l1 x34_2).f3))) (fun _ hk => hk.2) (.int .i64 ((rd_T61 l1 x34_2).f4))) (fun _ hk => hk.1)⟩
                      have n2_ : Aside0 (((((((w142.setCell ⟨gb399, 0, none⟩ (.int .i64 ((rd_T61 l1 x34_2).f0))).setCell ⟨gb399, 1, none⟩ (.int .i64 ((rd_T61 l1 x34_2).f1))).setCell ⟨gb399, 2, none⟩ (.int .i64 ((rd_T61 l1 x34_2).f2.f0))).setCell ⟨gb399, 3, none⟩ (.string ((rd_T61 l1 x34_2).f2.f1))).setCell ⟨gb399, 4, none⟩ (.int .i64 ((rd_T61 l1 x34_2).f3))).setCell ⟨gb399, 5, none⟩ (.int .i64 ((rd_T61 l1 x34_2).f4))).heap[gb399]? = some (.cells #[.int .i64 ((rd_T61 l1 x34_2).f0), .int .i64 ((rd_T61 l1 x34_2).f1), .int .i64 ((rd_T61 l1 x34_2).f2.f0), .string ((rd_T61 l1 x34_2).f2.f1), .int .i64 ((rd_T61 l1 x34_2).f3), .int .i64 ((rd_T61 l1 x34_2).f4)] 61 (0, 0))) := ⟨blk_later BK399.out⟩
                      have n3_ : Aside0 (Below w.heap.size w ((((((w142.setCell ⟨gb399, 0, none⟩ (.int .i64 ((rd_T61 l1 x34_2).f0))).setCell ⟨gb399, 1, none⟩ (.int .i64 ((rd_T61 l1 x34_2).f1))).setCell ⟨gb399, 2, none⟩ (.int .i64 ((rd_T61 l1 x34_2).f2.f0))).setCell ⟨gb399, 3, none⟩ (.string ((rd_T61 l1 x34_2).f2.f1))).setCell ⟨gb399, 4, none⟩ (.int .i64 ((rd_T61 l1 x34_2).f3))).setCell ⟨gb399, 5, none⟩ (.int .i64 ((rd_T61 l1 x34_2).f4)))) := ⟨below_later HB.out⟩
                      (try clear HO_8)
                      (try clear HO_9)
                      (try clear BK399)
                      (try clear HB)
                      generalize ((((((w142.setCell ⟨gb399, 0, none⟩ (.int .i64 ((rd_T61 l1 x34_2).f0))).setCell ⟨gb399, 1, none⟩ (.int .i64 ((rd_T61 l1 x34_2).f1))).setCell ⟨gb399, 2, none⟩ (.int .i64 ((rd_T61 l1 x34_2).f2.f0))).setCell ⟨gb399, 3, none⟩ (.string ((rd_T61 l1 x34_2).f2.f1))).setCell ⟨gb399, 4, none⟩ (.int .i64 ((rd_T61 l1 x34_2).f3))).setCell ⟨gb399, 5, none⟩ (.int .i64 ((rd_T61 l1 x34_2).f4))) = w144 at n0_ n1_ n2_ n3_ ⊢
                      have HO_8 := n0_
                      have HO_9 := n1_
                      have BK399 := n2_
                      have HB := n3_
                      clear n0_ n1_ n2_ n3_
                      have n0_ := Aside0.mk (Kd.R_drew HO_8.out)
                      have n1_ := Aside0.mk (Kd.R_drew HO_9.out)
                      have n2_ := Aside0.mk (blk_drew BK399.out)
                      have n3_ := Aside0.mk (below_drew1 HB.out)
                      clear HO_8
                      clear HO_9
                      clear BK399
                      clear HB
                      have HO_8 := n0_
                      have HO_9 := n1_
                      have BK399 := n2_
                      have HB := n3_
                      clear n0_ n1_ n2_ n3_
                      obtain ⟨Ao146, co146, eo146⟩ := Kd.R_slice HO_8.out
                      (first | subst eo146 | (injection eo146 with f1_ f2_ f3_; have f4_ := f1_.symm; have f5_ := f3_.symm; clear f1_ f2_ f3_; subst f4_; subst f5_))
                      have p414 : 0 ≤ (((rd_T61 l1 x34_2).f3) : Int) := dcd
                      have q414 : ((rd_T61 l1 x34_2).f3) < (x8_2.length : Int) := dcd
                      obtain ⟨ad414, e414, hx414_0⟩ := Kd.at_bool (Kd.R_reads' HO_8.out).2.2 ((rd_T61 l1 x34_2).f3) p414 q414
                      (try rw [← Nbq89.out] at hx414_0)
                      (try rw [← Nbq123.out] at hx414_0)
                      cases e414
                      replace p414 := eq_true p414
                      replace q414 := eq_true q414
                      have p421 : 0 ≤ (((rd_T61 l1 x34_2).f4) : Int) := dcd
                      have q421 : ((rd_T61 l1 x34_2).f4) < (x8_2.length : Int) := dcd
                      obtain ⟨ad421, e421, hx421_0⟩ := Kd.at_bool (Kd.R_reads' HO_8.out).2.2 ((rd_T61 l1 x34_2).f4) p421 q421
                      (try rw [← Nbq89.out] at hx421_0)
                      (try rw [← Nbq123.out] at hx421_0)
                      obtain rfl : ad414 = ad421 := (by injection e421)
                      replace p421 := eq_true p421
                      replace q421 := eq_true q421
                      obtain ⟨Ao147, co147, eo147⟩ := Kd.R_slice HO_9.out
                      (first | subst eo147 | (injection eo147 with f1_ f2_ f3_; have f4_ := f1_.symm; have f5_ := f3_.symm; clear f1_ f2_ f3_; subst f4_; subst f5_))
                      have p422 : 0 ≤ (((rd_T61 l1 x34_2).f3) : Int) := dcd
                      have q422 : ((rd_T61 l1 x34_2).f3) < (x9_2.length : Int) := dcd
                      obtain ⟨ad422, e422, hx422_0⟩ := Kd.at_bool (Kd.R_reads' HO_9.out).2.2 ((rd_T61 l1 x34_2).f3) p422 q422
                      (try rw [← Nbq89.out] at hx422_0)
                      (try rw [← Nbq123.out] at hx422_0)
                      cases e422
                      replace p422 := eq_true p422
                      replace q422 := eq_true q422
                      have p139 : 0 ≤ (x34_2 : Int) := dcd
                      have q139 : (x34_2 : Int) < ((x8_2.length : Int) : Int) := dcd
                      obtain ⟨go139, co139, eo139, gb139, gl139, cl139, HG139⟩ := Kd.R_form HO_8.out (by omega)
                      (first | cases eo139 | (injection eo139 with ea_ en_ ec_; (first | subst ea_ | (injection ea_ with ea_; subst ea_)); subst ec_; clear en_))
                      have GB139 := Aside0.mk gb139
                      have GG139 := Aside0.mk HG139
                      clear gb139 gl139 HG139
                      (first | simp only [add_plain] at hx414_0 | skip)
                      (first | simp only [add_plain] at hx421_0 | skip)
                      obtain ⟨hx139_0, hf139_0⟩ := Kd.R_celln false HO_8.out (x34_2 : Int) p139 q139
                      replace p139 := eq_true p139
                      replace q139 := eq_true q139
                      have HP148 := Kd.R_putn HO_8.out (x34_2 : Int) (rdOf false x8_2 ((rd_T61 l1 x34_2).f4))
                      rw [← Ny426.out] at HP148
                      have HQ148 := Aside0.mk HP148
                      clear HP148
                      have p141 : 0 ≤ (x34_2 : Int) := dcd
                      have q141 : (x34_2 : Int) < ((x9_2.length : Int) : Int) := dcd
                      obtain ⟨go141, co141, eo141, gb141, gl141, cl141, HG141⟩ := Kd.R_form HO_9.out (by omega)
                      (first | cases eo141 | (injection eo141 with ea_ en_ ec_; (first | subst ea_ | (injection ea_ with ea_; subst ea_)); subst ec_; clear en_))
                      have GB141 := Aside0.mk gb141
                      have GG141 := Aside0.mk HG141
                      clear gb141 gl141 HG141
                      (first | simp only [add_plain] at hx422_0 | skip)
                      obtain ⟨hx141_0, hf141_0⟩ := Kd.R_celln false (Kd.R_far (p := ⟨go139, (x34_2 : Int).toNat, none⟩) (Kd.R_mono HO_9.out (fun k_ hk => (⟨hk, fun e_ => hk (by rw [e_]; rfl)⟩ : _ ∧ k_ ≠ go139))) (fun _ hk => hk.2) (.bool (rdOf false x8_2 ((rd_T61 l1 x34_2).f4)))) (x34_2 : Int) p141 q141
                      replace p141 := eq_true p141
                      replace q141 := eq_true q141
                      have HP149 := Kd.R_putn (Kd.R_far (p := ⟨go139, (x34_2 : Int).toNat, none⟩) (Kd.R_mono HO_9.out (fun k_ hk => (⟨hk, fun e_ => hk (by rw [e_]; rfl)⟩ : _ ∧ k_ ≠ go139))) (fun _ hk => hk.2) (.bool (rdOf false x8_2 ((rd_T61 l1 x34_2).f4)))) (x34_2 : Int) false
                      rw [← Ny427.out] at HP149
                      have HQ149 := Aside0.mk HP149
                      clear HP149
                      refine start_ (n := 32) (S := fun w' => w'.cell? ⟨gb399, 0, none⟩ = some (.int .i64 ((rd_T61 l1 x34_2).f0)) ∧ w'.cell? ⟨gb399, 1, none⟩ = some (.int .i64 ((rd_T61 l1 x34_2).f1)) ∧ w'.cell? ⟨gb399, 2, none⟩ = some (.int .i64 ((rd_T61 l1 x34_2).f2.f0)) ∧ w'.cell? ⟨gb399, 3, none⟩ = some (.string ((rd_T61 l1 x34_2).f2.f1)) ∧ w'.cell? ⟨gb399, 4, none⟩ = some (.int .i64 ((rd_T61 l1 x34_2).f3)) ∧ w'.cell? ⟨gb399, 5, none⟩ = some (.int .i64 ((rd_T61 l1 x34_2).f4)) ∧ w'.cell? ⟨go139, (((rd_T61 l1 x34_2).f3)).toNat, none⟩ = some (.bool false) ∧ w'.cell? ⟨go139, (((rd_T61 l1 x34_2).f4)).toNat, none⟩ = some (.bool (rdOf false x8_2 ((rd_T61 l1 x34_2).f4))) ∧ w'.cell? ⟨go141, (((rd_T61 l1 x34_2).f3)).toNat, none⟩ = some (.bool false)) (ds := [29, 31]) #[false, false, false, false, false, false, false, false, false, false, false, false, false, false, false, false, false, false, false, false, false, false, false, false, false, false, false, false, false, false, false, false] (by kernel_rfl) rfl rfl ⟨(blk_cell BK399.out 0).trans rfl, (blk_cell BK399.out 1).trans rfl, (blk_cell BK399.out 2).trans rfl, (blk_cell BK399.out 3).trans rfl, (blk_cell BK399.out 4).trans rfl, (blk_cell BK399.out 5).trans rfl, hx414_0, hx421_0, hx422_0⟩ (fun hHeld => ?_); refine with_tabW impl_PredMay.tab14 impl_PredMay.bits14 (fun HT_ HW_ => ?_)
                      generalize w144.drew = w145 at HO_8 HO_9 BK399 HB GG139 GG141 HQ148 HQ149 hf139_0 hf141_0 hx139_0 hx141_0 hx414_0 hx421_0 hx422_0 hHeld ⊢
                      refine pu_ 0 100 ?_; refine pu_ 1 101 ?_; refine pu_ 2 102 ?_; refine pu_ 3 103 ?_; refine pu_ 4 104 ?_; refine pu_ 5 105 ?_; refine pu_ 16 116 ?_; refine pu_ 17 117 ?_; refine tk_ 6 106 hHeld ?_; refine pu_ 7 107 ?_; refine tk_ 8 108 hHeld ?_; refine pu_ 9 109 ?_; refine pu_ 10 110 ?_; refine pu_ 11 111 ?_; refine tk_ 12 112 hHeld ?_; refine pu_ 13 113 ?_; refine tk_ 14 114 hHeld ?_; refine pu_ 15 115 ?_; refine tk_ 18 118 hHeld ?_; refine pu_ 19 119 ?_; refine tk_ 20 120 hHeld ?_; refine pu_ 21 121 ?_; refine pn_ 22 122 ?_; refine pn_ 23 123 ?_; refine pn_ 24 124 ?_; refine pn_ 25 125 ?_; refine pn_ 26 126 ?_; refine pu_ 27 127 ?_; refine pu_ 28 128 ?_
                      refine last_ (i := 29) (N := none) #[true, true, true, true, true, true, true, true, true, true, true, true, true, true, true, true, true, true, true, true, true, true, true, true, true, true, true, true, true, true, false, false] rfl rfl (one_of HT_.out (by kernel_rfl)) (by decide) (fun K hK => ?_)
                      refine skip_ (w1 := ?_) (by rfl) rfl ?_ ?_
                      rotate_left
                      ·
                       go_simp
                       rfl
                      refine hK.out _ _ ?_
                      clear hK K
                      refine pu_ 30 129 ?_
                      refine last_ (i := 31) (N := none) #[true, true, true, true, true, true, true, true, true, true, true, true, true, true, true, true, true, true, true, true, true, true, true, true, true, true, true, true, true, true, true, true] rfl rfl (one_of HT_.out (by kernel_rfl)) (by decide) (fun K hK => ?_)
                      refine skip_ (w1 := ?_) (by rfl) rfl ?_ ?_
                      rotate_left
                      ·
                       go_simp
                       rfl
                      refine hK.out _ _ ?_
                      clear hK K
                      refine done_ (done_of HT_.out (by kernel_rfl)) ?_
                      try go_wp2
                      go_roundg k2
                      case measure => have := HJ3.out; have := HK2.out; omega
                      case rel => exact ⟨(y426), (y427), (wrap64 (x34_2 + 1)), sr, H', ⟨by have := HJ3.out; have := HK2.out; omega⟩, ⟨R_later (Kd.R_mono (Kd.R_far (p := ⟨go141, (x34_2 : Int).toNat, none⟩) (Kd.R_mono HQ148.out (fun k_ hk => (⟨hk, fun e_ => hk (by rw [e_]; rfl)⟩ : _ ∧ k_ ≠ go141))) (fun _ hk => hk.2) (.bool false)) (fun _ hk => hk.1))⟩, ⟨R_later (Kd.R_mono HQ149.out (fun _ hk => hk.1))⟩, ⟨by repeat (first | (with_reducible first | exact HB.out | apply below_alloc | apply pw_below_drewN | apply below_drew1 | refine below_set ?_ GB139.out | refine below_set ?_ GB141.out | refine below_set ?_ GE399.out) | exact HB.out)⟩⟩
                     ·
                      rw [if_neg c140] at H
                      exact absurd H (by simp)
                    ·
                     rw [if_neg c138] at H
                     exact absurd H (by simp)
                  ·
                   rw [if_neg c122] at H
                   exact absurd H (by simp)
                 ·
                  rw [if_neg c121] at H
                  exact absurd H (by simp)
                ·
                 rw [if_neg c120] at H
                 exact absurd H (by simp)
              ·
               rw [if_neg c88] at H
               exact absurd H (by simp)
             ·
              rw [if_neg c87] at H
              exact absurd H (by simp)
            ·
             rw [if_neg c86] at H
             have c86b0 : (((rd_T61 l1 x34_2).f0) == 6) = false := beq_eq_false_iff_ne.mpr c86
             have c86b1 : (((rd_T61 l1 x34_2).f0) != 6) = true := bne_iff_ne.mpr c86
             by_cases c150 : ((rd_T61 l1 x34_2).f0) = 7
             ·
              rw [if_pos c150] at H
              have c150b0 : (((rd_T61 l1 x34_2).f0) == 7) = true := beq_iff_eq.mpr c150
              have c150b1 : (((rd_T61 l1 x34_2).f0) != 7) = false := bne_eq_false_iff_eq.mpr c150
              clear c150
              by_cases c151 : 0 ≤ ((rd_T61 l1 x34_2).f3)
              ·
               rw [if_pos c151] at H
               have c151b0 := decide_eq_true c151
               clear c151
               by_cases c152 : ((rd_T61 l1 x34_2).f3) < (x9_2.length : Int)
               ·
                rw [if_pos c152] at H
                have c152b0 := decide_eq_true c152
                clear c152
                by_cases c153 : ((rd_T61 l1 x34_2).f3) < (x8_2.length : Int)
                ·
                 rw [if_pos c153] at H
                 have c153b0 := decide_eq_true c153
                 clear c153
                 by_cases c154 : x34_2 < (x8_2.length : Int)
                 ·
                  rw [if_pos c154] at H
                  have c154b0 := decide_eq_true c154
                  clear c154
                  obtain ⟨y430, hy430⟩ : ∃ y_ : List Bool, y_ = (x8_2.set (x34_2 : Int).toNat (rdOf false x9_2 ((rd_T61 l1 x34_2).f3))) := ⟨_, rfl⟩
                  replace H : (if x34_2 < (x9_2.length : Int) then (impl_PredMay.l0 k2 l0 l1 l2 y430 (x9_2.set (x34_2 : Int).toNat (rdOf false x8_2 ((rd_T61 l1 x34_2).f3))) l1 (l1.length : Int) (wrap64 (x34_2 + 1))) else (none)) = some (r1, r2) := by first | (rw [hy430]; with_reducible exact H) | (rw [hy430]; exact H) | exact H
                  have Ny430 := Aside0.mk hy430
                  clear hy430
                  by_cases c156 : x34_2 < (x9_2.length : Int)
                  ·
                   rw [if_pos c156] at H
                   have c156b0 := decide_eq_true c156
                   clear c156
                   obtain ⟨y431, hy431⟩ : ∃ y_ : List Bool, y_ = (x9_2.set (x34_2 : Int).toNat (rdOf false x8_2 ((rd_T61 l1 x34_2).f3))) := ⟨_, rfl⟩
                   replace H : (impl_PredMay.l0 k2 l0 l1 l2 y430 y431 l1 (l1.length : Int) (wrap64 (x34_2 + 1))) = some (r1, r2) := by first | (rw [hy431]; with_reducible exact H) | (rw [hy431]; exact H) | exact H
                   have Ny431 := Aside0.mk hy431
                   clear hy431
                   have H' := Aside0.mk H
                   clear H
                   have p398 : 0 ≤ (x34_2 : Int) := dcd
                   have q398 : x34_2 < (l1.length : Int) := dcd
                   obtain ⟨ad398, e398, hx398_0, hx398_1, hx398_2, hx398_3, hx398_4, hx398_5⟩ := at_T61 HR1.out x34_2 p398 q398
                   cases e398
                   replace hx398_0 := crd HB hx398_0
                   replace hx398_1 := crd HB hx398_1
                   replace hx398_2 := crd HB hx398_2
                   replace hx398_3 := crd HB hx398_3
                   replace hx398_4 := crd HB hx398_4
                   replace hx398_5 := crd HB hx398_5
                   replace p398 := eq_true p398
                   replace q398 := eq_true q398
                   try go_wp2_with (first | ((with_reducible refine gate_dst (N := 11) rfl ?_); (try (refine gate_guard (by rfl) ?_; dsimp only)); refine bx_ 11 #[.int .i64 0, .int .i64 0, .int .i64 0, .string (⟨#[]⟩ : ByteArray), .int .i64 0, .int .i64 0] 61 ?_; intro gb399 hg w158 hbox hb; have BK399 := Aside0.mk (hbox); have GW399 := gwe HB hg; have GE399 := GW399; replace HO_8 := Aside0.mk (Kd.R_below (R_later HO_8.out) hb); replace HO_9 := Aside0.mk (Kd.R_below (R_later HO_9.out) hb); replace HB := bst HB hb; clear hb hbox hg; obtain ⟨hcz159_0, hcz159_1, hcz159_2, hcz159_3, hcz159_4, hcz159_5, hfz159_0, hfz159_1, hfz159_2, hfz159_3, hfz159_4, hfz159_5⟩ := cl6 BK399))
                   have n0_ : Aside0 (Kd.R Kd.bool 4 ((((((w158.setCell ⟨gb399, 0, none⟩ (.int .i64 ((rd_T61 l1 x34_2).f0))).setCell ⟨gb399, 1, none⟩ (.int .i64 ((rd_T61 l1 x34_2).f1))).setCell ⟨gb399, 2, none⟩ (.int .i64 ((rd_T61 l1 x34_2).f2.f0))).setCell ⟨gb399, 3, none⟩ (.string ((rd_T61 l1 x34_2).f2.f1))).setCell ⟨gb399, 4, none⟩ (.int .i64 ((rd_T61 l1 x34_2).f3))).setCell ⟨gb399, 5, none⟩ (.int .i64 ((rd_T61 l1 x34_2).f4))) w.heap.size (fun k_ => some k_ ≠ (v394 : Value).ownBlock) v391 x8_2) := ⟨by (with_reducible repeat (first | apply Kd.R_alloc | apply Kd.R_drewN | apply Kd.R_drew)); exact Kd.R_mono (Kd.R_far (p := ⟨gb399, 5, none⟩) (Kd.R_far (p := ⟨gb399, 4, none⟩) (Kd.R_far (p := ⟨gb399, 3, none⟩) (Kd.R_far (p := ⟨gb399, 2, none⟩) (Kd.R_far (p := ⟨gb399, 1, none⟩) (Kd.R_far (p := ⟨gb399, 0, none⟩) (Kd.R_types HO_8.out BK399.out (by decide)) (fun _ hk => hk.2) (.int .i64 ((rd_T61 l1 x34_2).f0))) (fun _ hk => hk.2) (.int .i64 ((rd_T61 l1 x34_2).f1))) (fun _ hk => hk.2) (.int .i64 ((rd_T61 l1 x34_2).f2.f0))) (fun _ hk => hk.2) (.string ((rd_T61 l1 x34_2).f2.f1))) (fun _ hk => hk.2) (.int .i64 ((rd_T61 l1 x34_2).f3))) (fun _ hk => hk.2) (.int .i64 ((rd_T61 l1 x34_2).f4))) (fun _ hk => hk.1)⟩
                   have n1_ : Aside0 (Kd.R Kd.bool 4 ((((((w158.setCell ⟨gb399, 0, none⟩ (.int .i64 ((rd_T61 l1 x34_2).f0))).setCell ⟨gb399, 1, none⟩ (.int .i64 ((rd_T61 l1 x34_2).f1))).setCell ⟨gb399, 2, none⟩ (.int .i64 ((rd_T61 l1 x34_2).f2.f0))).setCell ⟨gb399, 3, none⟩ (.string ((rd_T61 l1 x34_2).f2.f1))).setCell ⟨gb399, 4, none⟩ (.int .i64 ((rd_T61 l1 x34_2).f3))).setCell ⟨gb399, 5, none⟩ (.int .i64 ((rd_T61 l1 x34_2).f4))) w.heap.size (fun k_ => some k_ ≠ (v391 : Value).ownBlock) v394 x9_2) := ⟨by (with_reducible repeat (first | apply Kd.R_alloc | apply Kd.R_drewN | apply Kd.R_drew)); exact Kd.R_mono (Kd.R_far (p := ⟨gb399, 5, none⟩) (Kd.R_far (p := ⟨gb399, 4, none⟩) (Kd.R_far (p := ⟨gb399, 3, none⟩) (Kd.R_far (p := ⟨gb399, 2, none⟩) (Kd.R_far (p := ⟨gb399, 1, none⟩) (Kd.R_far (p := ⟨gb399, 0, none⟩) (Kd.R_types HO_9.out BK399.out (by decide)) (fun _ hk => hk.2) (.int .i64 ((rd_T61 l1 x34_2).f0))) (fun _ hk => hk.2) (.int .i64 ((rd_T61 l1 x34_2).f1))) (fun _ hk => hk.2) (.int .i64 ((rd_T61 l1 x34_2).f2.f0))) (fun _ hk => hk.2) (.string ((rd_T61 l1 x34_2).f2.f1))) (fun _ hk => hk.2) (.int .i64 ((rd_T61 l1 x34_2).f3))) (fun _ hk => hk.2) (.int .i64 ((rd_T61 l1 x34_2).f4))) (fun _ hk => hk.1)⟩
                   have n2_ : Aside0 (((((((w158.setCell ⟨gb399, 0, none⟩ (.int .i64 ((rd_T61 l1 x34_2).f0))).setCell ⟨gb399, 1, none⟩ (.int .i64 ((rd_T61 l1 x34_2).f1))).setCell ⟨gb399, 2, none⟩ (.int .i64 ((rd_T61 l1 x34_2).f2.f0))).setCell ⟨gb399, 3, none⟩ (.string ((rd_T61 l1 x34_2).f2.f1))).setCell ⟨gb399, 4, none⟩ (.int .i64 ((rd_T61 l1 x34_2).f3))).setCell ⟨gb399, 5, none⟩ (.int .i64 ((rd_T61 l1 x34_2).f4))).heap[gb399]? = some (.cells #[.int .i64 ((rd_T61 l1 x34_2).f0), .int .i64 ((rd_T61 l1 x34_2).f1), .int .i64 ((rd_T61 l1 x34_2).f2.f0), .string ((rd_T61 l1 x34_2).f2.f1), .int .i64 ((rd_T61 l1 x34_2).f3), .int .i64 ((rd_T61 l1 x34_2).f4)] 61 (0, 0))) := ⟨blk_later BK399.out⟩
                   have n3_ : Aside0 (Below w.heap.size w ((((((w158.setCell ⟨gb399, 0, none⟩ (.int .i64 ((rd_T61 l1 x34_2).f0))).setCell ⟨gb399, 1, none⟩ (.int .i64 ((rd_T61 l1 x34_2).f1))).setCell ⟨gb399, 2, none⟩ (.int .i64 ((rd_T61 l1 x34_2).f2.f0))).setCell ⟨gb399, 3, none⟩ (.string ((rd_T61 l1 x34_2).f2.f1))).setCell ⟨gb399, 4, none⟩ (.int .i64 ((rd_T61 l1 x34_2).f3))).setCell ⟨gb399, 5, none⟩ (.int .i64 ((rd_T61 l1 x34_2).f4)))) := ⟨below_later HB.out⟩
                   (try clear HO_8)
                   (try clear HO_9)
                   (try clear BK399)
                   (try clear HB)
                   generalize ((((((w158.setCell ⟨gb399, 0, none⟩ (.int .i64 ((rd_T61 l1 x34_2).f0))).setCell ⟨gb399, 1, none⟩ (.int .i64 ((rd_T61 l1 x34_2).f1))).setCell ⟨gb399, 2, none⟩ (.int .i64 ((rd_T61 l1 x34_2).f2.f0))).setCell ⟨gb399, 3, none⟩ (.string ((rd_T61 l1 x34_2).f2.f1))).setCell ⟨gb399, 4, none⟩ (.int .i64 ((rd_T61 l1 x34_2).f3))).setCell ⟨gb399, 5, none⟩ (.int .i64 ((rd_T61 l1 x34_2).f4))) = w160 at n0_ n1_ n2_ n3_ ⊢
                   have HO_8 := n0_
                   have HO_9 := n1_
                   have BK399 := n2_
                   have HB := n3_
                   clear n0_ n1_ n2_ n3_
                   have n0_ := Aside0.mk (Kd.R_drew HO_8.out)
                   have n1_ := Aside0.mk (Kd.R_drew HO_9.out)
                   have n2_ := Aside0.mk (blk_drew BK399.out)
                   have n3_ := Aside0.mk (below_drew1 HB.out)
                   clear HO_8
                   clear HO_9
                   clear BK399
                   clear HB
                   have HO_8 := n0_
                   have HO_9 := n1_
                   have BK399 := n2_
                   have HB := n3_
                   clear n0_ n1_ n2_ n3_
                   obtain ⟨Ao162, co162, eo162⟩ := Kd.R_slice HO_9.out
                   (first | subst eo162 | (injection eo162 with f1_ f2_ f3_; have f4_ := f1_.symm; have f5_ := f3_.symm; clear f1_ f2_ f3_; subst f4_; subst f5_))
                   have p428 : 0 ≤ (((rd_T61 l1 x34_2).f3) : Int) := dcd
                   have q428 : ((rd_T61 l1 x34_2).f3) < (x9_2.length : Int) := dcd
                   obtain ⟨ad428, e428, hx428_0⟩ := Kd.at_bool (Kd.R_reads' HO_9.out).2.2 ((rd_T61 l1 x34_2).f3) p428 q428
                   cases e428
                   replace p428 := eq_true p428
                   replace q428 := eq_true q428
                   obtain ⟨Ao163, co163, eo163⟩ := Kd.R_slice HO_8.out
                   (first | subst eo163 | (injection eo163 with f1_ f2_ f3_; have f4_ := f1_.symm; have f5_ := f3_.symm; clear f1_ f2_ f3_; subst f4_; subst f5_))
                   have p429 : 0 ≤ (((rd_T61 l1 x34_2).f3) : Int) := dcd
                   have q429 : ((rd_T61 l1 x34_2).f3) < (x8_2.length : Int) := dcd
                   obtain ⟨ad429, e429, hx429_0⟩ := Kd.at_bool (Kd.R_reads' HO_8.out).2.2 ((rd_T61 l1 x34_2).f3) p429 q429
                   cases e429
                   replace p429 := eq_true p429
                   replace q429 := eq_true q429
                   have p155 : 0 ≤ (x34_2 : Int) := dcd
                   have q155 : (x34_2 : Int) < ((x8_2.length : Int) : Int) := dcd
                   obtain ⟨go155, co155, eo155, gb155, gl155, cl155, HG155⟩ := Kd.R_form HO_8.out (by omega)
                   (first | cases eo155 | (injection eo155 with ea_ en_ ec_; (first | subst ea_ | (injection ea_ with ea_; subst ea_)); subst ec_; clear en_))
                   have GB155 := Aside0.mk gb155
                   have GG155 := Aside0.mk HG155
                   clear gb155 gl155 HG155
                   (first | simp only [add_plain] at hx429_0 | skip)
                   obtain ⟨hx155_0, hf155_0⟩ := Kd.R_celln false HO_8.out (x34_2 : Int) p155 q155
                   replace p155 := eq_true p155
                   replace q155 := eq_true q155
                   have HP164 := Kd.R_putn HO_8.out (x34_2 : Int) (rdOf false x9_2 ((rd_T61 l1 x34_2).f3))
                   rw [← Ny430.out] at HP164
                   have HQ164 := Aside0.mk HP164
                   clear HP164
                   have p157 : 0 ≤ (x34_2 : Int) := dcd
                   have q157 : (x34_2 : Int) < ((x9_2.length : Int) : Int) := dcd
                   obtain ⟨go157, co157, eo157, gb157, gl157, cl157, HG157⟩ := Kd.R_form HO_9.out (by omega)
                   (first | cases eo157 | (injection eo157 with ea_ en_ ec_; (first | subst ea_ | (injection ea_ with ea_; subst ea_)); subst ec_; clear en_))
                   have GB157 := Aside0.mk gb157
                   have GG157 := Aside0.mk HG157
                   clear gb157 gl157 HG157
                   (first | simp only [add_plain] at hx428_0 | skip)
                   obtain ⟨hx157_0, hf157_0⟩ := Kd.R_celln false (Kd.R_far (p := ⟨go155, (x34_2 : Int).toNat, none⟩) (Kd.R_mono HO_9.out (fun k_ hk => (⟨hk, fun e_ => hk (by rw [e_]; rfl)⟩ : _ ∧ k_ ≠ go155))) (fun _ hk => hk.2) (.bool (rdOf false x9_2 ((rd_T61 l1 x34_2).f3)))) (x34_2 : Int) p157 q157
                   replace p157 := eq_true p157
                   replace q157 := eq_true q157
                   have HP165 := Kd.R_putn (Kd.R_far (p := ⟨go155, (x34_2 : Int).toNat, none⟩) (Kd.R_mono HO_9.out (fun k_ hk => (⟨hk, fun e_ => hk (by rw [e_]; rfl)⟩ : _ ∧ k_ ≠ go155))) (fun _ hk => hk.2) (.bool (rdOf false x9_2 ((rd_T61 l1 x34_2).f3)))) (x34_2 : Int) (rdOf false x8_2 ((rd_T61 l1 x34_2).f3))
                   rw [← Ny431.out] at HP165
                   have HQ165 := Aside0.mk HP165
                   clear HP165
                   refine start_ (n := 18) (S := fun w' => w'.cell? ⟨gb399, 0, none⟩ = some (.int .i64 ((rd_T61 l1 x34_2).f0)) ∧ w'.cell? ⟨gb399, 1, none⟩ = some (.int .i64 ((rd_T61 l1 x34_2).f1)) ∧ w'.cell? ⟨gb399, 2, none⟩ = some (.int .i64 ((rd_T61 l1 x34_2).f2.f0)) ∧ w'.cell? ⟨gb399, 3, none⟩ = some (.string ((rd_T61 l1 x34_2).f2.f1)) ∧ w'.cell? ⟨gb399, 4, none⟩ = some (.int .i64 ((rd_T61 l1 x34_2).f3)) ∧ w'.cell? ⟨gb399, 5, none⟩ = some (.int .i64 ((rd_T61 l1 x34_2).f4)) ∧ w'.cell? ⟨go157, (((rd_T61 l1 x34_2).f3)).toNat, none⟩ = some (.bool (rdOf false x9_2 ((rd_T61 l1 x34_2).f3))) ∧ w'.cell? ⟨go155, (((rd_T61 l1 x34_2).f3)).toNat, none⟩ = some (.bool (rdOf false x8_2 ((rd_T61 l1 x34_2).f3)))) (ds := [15, 17]) #[false, false, false, false, false, false, false, false, false, false, false, false, false, false, false, false, false, false] (by kernel_rfl) rfl rfl ⟨(blk_cell BK399.out 0).trans rfl, (blk_cell BK399.out 1).trans rfl, (blk_cell BK399.out 2).trans rfl, (blk_cell BK399.out 3).trans rfl, (blk_cell BK399.out 4).trans rfl, (blk_cell BK399.out 5).trans rfl, hx428_0, hx429_0⟩ (fun hHeld => ?_); refine with_tabW impl_PredMay.tab16 impl_PredMay.bits16 (fun HT_ HW_ => ?_)
                   generalize w160.drew = w161 at HO_8 HO_9 BK399 HB GG155 GG157 HQ164 HQ165 hf155_0 hf157_0 hx155_0 hx157_0 hx428_0 hx429_0 hHeld ⊢
                   refine pu_ 0 132 ?_; refine pu_ 1 133 ?_; refine pu_ 2 134 ?_; refine pu_ 3 135 ?_; refine pu_ 4 136 ?_; refine pu_ 5 137 ?_; refine pu_ 9 141 ?_; refine pu_ 10 142 ?_; refine tk_ 6 138 hHeld ?_; refine pu_ 7 139 ?_; refine tk_ 8 140 hHeld ?_; refine tk_ 11 143 hHeld ?_; refine pu_ 12 144 ?_; refine tk_ 13 145 hHeld ?_; refine pu_ 14 146 ?_
                   refine last_ (i := 15) (N := none) #[true, true, true, true, true, true, true, true, true, true, true, true, true, true, true, true, false, false] rfl rfl (one_of HT_.out (by kernel_rfl)) (by decide) (fun K hK => ?_)
                   refine skip_ (w1 := ?_) (by rfl) rfl ?_ ?_
                   rotate_left
                   ·
                    go_simp
                    rfl
                   refine hK.out _ _ ?_
                   clear hK K
                   refine pu_ 16 147 ?_
                   refine last_ (i := 17) (N := none) #[true, true, true, true, true, true, true, true, true, true, true, true, true, true, true, true, true, true] rfl rfl (one_of HT_.out (by kernel_rfl)) (by decide) (fun K hK => ?_)
                   refine skip_ (w1 := ?_) (by rfl) rfl ?_ ?_
                   rotate_left
                   ·
                    go_simp
                    rfl
                   refine hK.out _ _ ?_
                   clear hK K
                   refine done_ (done_of HT_.out (by kernel_rfl)) ?_
                   try go_wp2
                   go_roundg k2
                   case measure => have := HJ3.out; have := HK2.out; omega
                   case rel => exact ⟨(y430), (y431), (wrap64 (x34_2 + 1)), sr, H', ⟨by have := HJ3.out; have := HK2.out; omega⟩, ⟨R_later (Kd.R_mono (Kd.R_far (p := ⟨go157, (x34_2 : Int).toNat, none⟩) (Kd.R_mono HQ164.out (fun k_ hk => (⟨hk, fun e_ => hk (by rw [e_]; rfl)⟩ : _ ∧ k_ ≠ go157))) (fun _ hk => hk.2) (.bool (rdOf false x8_2 ((rd_T61 l1 x34_2).f3)))) (fun _ hk => hk.1))⟩, ⟨R_later (Kd.R_mono HQ165.out (fun _ hk => hk.1))⟩, ⟨by repeat (first | (with_reducible first | exact HB.out | apply below_alloc | apply pw_below_drewN | apply below_drew1 | refine below_set ?_ GB155.out | refine below_set ?_ GB157.out | refine below_set ?_ GE399.out) | exact HB.out)⟩⟩
                  ·
                   rw [if_neg c156] at H
                   exact absurd H (by simp)
                 ·
                  rw [if_neg c154] at H
                  exact absurd H (by simp)
                ·
                 rw [if_neg c153] at H
                 exact absurd H (by simp)
               ·
                rw [if_neg c152] at H
                exact absurd H (by simp)
              ·
               rw [if_neg c151] at H
               exact absurd H (by simp)
             ·
              rw [if_neg c150] at H
              have c150b0 : (((rd_T61 l1 x34_2).f0) == 7) = false := beq_eq_false_iff_ne.mpr c150
              have c150b1 : (((rd_T61 l1 x34_2).f0) != 7) = true := bne_iff_ne.mpr c150
              replace H := Option.bind_eq_some_iff.mp H
              obtain ⟨⟨t432, t433, t434, t435⟩, A1660, H⟩ := H
              replace H : (if 0 ≤ ((rd_T61 l1 x34_2).f1) then (if ((rd_T61 l1 x34_2).f1) < (l2.length : Int) then ((impl_may.f k2 t432 ((rd_T61 l1 x34_2).f0) ((rd_T61 l1 x34_2).f1) ((rd_T61 l1 x34_2).f2.f0) ((rd_T61 l1 x34_2).f2.f1) ((rd_T61 l1 x34_2).f3) ((rd_T61 l1 x34_2).f4) ((rd_T66 l2 ((rd_T61 l1 x34_2).f1)).f0) ((rd_T66 l2 ((rd_T61 l1 x34_2).f1)).f1.f0) ((rd_T66 l2 ((rd_T61 l1 x34_2).f1)).f1.f1) ((rd_T66 l2 ((rd_T61 l1 x34_2).f1)).f1.f2.f0) ((rd_T66 l2 ((rd_T61 l1 x34_2).f1)).f1.f2.f1) ((rd_T66 l2 ((rd_T61 l1 x34_2).f1)).f1.f3.f0) ((rd_T66 l2 ((rd_T61 l1 x34_2).f1)).f1.f3.f1)).bind fun bt438 => (if x34_2 < (x8_2.length : Int) then (if x34_2 < (x9_2.length : Int) then (impl_PredMay.l0 k2 l0 l1 l2 (x8_2.set (x34_2 : Int).toNat bt438.1) (x9_2.set (x34_2 : Int).toNat bt438.2) l1 (l1.length : Int) (wrap64 (x34_2 + 1))) else (none)) else (none))) else (none)) else (none)) = some (r1, r2) := H
              have A166 := Aside0.mk A1660
              clear A1660
              by_cases c167 : 0 ≤ ((rd_T61 l1 x34_2).f1)
              ·
               rw [if_pos c167] at H
               have c167b0 := decide_eq_true c167
               clear c167
               by_cases c168 : ((rd_T61 l1 x34_2).f1) < (l2.length : Int)
               ·
                rw [if_pos c168] at H
                have c168b0 := decide_eq_true c168
                clear c168
                replace H := Option.bind_eq_some_iff.mp H
                obtain ⟨⟨t438, t439⟩, A1690, H⟩ := H
                replace H : (if x34_2 < (x8_2.length : Int) then (if x34_2 < (x9_2.length : Int) then (impl_PredMay.l0 k2 l0 l1 l2 (x8_2.set (x34_2 : Int).toNat t438) (x9_2.set (x34_2 : Int).toNat t439) l1 (l1.length : Int) (wrap64 (x34_2 + 1))) else (none)) else (none)) = some (r1, r2) := H
                have A169 := Aside0.mk A1690
                clear A1690
                by_cases c170 : x34_2 < (x8_2.length : Int)
                ·
                 rw [if_pos c170] at H
                 have c170b0 := decide_eq_true c170
                 clear c170
                 obtain ⟨y440, hy440⟩ : ∃ y_ : List Bool, y_ = (x8_2.set (x34_2 : Int).toNat t438) := ⟨_, rfl⟩
                 replace H : (if x34_2 < (x9_2.length : Int) then (impl_PredMay.l0 k2 l0 l1 l2 y440 (x9_2.set (x34_2 : Int).toNat t439) l1 (l1.length : Int) (wrap64 (x34_2 + 1))) else (none)) = some (r1, r2) := by first | (rw [hy440]; with_reducible exact H) | (rw [hy440]; exact H) | exact H
                 have Ny440 := Aside0.mk hy440
                 clear hy440
                 by_cases c172 : x34_2 < (x9_2.length : Int)
                 ·
                  rw [if_pos c172] at H
                  have c172b0 := decide_eq_true c172
                  clear c172
                  obtain ⟨y441, hy441⟩ : ∃ y_ : List Bool, y_ = (x9_2.set (x34_2 : Int).toNat t439) := ⟨_, rfl⟩
                  replace H : (impl_PredMay.l0 k2 l0 l1 l2 y440 y441 l1 (l1.length : Int) (wrap64 (x34_2 + 1))) = some (r1, r2) := by first | (rw [hy441]; with_reducible exact H) | (rw [hy441]; exact H) | exact H
                  have Ny441 := Aside0.mk hy441
                  clear hy441
                  have H' := Aside0.mk H
                  clear H
                  have p398 : 0 ≤ (x34_2 : Int) := dcd
                  have q398 : x34_2 < (l1.length : Int) := dcd
                  obtain ⟨ad398, e398, hx398_0, hx398_1, hx398_2, hx398_3, hx398_4, hx398_5⟩ := at_T61 HR1.out x34_2 p398 q398
                  cases e398
                  replace hx398_0 := crd HB hx398_0
                  replace hx398_1 := crd HB hx398_1
                  replace hx398_2 := crd HB hx398_2
                  replace hx398_3 := crd HB hx398_3
                  replace hx398_4 := crd HB hx398_4
                  replace hx398_5 := crd HB hx398_5
                  replace p398 := eq_true p398
                  replace q398 := eq_true q398
                  try go_wp2_with (first | ((with_reducible refine gate_dst (N := 11) rfl ?_); (try (refine gate_guard (by rfl) ?_; dsimp only)); refine bx_ 11 #[.int .i64 0, .int .i64 0, .int .i64 0, .string (⟨#[]⟩ : ByteArray), .int .i64 0, .int .i64 0] 61 ?_; intro gb399 hg w174 hbox hb; have BK399 := Aside0.mk (hbox); have GW399 := gwe HB hg; have GE399 := GW399; replace HO_8 := Aside0.mk (Kd.R_below (R_later HO_8.out) hb); replace HO_9 := Aside0.mk (Kd.R_below (R_later HO_9.out) hb); replace HB := bst HB hb; clear hb hbox hg; obtain ⟨hcz175_0, hcz175_1, hcz175_2, hcz175_3, hcz175_4, hcz175_5, hfz175_0, hfz175_1, hfz175_2, hfz175_3, hfz175_4, hfz175_5⟩ := cl6 BK399) | ((with_reducible refine gate_callee (f := 26) rfl ?_); refine gl_ (some 45) Try.func26 #[.slice A0 l0.length c0, .int .i64 ((rd_T61 l1 x34_2).f1)] rfl ?_; (with_reducible refine (impl_LeafOf.calls k2 _ _ l0 ((rd_T61 l1 x34_2).f1) t432 t433 t434 t435 _ ?side1 ?side2 A166.out).mono ?_); (case side1 => exact Kd.C_below HR0.out (below_later HB.out)); (case side2 => exact HC0.out); rintro e w176 ⟨rfl, hb⟩; refine ⟨_, rfl, ?_⟩; replace HO_8 := Aside0.mk (Kd.R_below (by (with_reducible repeat (first | apply Kd.R_alloc | apply Kd.R_drewN | apply Kd.R_drew)); exact (Kd.R_mono (Kd.R_far (p := ⟨gb399, 5, none⟩) (Kd.R_far (p := ⟨gb399, 4, none⟩) (Kd.R_far (p := ⟨gb399, 3, none⟩) (Kd.R_far (p := ⟨gb399, 2, none⟩) (Kd.R_far (p := ⟨gb399, 1, none⟩) (Kd.R_far (p := ⟨gb399, 0, none⟩) (Kd.R_types HO_8.out BK399.out (by decide)) (fun _ hk => hk.2) (.int .i64 ((rd_T61 l1 x34_2).f0))) (fun _ hk => hk.2) (.int .i64 ((rd_T61 l1 x34_2).f1))) (fun _ hk => hk.2) (.int .i64 ((rd_T61 l1 x34_2).f2.f0))) (fun _ hk => hk.2) (.string ((rd_T61 l1 x34_2).f2.f1))) (fun _ hk => hk.2) (.int .i64 ((rd_T61 l1 x34_2).f3))) (fun _ hk => hk.2) (.int .i64 ((rd_T61 l1 x34_2).f4))) (fun _ h_ => h_.1))) hb); replace HO_9 := Aside0.mk (Kd.R_below (by (with_reducible repeat (first | apply Kd.R_alloc | apply Kd.R_drewN | apply Kd.R_drew)); exact (Kd.R_mono (Kd.R_far (p := ⟨gb399, 5, none⟩) (Kd.R_far (p := ⟨gb399, 4, none⟩) (Kd.R_far (p := ⟨gb399, 3, none⟩) (Kd.R_far (p := ⟨gb399, 2, none⟩) (Kd.R_far (p := ⟨gb399, 1, none⟩) (Kd.R_far (p := ⟨gb399, 0, none⟩) (Kd.R_types HO_9.out BK399.out (by decide)) (fun _ hk => hk.2) (.int .i64 ((rd_T61 l1 x34_2).f0))) (fun _ hk => hk.2) (.int .i64 ((rd_T61 l1 x34_2).f1))) (fun _ hk => hk.2) (.int .i64 ((rd_T61 l1 x34_2).f2.f0))) (fun _ hk => hk.2) (.string ((rd_T61 l1 x34_2).f2.f1))) (fun _ hk => hk.2) (.int .i64 ((rd_T61 l1 x34_2).f3))) (fun _ hk => hk.2) (.int .i64 ((rd_T61 l1 x34_2).f4))) (fun _ h_ => h_.1))) hb); replace BK399 := Aside0.mk (blk_below (g := gb399) (o := .cells #[.int .i64 ((rd_T61 l1 x34_2).f0), .int .i64 ((rd_T61 l1 x34_2).f1), .int .i64 ((rd_T61 l1 x34_2).f2.f0), .string ((rd_T61 l1 x34_2).f2.f1), .int .i64 ((rd_T61 l1 x34_2).f3), .int .i64 ((rd_T61 l1 x34_2).f4)] 61 (0, 0)) (blk_later BK399.out) hb); replace HB := bst HB hb; (try clear hb); (try clear hk)) | ((with_reducible refine gate_dst (N := 12) rfl ?_); (try (refine gate_guard (by rfl) ?_; dsimp only)); refine bx_ 12 #[.int .i64 0, .int .i64 0, .int .i64 0] 70 ?_; intro gb436 hg w177 hbox hb; have BK436 := Aside0.mk (hbox); have GW436 := gwe HB hg; have GE436 := GW436; have NB399_436 := nbl BK399 hg; have NB436_399 := nbr (nbl BK399 hg); replace HO_8 := Aside0.mk (Kd.R_below (R_later HO_8.out) hb); replace HO_9 := Aside0.mk (Kd.R_below (R_later HO_9.out) hb); replace BK399 := bkb BK399 hb; replace HB := bst HB hb; clear hb hbox hg; have hnb178 := NB436_399.out; have hnc178 := NB399_436.out; obtain ⟨hcz179_0, hcz179_1, hcz179_2, hfz179_0, hfz179_1, hfz179_2⟩ := cl3 BK436))
                  have n0_ : Aside0 (Kd.R Kd.bool 4 (((w177.setCell ⟨gb436, 0, none⟩ (.int .i64 t432)).setCell ⟨gb436, 1, none⟩ (.int .i64 t433)).setCell ⟨gb436, 2, none⟩ (.int .i64 t434)) w.heap.size (fun k_ => some k_ ≠ (v394 : Value).ownBlock) v391 x8_2) := ⟨by (with_reducible repeat (first | apply Kd.R_alloc | apply Kd.R_drewN | apply Kd.R_drew)); exact Kd.R_mono (Kd.R_far (p := ⟨gb436, 2, none⟩) (Kd.R_far (p := ⟨gb436, 1, none⟩) (Kd.R_far (p := ⟨gb436, 0, none⟩) (Kd.R_types HO_8.out BK436.out (by decide)) (fun _ hk => hk.2) (.int .i64 t432)) (fun _ hk => hk.2) (.int .i64 t433)) (fun _ hk => hk.2) (.int .i64 t434)) (fun _ hk => hk.1)⟩
                  have n1_ : Aside0 (Kd.R Kd.bool 4 (((w177.setCell ⟨gb436, 0, none⟩ (.int .i64 t432)).setCell ⟨gb436, 1, none⟩ (.int .i64 t433)).setCell ⟨gb436, 2, none⟩ (.int .i64 t434)) w.heap.size (fun k_ => some k_ ≠ (v391 : Value).ownBlock) v394 x9_2) := ⟨by (with_reducible repeat (first | apply Kd.R_alloc | apply Kd.R_drewN | apply Kd.R_drew)); exact Kd.R_mono (Kd.R_far (p := ⟨gb436, 2, none⟩) (Kd.R_far (p := ⟨gb436, 1, none⟩) (Kd.R_far (p := ⟨gb436, 0, none⟩) (Kd.R_types HO_9.out BK436.out (by decide)) (fun _ hk => hk.2) (.int .i64 t432)) (fun _ hk => hk.2) (.int .i64 t433)) (fun _ hk => hk.2) (.int .i64 t434)) (fun _ hk => hk.1)⟩
                  have n2_ : Aside0 ((((w177.setCell ⟨gb436, 0, none⟩ (.int .i64 t432)).setCell ⟨gb436, 1, none⟩ (.int .i64 t433)).setCell ⟨gb436, 2, none⟩ (.int .i64 t434)).heap[gb399]? = some (.cells #[.int .i64 ((rd_T61 l1 x34_2).f0), .int .i64 ((rd_T61 l1 x34_2).f1), .int .i64 ((rd_T61 l1 x34_2).f2.f0), .string ((rd_T61 l1 x34_2).f2.f1), .int .i64 ((rd_T61 l1 x34_2).f3), .int .i64 ((rd_T61 l1 x34_2).f4)] 61 (0, 0))) := ⟨blk_later BK399.out⟩
                  have n3_ : Aside0 ((((w177.setCell ⟨gb436, 0, none⟩ (.int .i64 t432)).setCell ⟨gb436, 1, none⟩ (.int .i64 t433)).setCell ⟨gb436, 2, none⟩ (.int .i64 t434)).heap[gb436]? = some (.cells #[.int .i64 t432, .int .i64 t433, .int .i64 t434] 70 (0, 0))) := ⟨blk_later BK436.out⟩
                  have n4_ : Aside0 (Below w.heap.size w (((w177.setCell ⟨gb436, 0, none⟩ (.int .i64 t432)).setCell ⟨gb436, 1, none⟩ (.int .i64 t433)).setCell ⟨gb436, 2, none⟩ (.int .i64 t434))) := ⟨below_later HB.out⟩
                  (try clear HO_8)
                  (try clear HO_9)
                  (try clear BK399)
                  (try clear BK436)
                  (try clear HB)
                  generalize (((w177.setCell ⟨gb436, 0, none⟩ (.int .i64 t432)).setCell ⟨gb436, 1, none⟩ (.int .i64 t433)).setCell ⟨gb436, 2, none⟩ (.int .i64 t434)) = w180 at n0_ n1_ n2_ n3_ n4_ ⊢
                  have HO_8 := n0_
                  have HO_9 := n1_
                  have BK399 := n2_
                  have BK436 := n3_
                  have HB := n4_
                  clear n0_ n1_ n2_ n3_ n4_
                  have n0_ := Aside0.mk (Kd.R_drew HO_8.out)
                  have n1_ := Aside0.mk (Kd.R_drew HO_9.out)
                  have n2_ := Aside0.mk (blk_drew BK399.out)
                  have n3_ := Aside0.mk (blk_drew BK436.out)
                  have n4_ := Aside0.mk (below_drew1 HB.out)
                  clear HO_8
                  clear HO_9
                  clear BK399
                  clear BK436
                  clear HB
                  have HO_8 := n0_
                  have HO_9 := n1_
                  have BK399 := n2_
                  have BK436 := n3_
                  have HB := n4_
                  clear n0_ n1_ n2_ n3_ n4_
                  have p437 : 0 ≤ (((rd_T61 l1 x34_2).f1) : Int) := dcd
                  have q437 : ((rd_T61 l1 x34_2).f1) < (l2.length : Int) := dcd
                  obtain ⟨ad437, e437, hx437_0, hx437_1, hx437_2, hx437_3, hx437_4, hx437_5, hx437_6⟩ := at_T66 HR2.out ((rd_T61 l1 x34_2).f1) p437 q437
                  have hw437_6 := hx437_6
                  have hw437_5 := hx437_5
                  have hw437_4 := hx437_4
                  have hw437_3 := hx437_3
                  have hw437_2 := hx437_2
                  have hw437_1 := hx437_1
                  have hw437_0 := hx437_0
                  cases e437
                  replace hx437_0 := crd HB hx437_0
                  replace hx437_1 := crd HB hx437_1
                  replace hx437_2 := crd HB hx437_2
                  replace hx437_3 := crd HB hx437_3
                  replace hx437_4 := crd HB hx437_4
                  replace hx437_5 := crd HB hx437_5
                  replace hx437_6 := crd HB hx437_6
                  replace p437 := eq_true p437
                  replace q437 := eq_true q437
                  refine start_ (n := 20) (S := fun w' => w'.cell? ⟨gb436, 0, none⟩ = some (.int .i64 t432) ∧ w'.cell? ⟨gb436, 1, none⟩ = some (.int .i64 t433) ∧ w'.cell? ⟨gb436, 2, none⟩ = some (.int .i64 t434) ∧ w'.cell? ⟨gb399, 0, none⟩ = some (.int .i64 ((rd_T61 l1 x34_2).f0)) ∧ w'.cell? ⟨gb399, 1, none⟩ = some (.int .i64 ((rd_T61 l1 x34_2).f1)) ∧ w'.cell? ⟨gb399, 2, none⟩ = some (.int .i64 ((rd_T61 l1 x34_2).f2.f0)) ∧ w'.cell? ⟨gb399, 3, none⟩ = some (.string ((rd_T61 l1 x34_2).f2.f1)) ∧ w'.cell? ⟨gb399, 4, none⟩ = some (.int .i64 ((rd_T61 l1 x34_2).f3)) ∧ w'.cell? ⟨gb399, 5, none⟩ = some (.int .i64 ((rd_T61 l1 x34_2).f4)) ∧ w'.cell? (ad437.add ((((rd_T61 l1 x34_2).f1)).toNat * 7)) = some (.bool ((rd_T66 l2 ((rd_T61 l1 x34_2).f1)).f0)) ∧ w'.cell? ⟨(ad437.add ((((rd_T61 l1 x34_2).f1)).toNat * 7)).block, (ad437.add ((((rd_T61 l1 x34_2).f1)).toNat * 7)).off + 1, none⟩ = some (.int .i64 ((rd_T66 l2 ((rd_T61 l1 x34_2).f1)).f1.f0)) ∧ w'.cell? ⟨(ad437.add ((((rd_T61 l1 x34_2).f1)).toNat * 7)).block, (ad437.add ((((rd_T61 l1 x34_2).f1)).toNat * 7)).off + 2, none⟩ = some (.bool ((rd_T66 l2 ((rd_T61 l1 x34_2).f1)).f1.f1)) ∧ w'.cell? ⟨(ad437.add ((((rd_T61 l1 x34_2).f1)).toNat * 7)).block, (ad437.add ((((rd_T61 l1 x34_2).f1)).toNat * 7)).off + 3, none⟩ = some (.int .i64 ((rd_T66 l2 ((rd_T61 l1 x34_2).f1)).f1.f2.f0)) ∧ w'.cell? ⟨(ad437.add ((((rd_T61 l1 x34_2).f1)).toNat * 7)).block, (ad437.add ((((rd_T61 l1 x34_2).f1)).toNat * 7)).off + 4, none⟩ = some (.string ((rd_T66 l2 ((rd_T61 l1 x34_2).f1)).f1.f2.f1)) ∧ w'.cell? ⟨(ad437.add ((((rd_T61 l1 x34_2).f1)).toNat * 7)).block, (ad437.add ((((rd_T61 l1 x34_2).f1)).toNat * 7)).off + 5, none⟩ = some (.int .i64 ((rd_T66 l2 ((rd_T61 l1 x34_2).f1)).f1.f3.f0)) ∧ w'.cell? ⟨(ad437.add ((((rd_T61 l1 x34_2).f1)).toNat * 7)).block, (ad437.add ((((rd_T61 l1 x34_2).f1)).toNat * 7)).off + 6, none⟩ = some (.string ((rd_T66 l2 ((rd_T61 l1 x34_2).f1)).f1.f3.f1))) (ds := [17, 19]) #[false, false, false, false, false, false, false, false, false, false, false, false, false, false, false, false, false, false, false, false] (by kernel_rfl) rfl rfl ⟨(blk_cell BK436.out 0).trans rfl, (blk_cell BK436.out 1).trans rfl, (blk_cell BK436.out 2).trans rfl, (blk_cell BK399.out 0).trans rfl, (blk_cell BK399.out 1).trans rfl, (blk_cell BK399.out 2).trans rfl, (blk_cell BK399.out 3).trans rfl, (blk_cell BK399.out 4).trans rfl, (blk_cell BK399.out 5).trans rfl, ((HB.out.cell (World.block_lt_of_cell? w _ hw437_0)).trans hw437_0), ((HB.out.cell (World.block_lt_of_cell? w _ hw437_1)).trans hw437_1), ((HB.out.cell (World.block_lt_of_cell? w _ hw437_2)).trans hw437_2), ((HB.out.cell (World.block_lt_of_cell? w _ hw437_3)).trans hw437_3), ((HB.out.cell (World.block_lt_of_cell? w _ hw437_4)).trans hw437_4), ((HB.out.cell (World.block_lt_of_cell? w _ hw437_5)).trans hw437_5), ((HB.out.cell (World.block_lt_of_cell? w _ hw437_6)).trans hw437_6)⟩ (fun hHeld => ?_); refine with_tabW impl_PredMay.tab10 impl_PredMay.bits10 (fun HT_ HW_ => ?_)
                  generalize w180.drew = w181 at HO_8 HO_9 BK399 BK436 HB hx437_0 hx437_1 hx437_2 hx437_3 hx437_4 hx437_5 hx437_6 hHeld ⊢
                  refine pu_ 0 49 ?_; refine pu_ 1 50 ?_; refine pu_ 2 51 ?_; refine pu_ 3 52 ?_; refine pu_ 4 53 ?_; refine pu_ 7 56 ?_; refine pu_ 8 57 ?_; refine tk_ 5 54 hHeld ?_; refine tk_ 6 55 hHeld ?_; refine tk_ 9 58 hHeld ?_; refine pu_ 10 59 ?_; refine tk_ 11 60 hHeld ?_
                  refine on_ 12 61 (fun K hK => ?_)
                  refine gs_ Try.func27 #[.int .i64 t432, .agg #[.int .i64 ((rd_T61 l1 x34_2).f0), .int .i64 ((rd_T61 l1 x34_2).f1), .int .i64 ((rd_T61 l1 x34_2).f2.f0), .string ((rd_T61 l1 x34_2).f2.f1), .int .i64 ((rd_T61 l1 x34_2).f3), .int .i64 ((rd_T61 l1 x34_2).f4)], .agg #[.bool ((rd_T66 l2 ((rd_T61 l1 x34_2).f1)).f0), .int .i64 ((rd_T66 l2 ((rd_T61 l1 x34_2).f1)).f1.f0), .bool ((rd_T66 l2 ((rd_T61 l1 x34_2).f1)).f1.f1), .int .i64 ((rd_T66 l2 ((rd_T61 l1 x34_2).f1)).f1.f2.f0), .string ((rd_T66 l2 ((rd_T61 l1 x34_2).f1)).f1.f2.f1), .int .i64 ((rd_T66 l2 ((rd_T61 l1 x34_2).f1)).f1.f3.f0), .string ((rd_T66 l2 ((rd_T61 l1 x34_2).f1)).f1.f3.f1)]] rfl ?_
                  with_reducible refine (impl_may.calls k2 t432 ((rd_T61 l1 x34_2).f0) ((rd_T61 l1 x34_2).f1) ((rd_T61 l1 x34_2).f2.f0) ((rd_T61 l1 x34_2).f2.f1) ((rd_T61 l1 x34_2).f3) ((rd_T61 l1 x34_2).f4) ((rd_T66 l2 ((rd_T61 l1 x34_2).f1)).f0) ((rd_T66 l2 ((rd_T61 l1 x34_2).f1)).f1.f0) ((rd_T66 l2 ((rd_T61 l1 x34_2).f1)).f1.f1) ((rd_T66 l2 ((rd_T61 l1 x34_2).f1)).f1.f2.f0) ((rd_T66 l2 ((rd_T61 l1 x34_2).f1)).f1.f2.f1) ((rd_T66 l2 ((rd_T61 l1 x34_2).f1)).f1.f3.f0) ((rd_T66 l2 ((rd_T61 l1 x34_2).f1)).f1.f3.f1) t438 t439 _ A169.out).mono ?_
                  rintro e w182 ⟨rfl, hb⟩
                  refine ⟨_, rfl, ?_⟩
                  have n0_ := Aside0.mk (Kd.R_below (R_later HO_8.out) hb)
                  have n1_ := Aside0.mk (Kd.R_below (R_later HO_9.out) hb)
                  have n2_ := bkb BK399 hb
                  have n3_ := bkb BK436 hb
                  have n4_ := bst HB hb
                  clear HO_8
                  clear HO_9
                  clear BK399
                  clear BK436
                  clear HB
                  have HO_8 := n0_
                  have HO_9 := n1_
                  have BK399 := n2_
                  have BK436 := n3_
                  have HB := n4_
                  clear n0_ n1_ n2_ n3_ n4_
                  (try clear hb)
                  (try clear hb2)
                  (try clear hk)
                  (try clear hi)
                  have p171 : 0 ≤ (x34_2 : Int) := dcd
                  have q171 : (x34_2 : Int) < ((x8_2.length : Int) : Int) := dcd
                  obtain ⟨go171, co171, eo171, gb171, gl171, cl171, HG171⟩ := Kd.R_form HO_8.out (by omega)
                  (first | cases eo171 | (injection eo171 with ea_ en_ ec_; (first | subst ea_ | (injection ea_ with ea_; subst ea_)); subst ec_; clear en_))
                  have GB171 := Aside0.mk gb171
                  have GG171 := Aside0.mk HG171
                  clear gb171 gl171 HG171
                  obtain ⟨hx171_0, hf171_0⟩ := Kd.R_celln false HO_8.out (x34_2 : Int) p171 q171
                  replace p171 := eq_true p171
                  replace q171 := eq_true q171
                  have HP183 := Kd.R_putn HO_8.out (x34_2 : Int) t438
                  rw [← Ny440.out] at HP183
                  have HQ183 := Aside0.mk HP183
                  clear HP183
                  have p173 : 0 ≤ (x34_2 : Int) := dcd
                  have q173 : (x34_2 : Int) < ((x9_2.length : Int) : Int) := dcd
                  obtain ⟨go173, co173, eo173, gb173, gl173, cl173, HG173⟩ := Kd.R_form HO_9.out (by omega)
                  (first | cases eo173 | (injection eo173 with ea_ en_ ec_; (first | subst ea_ | (injection ea_ with ea_; subst ea_)); subst ec_; clear en_))
                  have GB173 := Aside0.mk gb173
                  have GG173 := Aside0.mk HG173
                  clear gb173 gl173 HG173
                  obtain ⟨hx173_0, hf173_0⟩ := Kd.R_celln false (Kd.R_far (p := ⟨go171, (x34_2 : Int).toNat, none⟩) (Kd.R_mono HO_9.out (fun k_ hk => (⟨hk, fun e_ => hk (by rw [e_]; rfl)⟩ : _ ∧ k_ ≠ go171))) (fun _ hk => hk.2) (.bool t438)) (x34_2 : Int) p173 q173
                  replace p173 := eq_true p173
                  replace q173 := eq_true q173
                  have HP184 := Kd.R_putn (Kd.R_far (p := ⟨go171, (x34_2 : Int).toNat, none⟩) (Kd.R_mono HO_9.out (fun k_ hk => (⟨hk, fun e_ => hk (by rw [e_]; rfl)⟩ : _ ∧ k_ ≠ go171))) (fun _ hk => hk.2) (.bool t438)) (x34_2 : Int) t439
                  rw [← Ny441.out] at HP184
                  have HQ184 := Aside0.mk HP184
                  clear HP184
                  refine hK.out _ _ ⟨(blk_cell BK436.out 0).trans rfl, (blk_cell BK436.out 1).trans rfl, (blk_cell BK436.out 2).trans rfl, (blk_cell BK399.out 0).trans rfl, (blk_cell BK399.out 1).trans rfl, (blk_cell BK399.out 2).trans rfl, (blk_cell BK399.out 3).trans rfl, (blk_cell BK399.out 4).trans rfl, (blk_cell BK399.out 5).trans rfl, ((HB.out.cell (World.block_lt_of_cell? w _ hw437_0)).trans hw437_0), ((HB.out.cell (World.block_lt_of_cell? w _ hw437_1)).trans hw437_1), ((HB.out.cell (World.block_lt_of_cell? w _ hw437_2)).trans hw437_2), ((HB.out.cell (World.block_lt_of_cell? w _ hw437_3)).trans hw437_3), ((HB.out.cell (World.block_lt_of_cell? w _ hw437_4)).trans hw437_4), ((HB.out.cell (World.block_lt_of_cell? w _ hw437_5)).trans hw437_5), ((HB.out.cell (World.block_lt_of_cell? w _ hw437_6)).trans hw437_6)⟩ (fun hHeld => ?_)
                  clear hK K
                  refine no_ (some 61) ?_; refine pu_ 13 48 ?_; refine pu_ 14 62 ?_; refine pu_ 15 63 ?_; refine pu_ 16 64 ?_
                  refine last_ (i := 17) (N := none) #[true, true, true, true, true, true, true, true, true, true, true, true, true, true, true, true, true, true, false, false] rfl rfl (one_of HT_.out (by kernel_rfl)) (by decide) (fun K hK => ?_)
                  refine skip_ (w1 := ?_) (by rfl) rfl ?_ ?_
                  rotate_left
                  ·
                   go_simp
                   rfl
                  refine hK.out _ _ ?_
                  clear hK K
                  refine pu_ 18 65 ?_
                  refine last_ (i := 19) (N := none) #[true, true, true, true, true, true, true, true, true, true, true, true, true, true, true, true, true, true, true, true] rfl rfl (one_of HT_.out (by kernel_rfl)) (by decide) (fun K hK => ?_)
                  refine skip_ (w1 := ?_) (by rfl) rfl ?_ ?_
                  rotate_left
                  ·
                   go_simp
                   rfl
                  refine hK.out _ _ ?_
                  clear hK K
                  refine done_ (done_of HT_.out (by kernel_rfl)) ?_
                  try go_wp2
                  go_roundg k2
                  case measure => have := HJ3.out; have := HK2.out; omega
                  case rel => exact ⟨(y440), (y441), (wrap64 (x34_2 + 1)), sr, H', ⟨by have := HJ3.out; have := HK2.out; omega⟩, ⟨R_later (Kd.R_mono (Kd.R_far (p := ⟨go173, (x34_2 : Int).toNat, none⟩) (Kd.R_mono HQ183.out (fun k_ hk => (⟨hk, fun e_ => hk (by rw [e_]; rfl)⟩ : _ ∧ k_ ≠ go173))) (fun _ hk => hk.2) (.bool t439)) (fun _ hk => hk.1))⟩, ⟨R_later (Kd.R_mono HQ184.out (fun _ hk => hk.1))⟩, ⟨by repeat (first | (with_reducible first | exact HB.out | apply below_alloc | apply pw_below_drewN | apply below_drew1 | refine below_set ?_ GB171.out | refine below_set ?_ GB173.out | refine below_set ?_ GE399.out | refine below_set ?_ GE436.out) | exact HB.out)⟩⟩
                 ·
                  rw [if_neg c172] at H
                  exact absurd H (by simp)
                ·
                 rw [if_neg c170] at H
                 exact absurd H (by simp)
               ·
                rw [if_neg c168] at H
                exact absurd H (by simp)
              ·
               rw [if_neg c167] at H
               exact absurd H (by simp)
          ·
           rw [if_neg c21] at H
           exact absurd H (by simp)
         ·
          rw [if_neg c20] at H
          exact absurd H (by simp)
        ·
         rw [if_neg c19] at H
         have c19b0 := decide_eq_false c19
         clear c19
         obtain ⟨ji185, hji185⟩ : ∃ j_ : Int, (wrap64 ((l1.length : Int) - 1)) = j_ := ⟨_, rfl⟩
         replace H : (if 0 ≤ (ji185) then (if (ji185) < (x8_2.length : Int) then (if (ji185) < (x9_2.length : Int) then (some (rdOf false x8_2 (ji185), rdOf false x9_2 (ji185))) else (none)) else (none)) else (none)) = some (r1, r2) := by first | (rw [hji185] at H; exact H) | (simp only [hji185] at H ⊢; exact H)
         have hji185w : (IntKind.i64.wrap ((l1.length : Int) - 1)) = ji185 := (i64_w _).trans hji185
         by_cases c186 : 0 ≤ (ji185)
         ·
          rw [if_pos c186] at H
          have c186b0 := decide_eq_true c186
          clear c186
          by_cases c187 : (ji185) < (x8_2.length : Int)
          ·
           rw [if_pos c187] at H
           have c187b0 := decide_eq_true c187
           clear c187
           by_cases c188 : (ji185) < (x9_2.length : Int)
           ·
            rw [if_pos c188] at H
            have c188b0 := decide_eq_true c188
            clear c188
            simp only [Option.some.injEq, Prod.mk.injEq] at H
            obtain ⟨rfl, rfl⟩ := H
            try go_wp2
            have n0_ := Aside0.mk (Kd.R_drew HO_8.out)
            have n1_ := Aside0.mk (Kd.R_drew HO_9.out)
            have n2_ := Aside0.mk (below_drew1 HB.out)
            clear HO_8
            clear HO_9
            clear HB
            have HO_8 := n0_
            have HO_9 := n1_
            have HB := n2_
            clear n0_ n1_ n2_
            obtain ⟨Ao190, co190, eo190⟩ := Kd.R_slice HO_8.out
            (first | subst eo190 | (injection eo190 with f1_ f2_ f3_; have f4_ := f1_.symm; have f5_ := f3_.symm; clear f1_ f2_ f3_; subst f4_; subst f5_))
            have p396 : 0 ≤ ((ji185) : Int) := dcd
            have q396 : (ji185) < (x8_2.length : Int) := dcd
            obtain ⟨ad396, e396, hx396_0⟩ := Kd.at_bool (Kd.R_reads' HO_8.out).2.2 (ji185) p396 q396
            cases e396
            replace p396 := eq_true p396
            replace q396 := eq_true q396
            obtain ⟨Ao191, co191, eo191⟩ := Kd.R_slice HO_9.out
            (first | subst eo191 | (injection eo191 with f1_ f2_ f3_; have f4_ := f1_.symm; have f5_ := f3_.symm; clear f1_ f2_ f3_; subst f4_; subst f5_))
            have p397 : 0 ≤ ((ji185) : Int) := dcd
            have q397 : (ji185) < (x9_2.length : Int) := dcd
            obtain ⟨ad397, e397, hx397_0⟩ := Kd.at_bool (Kd.R_reads' HO_9.out).2.2 (ji185) p397 q397
            cases e397
            replace p397 := eq_true p397
            replace q397 := eq_true q397
            refine start_ (n := 14) (S := fun w' => w'.cell? (ad396.add ((ji185)).toNat) = some (.bool (rdOf false x8_2 (ji185))) ∧ w'.cell? (ad397.add ((ji185)).toNat) = some (.bool (rdOf false x9_2 (ji185)))) (ds := []) #[false, false, false, false, false, false, false, false, false, false, false, false, false, false] (by kernel_rfl) rfl rfl ⟨hx396_0, hx397_0⟩ (fun hHeld => ?_); refine with_tabW impl_PredMay.tab18 impl_PredMay.bits18 (fun HT_ HW_ => ?_)
            generalize wr.drew = w189 at HO_8 HO_9 HB hx396_0 hx397_0 hHeld ⊢
            refine pu_ 0 149 ?_; refine pu_ 1 150 ?_; refine pu_ 2 151 ?_; refine pu_ 3 152 ?_; refine pu_ 4 153 ?_; refine pu_ 6 155 ?_; refine pu_ 7 156 ?_; refine pu_ 8 157 ?_; refine pu_ 9 158 ?_; refine pu_ 10 159 ?_; refine tk_ 5 154 hHeld ?_; refine pu_ 12 6 ?_; refine tk_ 11 160 hHeld ?_; refine pu_ 13 7 ?_
            refine done_ (done_of HT_.out (by kernel_rfl)) ?_
            try go_wp2
            go_ret2
            exact ⟨by first | rfl | (simp [errW_none, errW_some] <;> rfl) | (simp only [← hji185]; first | rfl | (simp [errW_none, errW_some] <;> rfl)) | (simp [*, errW_none, errW_some] <;> rfl), below_later HB.out⟩
           ·
            rw [if_neg c188] at H
            exact absurd H (by simp)
          ·
           rw [if_neg c187] at H
           exact absurd H (by simp)
         ·
          rw [if_neg c186] at H
          exact absurd H (by simp)
     ·
      rw [if_neg c14] at H
      exact absurd H (by simp)
    ·
     rw [if_neg c13] at H
     exact absurd H (by simp)

end Go.Proofs.Ytlioghbcomdghaa.PFnExactPredMay
