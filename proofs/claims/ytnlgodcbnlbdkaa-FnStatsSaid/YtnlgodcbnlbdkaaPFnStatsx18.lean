/- The machine's side of FnStats: each Go function, and what its call comes to. No condition. -/
import Derived.Test.YtnlgodcbnlbdkaaPFnStatsx0
import Derived.Test.YtnlgodcbnlbdkaaPFnStatsx10
import Derived.Test.YtnlgodcbnlbdkaaPFnStatsx13
import Derived.Test.YtnlgodcbnlbdkaaPFnStatsx17
namespace Go.Proofs.Ytnlgodcbnlbdkaa.PFnStats
open Go.RowKit Go.Proofs.YtnlgodcbnlbdkaaW.PrintWords Go.Proofs.YtnlgodcbnlbdkaaW.PrintLast Go.Proofs.YtnlgodcbnlbdkaaW.PrintMore Go.Proofs.YtnlgodcbnlbdkaaW.PrintMore2
attribute [local go_sem] max2_int min2_int max_two min_two max_three min_three max_four min_four
set_option linter.unusedVariables false
set_option linter.unusedSimpArgs false
set_option maxHeartbeats 8000000
set_option maxRecDepth 100000

/-! ### impl_plainOne: function 79 -/
theorem impl_plainOne.cutC {w : World} {A : Option Addr} {l : List Int} {i j : Int} (h : j ≤ (l.length : Int)) (hC : (Kd.int .u8).C w A ((l.take j.toNat).drop i.toNat).length ((l.take j.toNat).drop i.toNat)) : (Kd.int .u8).C w A (j.toNat - i.toNat) ((l.take j.toNat).drop i.toNat) := by
 rw [List.length_drop, List.length_take, Nat.min_eq_left (Int.toNat_le.mpr h)] at hC
 exact hC
def impl_plainOne.f (k : Nat) (a0 : Int) (l1 : List Int) (a2 : Int) : Option (Int × ByteArray × Int × Bool) := if a0 = 6 then ((impl_WordGet.f k l1 a2 4).bind fun bt748 => (if bt748.2.2 = true then (if bt748.1 > 40 then (some (0, (⟨#[]⟩ : ByteArray), 0, false)) else (if bt748.1 > (wrap64 ((l1.length : Int) - bt748.2.1)) then (some (0, (⟨#[]⟩ : ByteArray), 0, false)) else (if 0 ≤ bt748.2.1 then (if bt748.2.1 ≤ (wrap64 (bt748.2.1 + bt748.1)) then (if (wrap64 (bt748.2.1 + bt748.1)) ≤ (l1.length : Int) then (some (0, strOfNums ((l1.take ((wrap64 (bt748.2.1 + bt748.1)) : Int).toNat).drop (bt748.2.1 : Int).toNat), wrap64 (bt748.2.1 + bt748.1), true)) else (none)) else (none)) else (none)))) else (some (0, (⟨#[]⟩ : ByteArray), 0, false)))) else ((impl_wideOf.f a0).bind fun t752 => ((impl_WordGet.f k l1 a2 t752).bind fun bt753 => ((impl_wideOf.f a0).bind fun t756 => ((impl_signed.f bt753.1 t756).bind fun t757 => (some (t757, (⟨#[]⟩ : ByteArray), bt753.2.1, bt753.2.2))))))
theorem impl_plainOne.calls {k : Nat} {a0 : Int} {A1 : Option Addr} {c1 : Nat} {l1 : List Int} {a2 r1 : Int} {r2 : ByteArray} {r3 : Int} {r4 : Bool} {w : World} (hr1 : Kd.C (Kd.int .u8) w A1 l1.length l1) (hc1 : l1.length ≤ c1) (h : impl_plainOne.f k a0 l1 a2 = some (r1, r2, r3, r4)) :
    Calls Try.prog 79 #[.int .i64 a0, .slice A1 l1.length c1, .int .i64 a2] w fun e w' => e = .returned (.tuple #[.agg #[.int .i64 r1, .string r2], .int .i64 r3, .bool r4]) ∧ Below w.heap.size w w' := by
 have hu30 := Try.underlying30
 have HR1 := am hr1
 have HC1 := am hc1
 clear hr1 hc1
 have HB := am (Below.refl w.heap.size w)
 have H := h; clear h; unfold impl_plainOne.f at H
 replace H := ieq H; obtain ⟨c4b0, c4b1, H⟩ | ⟨c4, c4b0, c4b1, H⟩ := H
 rotate_left
 · replace H := bnd H; obtain ⟨t752, A22, H⟩ := H
   replace H := bnd3 H; obtain ⟨t753, t754, t755, A23, H⟩ := H; dsimp only at H
   replace H := bnd H; obtain ⟨t756, A24, H⟩ := H
   replace H := bnd H; obtain ⟨t757, A25, H⟩ := H
   replace H := sj4 H; obtain ⟨rfl, rfl, rfl, rfl⟩ := H
   go_enter Try.func79, Try.ntmps79
   go_wp2_with (first | ((with_reducible refine gd 6 rfl ?_); (try refine gg ?_; dsimp only); refine bxw 6 rfl #[.int .i64 0, .string ⟨#[]⟩] 30 HB ?_; clear HB; intro gb747 w26 BK747 GW747 GE747 HB) | ((with_reducible refine gc 75 rfl ?_); refine gc1 (some 21) Try.func75 rfl (impl_wideOf.calls A22.out) ?_; rintro w' ⟨nd, rfl⟩; (try (rw [drewN_self w26]; generalize hq_ : World.drewN w26 _ = w26; have n0_ : Aside0 (w26.heap[gb747]? = some (.cells #[.int .i64 0, .string ⟨#[]⟩] 30 (0, 0))) := ⟨by rw [← hq_]; exact (blk_later BK747.out)⟩; have n1_ : Aside0 (Below w.heap.size w w26) := ⟨by rw [← hq_]; exact (bL HB)⟩; clear BK747 HB hq_; have BK747 := n0_; have HB := n1_; clear n0_ n1_))) | ((with_reducible refine gc 87 rfl ?_); refine gl_ (some 22) Try.func87 #[.slice A1 l1.length c1, .int .i64 a2, .int .i64 t752] rfl ?_; (with_reducible refine (impl_WordGet.calls ?side1 ?side2 A23.out).mono ?_); (case side1 => repeat (first | exact (Kd.C_below HR1.out HB.out) | (with_reducible refine Kd.C_alloc ?_ _) | (with_reducible refine Kd.C_drewN ?_ _) | (with_reducible refine Kd.C_drew ?_))); (case side2 => exact HC1.out); rintro e w' ⟨rfl, ⟨nd, rfl⟩⟩; refine ⟨_, rfl, ?_⟩; (try (rw [drewN_self w26]; generalize hq_ : World.drewN w26 _ = w26; have n0_ : Aside0 (w26.heap[gb747]? = some (.cells #[.int .i64 0, .string ⟨#[]⟩] 30 (0, 0))) := ⟨by rw [← hq_]; exact (blk_later BK747.out)⟩; have n1_ : Aside0 (Below w.heap.size w w26) := ⟨by rw [← hq_]; exact (bL HB)⟩; clear BK747 HB hq_; have BK747 := n0_; have HB := n1_; clear n0_ n1_))) | ((with_reducible refine gc 75 rfl ?_); refine gc1 (some 28) Try.func75 rfl (impl_wideOf.calls A24.out) ?_; rintro w' ⟨nd, rfl⟩; (try (rw [drewN_self w26]; generalize hq_ : World.drewN w26 _ = w26; have n0_ : Aside0 (w26.heap[gb747]? = some (.cells #[.int .i64 0, .string ⟨#[]⟩] 30 (0, 0))) := ⟨by rw [← hq_]; exact (blk_later BK747.out)⟩; have n1_ : Aside0 (Below w.heap.size w w26) := ⟨by rw [← hq_]; exact (bL HB)⟩; clear BK747 HB hq_; have BK747 := n0_; have HB := n1_; clear n0_ n1_))) | ((with_reducible refine gc 88 rfl ?_); refine gc1 (some 29) Try.func88 rfl (impl_signed.calls A25.out) ?_; rintro w' ⟨nd, rfl⟩; (try (rw [drewN_self w26]; generalize hq_ : World.drewN w26 _ = w26; have n0_ : Aside0 (w26.heap[gb747]? = some (.cells #[.int .i64 0, .string ⟨#[]⟩] 30 (0, 0))) := ⟨by rw [← hq_]; exact (blk_later BK747.out)⟩; have n1_ : Aside0 (Below w.heap.size w w26) := ⟨by rw [← hq_]; exact (bL HB)⟩; clear BK747 HB hq_; have BK747 := n0_; have HB := n1_; clear n0_ n1_)); obtain ⟨_, _, _, _⟩ := cl2 BK747))
   refine bodyPost_ret (results_ctt rfl _ _ gb747 30 #[.int .i64 t757, .string ⟨#[]⟩] (0, 0) _ rfl (kL BK747) Try.underlying30 rfl (by kernel_rfl)) rfl ?_
   exact fin_ (bL HB)
 replace H := bnd3 H; obtain ⟨t748, t749, t750, A5, H⟩ := H; dsimp only at H
 replace H := ibt H; obtain ⟨rfl, H⟩ | ⟨rfl, H⟩ := H
 rotate_left
 · replace H := sj4 H; obtain ⟨rfl, rfl, rfl, rfl⟩ := H
   go_enter Try.func79, Try.ntmps79
   go_wp2_with (first | ((with_reducible refine gd 6 rfl ?_); (try refine gg ?_; dsimp only); refine bxw 6 rfl #[.int .i64 0, .string ⟨#[]⟩] 30 HB ?_; clear HB; intro gb747 w20 BK747 GW747 GE747 HB) | ((with_reducible refine gc 87 rfl ?_); refine gl_ (some 36) Try.func87 #[.slice A1 l1.length c1, .int .i64 a2, .int .i64 4] rfl ?_; (with_reducible refine (impl_WordGet.calls ?side1 ?side2 A5.out).mono ?_); (case side1 => repeat (first | exact (Kd.C_below HR1.out HB.out) | (with_reducible refine Kd.C_alloc ?_ _) | (with_reducible refine Kd.C_drewN ?_ _) | (with_reducible refine Kd.C_drew ?_))); (case side2 => exact HC1.out); rintro e w' ⟨rfl, ⟨nd, rfl⟩⟩; refine ⟨_, rfl, ?_⟩; (try (rw [drewN_self w20]; generalize hq_ : World.drewN w20 _ = w20; have n0_ : Aside0 (w20.heap[gb747]? = some (.cells #[.int .i64 0, .string ⟨#[]⟩] 30 (0, 0))) := ⟨by rw [← hq_]; exact (blk_later BK747.out)⟩; have n1_ : Aside0 (Below w.heap.size w w20) := ⟨by rw [← hq_]; exact (bL HB)⟩; clear BK747 HB hq_; have BK747 := n0_; have HB := n1_; clear n0_ n1_)); obtain ⟨_, _, _, _⟩ := cl2 BK747))
   refine bodyPost_ret (results_ctt rfl _ _ gb747 30 #[.int .i64 0, .string ⟨#[]⟩] (0, 0) _ rfl (kL BK747) Try.underlying30 rfl (by kernel_rfl)) rfl ?_
   exact fin_ (bL HB)
 replace H := igt H; obtain ⟨c7b0, H⟩ | ⟨c7b0, H⟩ := H
 · replace H := sj4 H; obtain ⟨rfl, rfl, rfl, rfl⟩ := H
   go_enter Try.func79, Try.ntmps79
   go_wp2_with (first | ((with_reducible refine gd 6 rfl ?_); (try refine gg ?_; dsimp only); refine bxw 6 rfl #[.int .i64 0, .string ⟨#[]⟩] 30 HB ?_; clear HB; intro gb747 w8 BK747 GW747 GE747 HB) | ((with_reducible refine gc 87 rfl ?_); refine gl_ (some 36) Try.func87 #[.slice A1 l1.length c1, .int .i64 a2, .int .i64 4] rfl ?_; (with_reducible refine (impl_WordGet.calls ?side1 ?side2 A5.out).mono ?_); (case side1 => repeat (first | exact (Kd.C_below HR1.out HB.out) | (with_reducible refine Kd.C_alloc ?_ _) | (with_reducible refine Kd.C_drewN ?_ _) | (with_reducible refine Kd.C_drew ?_))); (case side2 => exact HC1.out); rintro e w' ⟨rfl, ⟨nd, rfl⟩⟩; refine ⟨_, rfl, ?_⟩; (try (rw [drewN_self w8]; generalize hq_ : World.drewN w8 _ = w8; have n0_ : Aside0 (w8.heap[gb747]? = some (.cells #[.int .i64 0, .string ⟨#[]⟩] 30 (0, 0))) := ⟨by rw [← hq_]; exact (blk_later BK747.out)⟩; have n1_ : Aside0 (Below w.heap.size w w8) := ⟨by rw [← hq_]; exact (bL HB)⟩; clear BK747 HB hq_; have BK747 := n0_; have HB := n1_; clear n0_ n1_)); obtain ⟨_, _, _, _⟩ := cl2 BK747))
   refine bodyPost_ret (results_ctt rfl _ _ gb747 30 #[.int .i64 0, .string ⟨#[]⟩] (0, 0) _ rfl (kL BK747) Try.underlying30 rfl (by kernel_rfl)) rfl ?_
   exact fin_ (bL HB)
 replace H := igt H; obtain ⟨c10b0, H⟩ | ⟨c10b0, H⟩ := H
 · replace H := sj4 H; obtain ⟨rfl, rfl, rfl, rfl⟩ := H
   go_enter Try.func79, Try.ntmps79
   go_wp2_with (first | ((with_reducible refine gd 6 rfl ?_); (try refine gg ?_; dsimp only); refine bxw 6 rfl #[.int .i64 0, .string ⟨#[]⟩] 30 HB ?_; clear HB; intro gb747 w11 BK747 GW747 GE747 HB) | ((with_reducible refine gc 87 rfl ?_); refine gl_ (some 36) Try.func87 #[.slice A1 l1.length c1, .int .i64 a2, .int .i64 4] rfl ?_; (with_reducible refine (impl_WordGet.calls ?side1 ?side2 A5.out).mono ?_); (case side1 => repeat (first | exact (Kd.C_below HR1.out HB.out) | (with_reducible refine Kd.C_alloc ?_ _) | (with_reducible refine Kd.C_drewN ?_ _) | (with_reducible refine Kd.C_drew ?_))); (case side2 => exact HC1.out); rintro e w' ⟨rfl, ⟨nd, rfl⟩⟩; refine ⟨_, rfl, ?_⟩; (try (rw [drewN_self w11]; generalize hq_ : World.drewN w11 _ = w11; have n0_ : Aside0 (w11.heap[gb747]? = some (.cells #[.int .i64 0, .string ⟨#[]⟩] 30 (0, 0))) := ⟨by rw [← hq_]; exact (blk_later BK747.out)⟩; have n1_ : Aside0 (Below w.heap.size w w11) := ⟨by rw [← hq_]; exact (bL HB)⟩; clear BK747 HB hq_; have BK747 := n0_; have HB := n1_; clear n0_ n1_)); obtain ⟨_, _, _, _⟩ := cl2 BK747))
   refine bodyPost_ret (results_ctt rfl _ _ gb747 30 #[.int .i64 0, .string ⟨#[]⟩] (0, 0) _ rfl (kL BK747) Try.underlying30 rfl (by kernel_rfl)) rfl ?_
   exact fin_ (bL HB)
 replace H := ifs H; obtain ⟨c13, H⟩ := H
 have c13b0 := eq_true c13
 have c13b1 := decide_eq_true c13
 clear c13
 replace H := ifs H; obtain ⟨c14, H⟩ := H
 have c14b0 := eq_true c14
 have c14b1 := decide_eq_true c14
 replace H := ifs H; obtain ⟨c15, H⟩ := H
 have c15b0 := eq_true c15
 have c15b1 := decide_eq_true c15
 replace H := sj4 H; obtain ⟨rfl, rfl, rfl, rfl⟩ := H
 go_enter Try.func79, Try.ntmps79
 go_wp2_with (first | ((with_reducible refine gd 6 rfl ?_); (try refine gg ?_; dsimp only); refine bxw 6 rfl #[.int .i64 0, .string ⟨#[]⟩] 30 HB ?_; clear HB; intro gb747 w16 BK747 GW747 GE747 HB) | ((with_reducible refine gc 87 rfl ?_); refine gl_ (some 36) Try.func87 #[.slice A1 l1.length c1, .int .i64 a2, .int .i64 4] rfl ?_; (with_reducible refine (impl_WordGet.calls ?side1 ?side2 A5.out).mono ?_); (case side1 => repeat (first | exact (Kd.C_below HR1.out HB.out) | (with_reducible refine Kd.C_alloc ?_ _) | (with_reducible refine Kd.C_drewN ?_ _) | (with_reducible refine Kd.C_drew ?_))); (case side2 => exact HC1.out); rintro e w' ⟨rfl, ⟨nd, rfl⟩⟩; refine ⟨_, rfl, ?_⟩; (try (rw [drewN_self w16]; generalize hq_ : World.drewN w16 _ = w16; have n0_ : Aside0 (w16.heap[gb747]? = some (.cells #[.int .i64 0, .string ⟨#[]⟩] 30 (0, 0))) := ⟨by rw [← hq_]; exact (blk_later BK747.out)⟩; have n1_ : Aside0 (Below w.heap.size w w16) := ⟨by rw [← hq_]; exact (bL HB)⟩; clear BK747 HB hq_; have BK747 := n0_; have HB := n1_; clear n0_ n1_)); obtain ⟨i017, hi017, _, hsz17, _⟩ := info_parts info5; obtain ⟨A17, hcut17, hA17, hC17⟩ := print_mid_of (P := Try.prog) (Value.int .u8) 0 22 5 .i64 .i64 Try.underlying22 hi017 hsz17 A1 c1 l1 t749 (wrap64 (t749 + t748)) (dcd) (by first | omega | exact dcd) (dcd) HC1.out; have HR751 := am (Kd.C_of_reads (h1 := fun _ => rfl) (hA17 _ (Kd.reads_of_C HR1.out))); have HC751 := am hC17; clear hA17 hC17 hi017 hsz17; have hcv18 := fun nd_ : Nat => Kd.C_string (P := Try.prog) (A := A17) (c := (c1 - t749.toNat)) Try.underlying22 Try.underlying5 Try.underlying9 (impl_plainOne.cutC (dcd) (Kd.C_below HR751.out (pw_below_drewN HB.out nd_))); have hcv18z := Kd.C_string (P := Try.prog) (A := A17) (c := (c1 - t749.toNat)) Try.underlying22 Try.underlying5 Try.underlying9 (impl_plainOne.cutC (dcd) (Kd.C_below HR751.out HB.out)); obtain ⟨_, _, _, _⟩ := cl2 BK747))
 refine bodyPost_ret (results_ctt rfl _ _ gb747 30 #[.int .i64 0, .string (strOfNums ((l1.take ((wrap64 (t749 + t748)) : Int).toNat).drop (t749 : Int).toNat))] (0, 0) _ rfl (kL BK747) Try.underlying30 rfl (by kernel_rfl)) rfl ?_
 exact fin_ (bL HB)
/-! ### impl_PlainRead: function 61 -/
mutual
def impl_PlainRead.j0 : Nat → Int → List Int → Int → Int → Bool → Option ((List (S30)) × Int × Bool)
  | 0, _, _, _, _, _ => none
  | k + 1, x0, x1, x2, x3, x32 => if x32 = true then (some (([] : List (S30)), 0, false)) else (if x0 = 0 then ((impl_BitsRead.f k x1 x2 x3 1).bind fun bt761 => ((impl_valsOf.f k bt761.1).bind fun t766 => (some (t766, bt761.2.1, bt761.2.2)))) else (impl_PlainRead.l0 k x0 x1 x2 (([] : List (S30))) x3 0))
def impl_PlainRead.l0 : Nat → Int → List Int → Int → List (S30) → Int → Int → Option ((List (S30)) × Int × Bool)
  | 0, _, _, _, _, _, _ => none
  | k + 1, x0, x1, x2, x14, x48, x49 => if x49 < x48 then ((impl_plainOne.f k x0 x1 x2).bind fun bt772 => (if bt772.2.2.2 = true then (if x14.length < 5864062014805 then (impl_PlainRead.l0 k x0 x1 bt772.2.2.1 (x14 ++ [(⟨bt772.1, bt772.2.1⟩ : S30)]) x48 (wrap64 (x49 + 1))) else (none)) else (some (([] : List (S30)), 0, false)))) else (some (x14, x2, true))
end
def impl_PlainRead.f (k : Nat) (a0 : Int) (l1 : List Int) (a2 : Int) (a3 : Int) : Option ((List (S30)) × Int × Bool) := (impl_TypeOk.f a0).bind fun t758 => (if t758 = true then ((impl_within.f a3 0 2000).bind fun t759 => (if t759 = true then ((impl_within.f a2 0 (l1.length : Int)).bind fun t760 => (impl_PlainRead.j0 k a0 l1 a2 a3 (!t760))) else (impl_PlainRead.j0 k a0 l1 a2 a3 true))) else (impl_PlainRead.j0 k a0 l1 a2 a3 true))
theorem impl_PlainRead.calls {k : Nat} {a0 : Int} {A1 : Option Addr} {c1 : Nat} {l1 : List Int} {a2 a3 : Int} {r1 : List (S30)} {r2 : Int} {r3 : Bool} {w : World} (hr1 : Kd.C (Kd.int .u8) w A1 l1.length l1) (hc1 : l1.length ≤ c1) (h : impl_PlainRead.f k a0 l1 a2 a3 = some (r1, r2, r3)) :
    Calls Try.prog 61 #[.int .i64 a0, .slice A1 l1.length c1, .int .i64 a2, .int .i64 a3] w fun e w' => ∃ v0_ : Value, e = .returned (.tuple #[v0_, .int .i64 r2, .bool r3]) ∧ Kd.R k30 30 w' w.heap.size (fun _ => True) v0_ r1 ∧ Below w.heap.size w w' := by
 have hu30 := Try.underlying30
 have HR1 := am hr1
 have HC1 := am hc1
 clear hr1 hc1
 have HB := am (Below.refl w.heap.size w)
 have H := h; clear h; unfold impl_PlainRead.f at H
 have HC5 := am H
 clear H
 go_enter Try.func61, Try.ntmps61
 go_upto_region 1 with (fail)
 go_cut [32] (fun v32 wc => ∃ (kq : Nat) (x32_4 : Bool), v32 = .bool x32_4 ∧ Aside0 (impl_PlainRead.j0 kq a0 l1 a2 a3 x32_4 = some (r1, r2, r3)) ∧ Aside0 (kq ≤ k) ∧ Aside0 (Below w.heap.size w wc))
 case first =>
  have H := HC5.out
  clear HC5
  replace H := bnd H; obtain ⟨t758, A6, H⟩ := H
  replace H := ibt H; obtain ⟨rfl, H⟩ | ⟨rfl, H⟩ := H
  rotate_left
  · have H' := am H; clear H
    go_wp2_with (first | ((with_reducible refine gc 30 rfl ?_); refine gc1 (some 19) Try.func30 rfl (impl_TypeOk.calls A6.out) ?_; rintro w' ⟨nd, rfl⟩))
    go_meet
    case rel => exact ⟨_, (true), sr, H', ⟨by first | omega | exact Nat.le_refl _⟩, ⟨bL HB⟩⟩
  replace H := bnd H; obtain ⟨t759, A8, H⟩ := H
  replace H := ibt H; obtain ⟨rfl, H⟩ | ⟨rfl, H⟩ := H
  rotate_left
  · have H' := am H; clear H
    go_wp2_with (first | ((with_reducible refine gc 30 rfl ?_); refine gc1 (some 19) Try.func30 rfl (impl_TypeOk.calls A6.out) ?_; rintro w' ⟨nd, rfl⟩) | (go_at_call 31; (with_reducible refine (impl_within.calls A8.out).mono ?_); rintro e w' ⟨rfl, ⟨nd, rfl⟩⟩))
    go_meet
    case rel => exact ⟨_, (true), sr, H', ⟨by first | omega | exact Nat.le_refl _⟩, ⟨bL HB⟩⟩
  replace H := bnd H; obtain ⟨t760, A10, H⟩ := H
  have H' := am H; clear H
  go_wp2_with (first | ((with_reducible refine gc 30 rfl ?_); refine gc1 (some 19) Try.func30 rfl (impl_TypeOk.calls A6.out) ?_; rintro w' ⟨nd, rfl⟩) | (go_at_call 31; (with_reducible refine (impl_within.calls A8.out).mono ?_); rintro e w' ⟨rfl, ⟨nd, rfl⟩⟩) | (go_at_call 31; (with_reducible refine (impl_within.calls A10.out).mono ?_); rintro e w' ⟨rfl, ⟨nd, rfl⟩⟩))
  go_meet
  case rel => exact ⟨_, (!t760), sr, H', ⟨by first | omega | exact Nat.le_refl _⟩, ⟨bL HB⟩⟩
 clear HC5
 try clear c1
 obtain ⟨kq, x32_4, rfl, HA, HJ4, HB⟩ := hcut
 cases kq with
 | zero => exact absurd HA.out (by simp [impl_PlainRead.j0])
 | succ kj4 => ?_
 have H := HA.out
 clear HA
 simp only [impl_PlainRead.j0] at H
 replace H := ibt H; obtain ⟨rfl, H⟩ | ⟨rfl, H⟩ := H
 · replace H := sj3 H; obtain ⟨rfl, rfl, rfl⟩ := H
   go_wp2
   go_ret3
   exact ⟨_, fin_ ⟨by first | exact Kd.R_nil _ _ _ _ _ | exact Kd.N_nil _ _ _ _ _ | exact Kd.V_nil _ _ _ _ _ | exact Kd.Q_nil _ _ _ _ _ | exact Kd.S_nil _ _ _ _ _, bL HB⟩⟩
 replace H := ieq H; obtain ⟨c12b0, c12b1, H⟩ | ⟨c12, c12b0, c12b1, H⟩ := H
 · replace H := bnd3 H; obtain ⟨t761, t762, t763, A13, H⟩ := H; dsimp only at H
   replace H := bnd H; obtain ⟨t766, A14, H⟩ := H
   replace H := sj3 H; obtain ⟨rfl, rfl, rfl⟩ := H
   go_wp2_with (first | ((with_reducible refine gc 77 rfl ?_); refine gl_ (some 39) Try.func77 #[.slice A1 l1.length c1, .int .i64 a2, .int .i64 a3, .int .i64 1] rfl ?_; (with_reducible refine (impl_BitsRead.calls ?side1 ?side2 A13.out).mono ?_); (case side1 => repeat (first | exact (Kd.C_below HR1.out HB.out) | (with_reducible refine Kd.C_alloc ?_ _) | (with_reducible refine Kd.C_drewN ?_ _) | (with_reducible refine Kd.C_drew ?_))); (case side2 => exact HC1.out); rintro e w15 ⟨v764, rfl, ho0, hb⟩; refine ⟨_, rfl, ?_⟩; have HO765 := rlb ho0 HB; replace HB := bst HB hb; clear hb ho0; obtain ⟨Ao16, co16, eo16⟩ := Kd.R_slice HO765.out; subst eo16) | ((with_reducible refine gc 78 rfl ?_); refine gc2 (some 44) Try.func78 rfl (impl_valsOf.calls (C_later (Kd.R_reads' HO765.out).2.2) ((Kd.R_reads' HO765.out).2.1) A14.out) ?_; rintro v767 w17 ⟨ho0, hb⟩; have HO768 := rlb ho0 HB; replace HO765 := rbe HO765 hb; replace HB := bst HB hb; clear hb ho0))
   go_ret3
   exact ⟨_, fin_ ⟨by (with_reducible repeat (first | apply Kd.R_alloc | apply Kd.R_drewN | apply Kd.R_drew)); exact HO768.out, bL HB⟩⟩
 obtain ⟨y769, hy769⟩ : ∃ y_ : List (S30), y_ = (([] : List (S30))) := ⟨_, rfl⟩
 replace H : (impl_PlainRead.l0 kj4 a0 l1 a2 y769 a3 0) = some (r1, r2, r3) := by first | (rw [hy769]; with_reducible exact H) | (rw [hy769]; exact H) | exact H
 have Ny769 := am hy769
 clear hy769
 have H' := am H; clear H
 go_wp2_with (first | ((with_reducible refine gd 47 rfl ?_); (try refine gg ?_; dsimp only); refine Kd.R_lit k30 _ 30 ?hg (N := 47) ?hd (xs := ([] : List (S30))) (inner := []) (ok := fun _ => True) (okp := fun _ => True) ?hr ?hp (fun _ hk => hk) trivial (Below.refl _ _) (Nat.le_refl _) (by simp) ?_; (case hd => rfl); (case hg => rfl); (case hr => first | (go_simp; done) | (go_simp; rfl)); (case hp => exact (Reps.none _ _)); intro v770 w18 ho19 hb hg_ hnew_; clear hg_ hnew_; (first | rw [← Ny769.out] at ho19 | (simp only [Int.reduceToNat] at ho19; rw [← Ny769.out] at ho19)); have HO771 := rlb ho19 HB; replace HB := bst HB hb; clear hb ho19))
 go_loopg [2, 14, 49] kj4 (fun kq v2 v14 v49 w' => ∃ (x2_2 : Int) (x14_2 : List (S30)) (x49_2 : Int), v2 = .int .i64 x2_2 ∧ v49 = .int .i64 x49_2 ∧ Aside0 (impl_PlainRead.l0 kq a0 l1 x2_2 x14_2 a3 x49_2 = some (r1, r2, r3)) ∧ Aside0 (kq ≤ kj4) ∧ Aside0 (Kd.R k30 30 w' w.heap.size (fun _ => True) v14 x14_2) ∧ Aside0 (Below w.heap.size w w'))
 case atStart => exact ⟨(a2), (y769), (0), sr, sr, H', ⟨Nat.le_refl _⟩, ⟨rL HO771⟩, ⟨bL HB⟩⟩
 clear H'
 try clear c1 c11 c12 c12b0 c12b1
 obtain ⟨x2_2, x14_2, x49_2, rfl, rfl, HA, HK2, HO_14, HB⟩ := hrel
 cases gk with
 | zero => exact absurd HA.out (by simp [impl_PlainRead.l0])
 | succ k2 => ?_
 have H := HA.out
 clear HA
 simp only [impl_PlainRead.l0] at H
 replace H := idc H; obtain ⟨c20b0, H⟩ | ⟨c20b0, H⟩ := H
 rotate_left
 · replace H := sj3 H; obtain ⟨rfl, rfl, rfl⟩ := H
   go_wp2
   go_ret3
   exact ⟨_, fin_ ⟨by (with_reducible repeat (first | apply Kd.R_alloc | apply Kd.R_drewN | apply Kd.R_drew)); exact HO_14.out, bL HB⟩⟩
 replace H := bnd4 H; obtain ⟨t772, t773, t774, t775, A21, H⟩ := H; dsimp only at H
 replace H := ibt H; obtain ⟨rfl, H⟩ | ⟨rfl, H⟩ := H
 rotate_left
 · replace H := sj3 H; obtain ⟨rfl, rfl, rfl⟩ := H
   go_wp2_with (first | ((with_reducible refine gc 79 rfl ?_); refine gl_ (some 55) Try.func79 #[.int .i64 a0, .slice A1 l1.length c1, .int .i64 x2_2] rfl ?_; (with_reducible refine (impl_plainOne.calls ?side1 ?side2 A21.out).mono ?_); (case side1 => repeat (first | exact (Kd.C_below HR1.out HB.out) | (with_reducible refine Kd.C_alloc ?_ _) | (with_reducible refine Kd.C_drewN ?_ _) | (with_reducible refine Kd.C_drew ?_))); (case side2 => exact HC1.out); rintro e w28 ⟨rfl, hb⟩; refine ⟨_, rfl, ?_⟩; replace HO_14 := rbe HO_14 hb; replace HB := bst HB hb; clear hb) | ((with_reducible refine gd 15 rfl ?_); (try refine gg ?_; dsimp only); refine bxv 15 rfl #[.int .i64 0, .string ⟨#[]⟩] 30 HB ?_; clear HB; intro gb776 w29 BK776 GW776 GE776 HB hg hb; replace HO_14 := am (Kd.R_below (Kd.R_elderB (rL HO_14) gb776 (Nat.le_of_eq hg.symm)) hb); clear hg hb; obtain ⟨_, _, _, _⟩ := cl2 BK776))
   go_ret3
   exact ⟨_, fin_ ⟨by first | exact Kd.R_nil _ _ _ _ _ | exact Kd.N_nil _ _ _ _ _ | exact Kd.V_nil _ _ _ _ _ | exact Kd.Q_nil _ _ _ _ _ | exact Kd.S_nil _ _ _ _ _, bL HB⟩⟩
 replace H := ifs H; obtain ⟨c23, H⟩ := H
 have LMc23 := am c23
 clear c23
 obtain ⟨y777, hy777⟩ : ∃ y_ : List (S30), y_ = (x14_2 ++ [(⟨t772, t773⟩ : S30)]) := ⟨_, rfl⟩
 replace H : (impl_PlainRead.l0 k2 a0 l1 t774 y777 a3 (wrap64 (x49_2 + 1))) = some (r1, r2, r3) := by first | (rw [hy777]; with_reducible exact H) | (rw [hy777]; exact H) | exact H
 have Ny777 := am hy777
 clear hy777
 have H' := am H; clear H
 go_wp2_with (first | ((with_reducible refine gc 79 rfl ?_); refine gl_ (some 55) Try.func79 #[.int .i64 a0, .slice A1 l1.length c1, .int .i64 x2_2] rfl ?_; (with_reducible refine (impl_plainOne.calls ?side1 ?side2 A21.out).mono ?_); (case side1 => repeat (first | exact (Kd.C_below HR1.out HB.out) | (with_reducible refine Kd.C_alloc ?_ _) | (with_reducible refine Kd.C_drewN ?_ _) | (with_reducible refine Kd.C_drew ?_))); (case side2 => exact HC1.out); rintro e w24 ⟨rfl, hb⟩; refine ⟨_, rfl, ?_⟩; replace HO_14 := rbe HO_14 hb; replace HB := bst HB hb; clear hb) | ((with_reducible refine gd 15 rfl ?_); (try refine gg ?_; dsimp only); refine bxv 15 rfl #[.int .i64 0, .string ⟨#[]⟩] 30 HB ?_; clear HB; intro gb776 w25 BK776 GW776 GE776 HB hg hb; replace HO_14 := am (Kd.R_below (Kd.R_elderB (rL HO_14) gb776 (Nat.le_of_eq hg.symm)) hb); clear hg hb; obtain ⟨_, _, _, _⟩ := cl2 BK776) | ((with_reducible refine gate_builtin (b := .append) (xs := #[.tmp 61, .tmp 63]) rfl ?_); (try refine gg ?_; dsimp only); at_builtin; refine Kd.R_append k30 (w0 := w) w.heap.size rfl (.tmp 61) (.tmp 63) 98 30 (.agg #[(.int .i64 0), (.string ⟨#[]⟩)]) 24 rfl Try.underlying98 info30 rfl (by decide) (by omega) u14 x14_2 (⟨t772, t773⟩ : S30) [.int .i64 t772, .string t773] (fun k_ => k_ ≠ gb776) (fun _ => False) rfl (by first | (go_simp; done) | (go_simp; rfl)) ?aP (fun _ hk => hk.elim) ?aF ?aO ?aB ?aS ?aL ?_; (case aP => exact k30_mkM _ _ _ (⟨t772, t773⟩ : S30)); (case aB => exact (bL HB)); (case aF => exact (fun k_ hk => Kd.freshB (g := gb776) (o := .cells #[.int .i64 t772, .string t773] 30 (0, 0)) (blk_later BK776.out) k_ hk)); (case aO => exact (by (with_reducible repeat (first | apply Kd.R_alloc | apply Kd.R_drewN | apply Kd.R_drew)); exact Kd.R_mono (Kd.R_far (p := ⟨gb776, 1, none⟩) (Kd.R_far (p := ⟨gb776, 0, none⟩) (Kd.R_mono HO_14.out (fun k_ hk => (⟨hk, hk.2⟩ : _ ∧ k_ ≠ gb776))) (fun _ hk => hk.2) (.int .i64 t772)) (fun _ hk => hk.2) (.string t773)) (fun _ hk => hk.1.2))); (case aS => exact (below_size (bL HB))); (case aL => have := LMc23.out; omega); intro v778 w27 ho hb hg hat; rw [← Ny777.out] at ho; have HO779 := am ho; replace BK776 := am (blk_grown (g := gb776) (o := .cells #[.int .i64 t772, .string t773] 30 (0, 0)) (blk_later BK776.out) hg (Kd.R_away HO_14.out (fun _ hk => hk.2))); replace HB := am hb; clear HO_14; clear ho hb hg hat))
 go_roundg k2
 case measure => have := HJ4.out; have := HK2.out; omega
 case rel => exact ⟨(t774), (y777), (wrap64 (x49_2 + 1)), sr, sr, H', ⟨by have := HJ4.out; have := HK2.out; omega⟩, ⟨R_later (Kd.R_mono HO779.out (fun _ hk => trivial))⟩, ⟨bL HB⟩⟩
/-! ### impl_valueOf: function 46 -/
def impl_valueOf.f (k : Nat) (a0 : Int) (a1 : ByteArray) : Option (Int × ByteArray × Bool) := if a0 = 6 then ((impl_ValOk.f a0 0 a1).bind fun t781 => (some (0, a1, t781))) else (if a1.size < 140737488355328 then ((impl_PlainRead.f k a0 (bytesOf a1) 0 1).bind fun bt786 => (if bt786.2.2 = true then (if bt786.2.1 = (a1.size : Int) then (if 0 < (bt786.1.length : Int) then ((impl_statText.f k a0 ((rd_T30 bt786.1 0).f0) ((rd_T30 bt786.1 0).f1)).bind fun t792 => (if t792.toList = a1.toList then (some ((rd_T30 bt786.1 0).f0, (rd_T30 bt786.1 0).f1, true)) else (some (0, (⟨#[]⟩ : ByteArray), false)))) else (none)) else (some (0, (⟨#[]⟩ : ByteArray), false))) else (some (0, (⟨#[]⟩ : ByteArray), false)))) else (none))
theorem impl_valueOf.calls {k : Nat} {a0 : Int} {a1 : ByteArray} {r1 : Int} {r2 : ByteArray} {r3 : Bool} {w : World} (h : impl_valueOf.f k a0 a1 = some (r1, r2, r3)) :
    Calls Try.prog 46 #[.int .i64 a0, .string a1] w fun e w' => e = .returned (.tuple #[.agg #[.int .i64 r1, .string r2], .bool r3]) ∧ Below w.heap.size w w' := by
 have hu30 := Try.underlying30
 have HB := am (Below.refl w.heap.size w)
 have H := h; clear h; unfold impl_valueOf.f at H
 replace H := ieq H; obtain ⟨c3b0, c3b1, H⟩ | ⟨c3, c3b0, c3b1, H⟩ := H
 · replace H := bnd H; obtain ⟨t781, A4, H⟩ := H
   replace H := sj3 H; obtain ⟨rfl, rfl, rfl⟩ := H
   go_enter Try.func46, Try.ntmps46
   go_wp2_with (first | ((with_reducible refine gd 4 rfl ?_); (try refine gg ?_; dsimp only); refine bxw 4 rfl #[.int .i64 0, .string ⟨#[]⟩] 30 HB ?_; clear HB; intro gb780 w5 BK780 GW780 GE780 HB) | ((with_reducible refine gc 18 rfl ?_); refine gc1 (some 16) Try.func18 rfl (impl_ValOk.calls A4.out) ?_; rintro w6 hb; replace BK780 := bkb BK780 hb; replace HB := bst HB hb; clear hb; obtain ⟨_, _, _, _⟩ := cl2 BK780))
   refine bodyPost_ret (results_ct rfl _ _ gb780 30 #[.int .i64 0, .string a1] (0, 0) _ rfl (kL BK780) Try.underlying30 rfl (by kernel_rfl)) rfl ?_
   exact fin_ (bL HB)
 replace H := ifs H; obtain ⟨c8, H⟩ := H
 have LMc8 := am c8
 clear c8
 obtain ⟨y782, hy782⟩ : ∃ y_ : List Int, y_ = (bytesOf a1) := ⟨_, rfl⟩
 replace H : ((impl_PlainRead.f k a0 y782 0 1).bind fun bt786 => (if bt786.2.2 = true then (if bt786.2.1 = (a1.size : Int) then (if 0 < (bt786.1.length : Int) then ((impl_statText.f k a0 ((rd_T30 bt786.1 0).f0) ((rd_T30 bt786.1 0).f1)).bind fun t792 => (if t792.toList = a1.toList then (some ((rd_T30 bt786.1 0).f0, (rd_T30 bt786.1 0).f1, true)) else (some (0, (⟨#[]⟩ : ByteArray), false)))) else (none)) else (some (0, (⟨#[]⟩ : ByteArray), false))) else (some (0, (⟨#[]⟩ : ByteArray), false)))) = some (r1, r2, r3) := by first | (rw [hy782]; with_reducible exact H) | (rw [hy782]; exact H) | exact H
 have Ny782 := am hy782
 clear hy782
 replace H := bnd3 H; obtain ⟨t786, t787, t788, A9, H⟩ := H; dsimp only at H
 replace H := ibt H; obtain ⟨rfl, H⟩ | ⟨rfl, H⟩ := H
 rotate_left
 · replace H := sj3 H; obtain ⟨rfl, rfl, rfl⟩ := H
   go_enter Try.func46, Try.ntmps46
   go_wp2_with (first | ((with_reducible refine gd 4 rfl ?_); (try refine gg ?_; dsimp only); refine bxw 4 rfl #[.int .i64 0, .string ⟨#[]⟩] 30 HB ?_; clear HB; intro gb780 w34 BK780 GW780 GE780 HB) | ((with_reducible refine gd 20 rfl ?_); (try refine gg ?_; dsimp only); refine Go.Proofs.YtnlgodcbnlbdkaaW.PrintMore2.conv_seen rfl (N := 20) rfl 9 22 5 _ rfl Try.underlying9 Try.underlying22 Try.underlying5 a1 rfl (by have := LMc8.out; omega) y782 Ny782.out ?_; intro Av36 cv36 w35 hr_ hc_ hb; replace BK780 := bkb BK780 hb; replace HB := bst HB hb; have HR785 := am hr_; have HC785 := am hc_; clear hr_ hc_ hb) | ((with_reducible refine gc 61 rfl ?_); refine gl_ (some 21) Try.func61 #[.int .i64 a0, .slice Av36 y782.length cv36, .int .i64 0, .int .i64 1] rfl ?_; (with_reducible refine (impl_PlainRead.calls ?side1 ?side2 A9.out).mono ?_); (case side1 => repeat (first | exact (by repeat (first | (with_reducible exact HR785.out) | (with_reducible refine Kd.C_alloc ?_ _) | (with_reducible refine Kd.C_drewN ?_ _) | (with_reducible refine Kd.C_drew ?_) | exact HR785.out)) | (with_reducible refine Kd.C_alloc ?_ _) | (with_reducible refine Kd.C_drewN ?_ _) | (with_reducible refine Kd.C_drew ?_))); (case side2 => exact HC785.out); rintro e w37 ⟨v789, rfl, ho0, hb⟩; refine ⟨_, rfl, ?_⟩; have HO790 := am (Kd.R_lower (Kd.R_newB ho0 (g := gb780) (o := .cells #[.int .i64 0, .string ⟨#[]⟩] 30 (0, 0)) (blk_later BK780.out)) (below_size (bL HB))); replace BK780 := bkb BK780 hb; replace HR785 := am (Kd.C_below (by repeat (first | (with_reducible exact HR785.out) | (with_reducible refine Kd.C_alloc ?_ _) | (with_reducible refine Kd.C_drewN ?_ _) | (with_reducible refine Kd.C_drew ?_) | exact HR785.out)) hb); replace HB := bst HB hb; clear hb ho0; obtain ⟨_, _, _, _⟩ := cl2 BK780))
   refine bodyPost_ret (results_ct rfl _ _ gb780 30 #[.int .i64 0, .string ⟨#[]⟩] (0, 0) _ rfl (kL BK780) Try.underlying30 rfl (by kernel_rfl)) rfl ?_
   exact fin_ (bL HB)
 replace H := ieq H; obtain ⟨c11b0, c11b1, H⟩ | ⟨c11, c11b0, c11b1, H⟩ := H
 rotate_left
 · replace H := sj3 H; obtain ⟨rfl, rfl, rfl⟩ := H
   go_enter Try.func46, Try.ntmps46
   go_wp2_with (first | ((with_reducible refine gd 4 rfl ?_); (try refine gg ?_; dsimp only); refine bxw 4 rfl #[.int .i64 0, .string ⟨#[]⟩] 30 HB ?_; clear HB; intro gb780 w29 BK780 GW780 GE780 HB) | ((with_reducible refine gd 20 rfl ?_); (try refine gg ?_; dsimp only); refine Go.Proofs.YtnlgodcbnlbdkaaW.PrintMore2.conv_seen rfl (N := 20) rfl 9 22 5 _ rfl Try.underlying9 Try.underlying22 Try.underlying5 a1 rfl (by have := LMc8.out; omega) y782 Ny782.out ?_; intro Av31 cv31 w30 hr_ hc_ hb; replace BK780 := bkb BK780 hb; replace HB := bst HB hb; have HR785 := am hr_; have HC785 := am hc_; clear hr_ hc_ hb) | ((with_reducible refine gc 61 rfl ?_); refine gl_ (some 21) Try.func61 #[.int .i64 a0, .slice Av31 y782.length cv31, .int .i64 0, .int .i64 1] rfl ?_; (with_reducible refine (impl_PlainRead.calls ?side1 ?side2 A9.out).mono ?_); (case side1 => repeat (first | exact (by repeat (first | (with_reducible exact HR785.out) | (with_reducible refine Kd.C_alloc ?_ _) | (with_reducible refine Kd.C_drewN ?_ _) | (with_reducible refine Kd.C_drew ?_) | exact HR785.out)) | (with_reducible refine Kd.C_alloc ?_ _) | (with_reducible refine Kd.C_drewN ?_ _) | (with_reducible refine Kd.C_drew ?_))); (case side2 => exact HC785.out); rintro e w32 ⟨v789, rfl, ho0, hb⟩; refine ⟨_, rfl, ?_⟩; have HO790 := am (Kd.R_lower (Kd.R_newB ho0 (g := gb780) (o := .cells #[.int .i64 0, .string ⟨#[]⟩] 30 (0, 0)) (blk_later BK780.out)) (below_size (bL HB))); replace BK780 := bkb BK780 hb; replace HR785 := am (Kd.C_below (by repeat (first | (with_reducible exact HR785.out) | (with_reducible refine Kd.C_alloc ?_ _) | (with_reducible refine Kd.C_drewN ?_ _) | (with_reducible refine Kd.C_drew ?_) | exact HR785.out)) hb); replace HB := bst HB hb; clear hb ho0; obtain ⟨_, _, _, _⟩ := cl2 BK780))
   refine bodyPost_ret (results_ct rfl _ _ gb780 30 #[.int .i64 0, .string ⟨#[]⟩] (0, 0) _ rfl (kL BK780) Try.underlying30 rfl (by kernel_rfl)) rfl ?_
   exact fin_ (bL HB)
 replace H := ifs H; obtain ⟨c12, H⟩ := H
 have c12b0 := decide_eq_true c12
 have c12b1 : decide (0 < t786.length) = true := decide_eq_true (by omega)
 clear c12
 replace H := bnd H; obtain ⟨t792, A13, H⟩ := H
 replace H := ieq H; obtain ⟨c14b0, c14b1, H⟩ | ⟨c14, c14b0, c14b1, H⟩ := H
 rotate_left
 · replace H := sj3 H; obtain ⟨rfl, rfl, rfl⟩ := H
   go_enter Try.func46, Try.ntmps46
   go_wp2_with (first | ((with_reducible refine gd 4 rfl ?_); (try refine gg ?_; dsimp only); refine bxw 4 rfl #[.int .i64 0, .string ⟨#[]⟩] 30 HB ?_; clear HB; intro gb780 w22 BK780 GW780 GE780 HB) | ((with_reducible refine gd 20 rfl ?_); (try refine gg ?_; dsimp only); refine Go.Proofs.YtnlgodcbnlbdkaaW.PrintMore2.conv_seen rfl (N := 20) rfl 9 22 5 _ rfl Try.underlying9 Try.underlying22 Try.underlying5 a1 rfl (by have := LMc8.out; omega) y782 Ny782.out ?_; intro Av24 cv24 w23 hr_ hc_ hb; replace BK780 := bkb BK780 hb; replace HB := bst HB hb; have HR785 := am hr_; have HC785 := am hc_; clear hr_ hc_ hb) | ((with_reducible refine gc 61 rfl ?_); refine gl_ (some 21) Try.func61 #[.int .i64 a0, .slice Av24 y782.length cv24, .int .i64 0, .int .i64 1] rfl ?_; (with_reducible refine (impl_PlainRead.calls ?side1 ?side2 A9.out).mono ?_); (case side1 => repeat (first | exact (by repeat (first | (with_reducible exact HR785.out) | (with_reducible refine Kd.C_alloc ?_ _) | (with_reducible refine Kd.C_drewN ?_ _) | (with_reducible refine Kd.C_drew ?_) | exact HR785.out)) | (with_reducible refine Kd.C_alloc ?_ _) | (with_reducible refine Kd.C_drewN ?_ _) | (with_reducible refine Kd.C_drew ?_))); (case side2 => exact HC785.out); rintro e w25 ⟨v789, rfl, ho0, hb⟩; refine ⟨_, rfl, ?_⟩; have HO790 := am (Kd.R_lower (Kd.R_newB ho0 (g := gb780) (o := .cells #[.int .i64 0, .string ⟨#[]⟩] 30 (0, 0)) (blk_later BK780.out)) (below_size (bL HB))); replace BK780 := bkb BK780 hb; replace HR785 := am (Kd.C_below (by repeat (first | (with_reducible exact HR785.out) | (with_reducible refine Kd.C_alloc ?_ _) | (with_reducible refine Kd.C_drewN ?_ _) | (with_reducible refine Kd.C_drew ?_) | exact HR785.out)) hb); replace HB := bst HB hb; clear hb ho0; obtain ⟨Ao26, co26, eo26⟩ := Kd.R_slice HO790.out; subst eo26; have p791 : 0 ≤ (0 : Int) := (by omega); have q791 : 0 < (t786.length : Int) := dcd; obtain ⟨ad791, e791, hx791_0, hx791_1⟩ := at_T30 (Kd.R_reads' HO790.out).2.2 0 p791 q791; cases e791; have qi791 : (0 < t786.length) = True := eq_true (by omega); (try rw [show ((0 : Int)).toNat = 0 from rfl] at hx791_0); (try rw [show 0 * 2 = 0 from rfl] at hx791_0); (try rw [Addr.add_zero'] at hx791_0); (try rw [show ((0 : Int)).toNat = 0 from rfl] at hx791_1); (try rw [show 0 * 2 = 0 from rfl] at hx791_1); (try rw [Addr.add_zero'] at hx791_1); replace p791 := eq_true p791; replace q791 := eq_true q791) | (go_at_call 40; (with_reducible refine (impl_statText.calls A13.out).mono ?_); rintro e w27 ⟨rfl, hb⟩; replace HO790 := rbe HO790 hb; replace BK780 := bkb BK780 hb; replace HR785 := am (Kd.C_below (by repeat (first | (with_reducible exact HR785.out) | (with_reducible refine Kd.C_alloc ?_ _) | (with_reducible refine Kd.C_drewN ?_ _) | (with_reducible refine Kd.C_drew ?_) | exact HR785.out)) hb); replace HB := bst HB hb; clear hb; obtain ⟨_, _, _, _⟩ := cl2 BK780))
   refine bodyPost_ret (results_ct rfl _ _ gb780 30 #[.int .i64 0, .string ⟨#[]⟩] (0, 0) _ rfl (kL BK780) Try.underlying30 rfl (by kernel_rfl)) rfl ?_
   exact fin_ (bL HB)
 replace H := sj3 H; obtain ⟨rfl, rfl, rfl⟩ := H
 go_enter Try.func46, Try.ntmps46
 go_wp2_with (first | ((with_reducible refine gd 4 rfl ?_); (try refine gg ?_; dsimp only); refine bxw 4 rfl #[.int .i64 0, .string ⟨#[]⟩] 30 HB ?_; clear HB; intro gb780 w15 BK780 GW780 GE780 HB) | ((with_reducible refine gd 20 rfl ?_); (try refine gg ?_; dsimp only); refine Go.Proofs.YtnlgodcbnlbdkaaW.PrintMore2.conv_seen rfl (N := 20) rfl 9 22 5 _ rfl Try.underlying9 Try.underlying22 Try.underlying5 a1 rfl (by have := LMc8.out; omega) y782 Ny782.out ?_; intro Av17 cv17 w16 hr_ hc_ hb; replace BK780 := bkb BK780 hb; replace HB := bst HB hb; have HR785 := am hr_; have HC785 := am hc_; clear hr_ hc_ hb) | ((with_reducible refine gc 61 rfl ?_); refine gl_ (some 21) Try.func61 #[.int .i64 a0, .slice Av17 y782.length cv17, .int .i64 0, .int .i64 1] rfl ?_; (with_reducible refine (impl_PlainRead.calls ?side1 ?side2 A9.out).mono ?_); (case side1 => repeat (first | exact (by repeat (first | (with_reducible exact HR785.out) | (with_reducible refine Kd.C_alloc ?_ _) | (with_reducible refine Kd.C_drewN ?_ _) | (with_reducible refine Kd.C_drew ?_) | exact HR785.out)) | (with_reducible refine Kd.C_alloc ?_ _) | (with_reducible refine Kd.C_drewN ?_ _) | (with_reducible refine Kd.C_drew ?_))); (case side2 => exact HC785.out); rintro e w18 ⟨v789, rfl, ho0, hb⟩; refine ⟨_, rfl, ?_⟩; have HO790 := am (Kd.R_lower (Kd.R_newB ho0 (g := gb780) (o := .cells #[.int .i64 0, .string ⟨#[]⟩] 30 (0, 0)) (blk_later BK780.out)) (below_size (bL HB))); replace BK780 := bkb BK780 hb; replace HR785 := am (Kd.C_below (by repeat (first | (with_reducible exact HR785.out) | (with_reducible refine Kd.C_alloc ?_ _) | (with_reducible refine Kd.C_drewN ?_ _) | (with_reducible refine Kd.C_drew ?_) | exact HR785.out)) hb); replace HB := bst HB hb; clear hb ho0; obtain ⟨Ao19, co19, eo19⟩ := Kd.R_slice HO790.out; subst eo19; have p791 : 0 ≤ (0 : Int) := (by omega); have q791 : 0 < (t786.length : Int) := dcd; obtain ⟨ad791, e791, hx791_0, hx791_1⟩ := at_T30 (Kd.R_reads' HO790.out).2.2 0 p791 q791; cases e791; have qi791 : (0 < t786.length) = True := eq_true (by omega); (try rw [show ((0 : Int)).toNat = 0 from rfl] at hx791_0); (try rw [show 0 * 2 = 0 from rfl] at hx791_0); (try rw [Addr.add_zero'] at hx791_0); (try rw [show ((0 : Int)).toNat = 0 from rfl] at hx791_1); (try rw [show 0 * 2 = 0 from rfl] at hx791_1); (try rw [Addr.add_zero'] at hx791_1); replace p791 := eq_true p791; replace q791 := eq_true q791) | (go_at_call 40; (with_reducible refine (impl_statText.calls A13.out).mono ?_); rintro e w20 ⟨rfl, hb⟩; replace HO790 := rbe HO790 hb; replace BK780 := bkb BK780 hb; replace HR785 := am (Kd.C_below (by repeat (first | (with_reducible exact HR785.out) | (with_reducible refine Kd.C_alloc ?_ _) | (with_reducible refine Kd.C_drewN ?_ _) | (with_reducible refine Kd.C_drew ?_) | exact HR785.out)) hb); replace HB := bst HB hb; clear hb; have p793 : 0 ≤ (0 : Int) := (by omega); have q793 : 0 < (t786.length : Int) := dcd; obtain ⟨ad793, e793, hx793_0, hx793_1⟩ := at_T30 (Kd.R_reads' HO790.out).2.2 0 p793 q793; obtain rfl : ad791 = ad793 := (by injection e793); have qi793 : (0 < t786.length) = True := eq_true (by omega); (try rw [show ((0 : Int)).toNat = 0 from rfl] at hx793_0); (try rw [show 0 * 2 = 0 from rfl] at hx793_0); (try rw [Addr.add_zero'] at hx793_0); (try rw [show ((0 : Int)).toNat = 0 from rfl] at hx793_1); (try rw [show 0 * 2 = 0 from rfl] at hx793_1); (try rw [Addr.add_zero'] at hx793_1); replace p793 := eq_true p793; replace q793 := eq_true q793; obtain ⟨_, _, _, _⟩ := cl2 BK780))
 refine bodyPost_ret (results_ct rfl _ _ gb780 30 #[.int .i64 ((rd_T30 t786 0).f0), .string ((rd_T30 t786 0).f1)] (0, 0) _ rfl (kL BK780) Try.underlying30 rfl (by kernel_rfl)) rfl ?_
 exact fin_ (bL HB)
end Go.Proofs.Ytnlgodcbnlbdkaa.PFnStats
