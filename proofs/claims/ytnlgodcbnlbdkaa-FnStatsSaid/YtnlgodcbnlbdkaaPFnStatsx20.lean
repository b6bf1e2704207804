/- The machine's side of FnStats: each Go function, and what its call comes to. No condition. -/
import Derived.Test.YtnlgodcbnlbdkaaPFnStatsx0
import Derived.Test.YtnlgodcbnlbdkaaPFnStatsx1
import Derived.Test.YtnlgodcbnlbdkaaPFnStatsx2
import Derived.Test.YtnlgodcbnlbdkaaPFnStatsx3
import Derived.Test.YtnlgodcbnlbdkaaPFnStatsx10
import Derived.Test.YtnlgodcbnlbdkaaPFnStatsx11
import Derived.Test.YtnlgodcbnlbdkaaPFnStatsx12
import Derived.Test.YtnlgodcbnlbdkaaPFnStatsx14
import Derived.Test.YtnlgodcbnlbdkaaPFnStatsx19
namespace Go.Proofs.Ytnlgodcbnlbdkaa.PFnStats
open Go.RowKit Go.Proofs.YtnlgodcbnlbdkaaW.PrintWords Go.Proofs.YtnlgodcbnlbdkaaW.PrintLast Go.Proofs.YtnlgodcbnlbdkaaW.PrintMore Go.Proofs.YtnlgodcbnlbdkaaW.PrintMore2
attribute [local go_sem] max2_int min2_int max_two min_two max_three min_three max_four min_four
set_option linter.unusedVariables false
set_option linter.unusedSimpArgs false
set_option maxHeartbeats 8000000
set_option maxRecDepth 100000

attribute [local go_sem high] eqA30 eqA32
/-! ### laws_FnStats: function 3 -/
mutual
def laws_FnStats.j0 : Nat → List (S36) → Bool → Bool → Int → Int → Int → Int → Bool → Int → ByteArray → Int → ByteArray → Option (Bool)
 | 0, _, _, _, _, _, _, _, _, _, _, _, _ => none
 | k + 1, x4, x6, x43, x847000, x847001, x847002, x855000, x855001, x855002, x855003, x855004, x855005 => if x43 = true then (some false) else (if x6 = true then (laws_FnStats.l0 k x4 0 (!x855001) (!x855001) 0 x847000 x847001 x847002 x855000 x855001 x855002 x855003 x855004 x855005) else (some (x855000 == 0 && (!x855001 && ((x855002 == 0 && (x855003.toList == ([] : List UInt8))) && ((x855004 == 0 && (x855005.toList == ([] : List UInt8)))))))))
def laws_FnStats.l0 : Nat → List (S36) → Int → Bool → Bool → Int → Int → Int → Int → Int → Bool → Int → ByteArray → Int → ByteArray → Option (Bool)
 | 0, _, _, _, _, _, _, _, _, _, _, _, _, _, _ => none
 | k + 1, x4, x9, x10, x11, x12, x847000, x847001, x847002, x855000, x855001, x855002, x855003, x855004, x855005 => if x12 < (x4.length : Int) then (if 0 ≤ x12 then (if ((rd_T36 x4 x12).f1) < x847002 then (laws_FnStats.l0 k x4 (wrap64 (x9 + 1)) x10 x11 (wrap64 (x12 + 1)) x847000 x847001 x847002 x855000 x855001 x855002 x855003 x855004 x855005) else ((impl_ValLess.f k x847000 ((rd_T36 x4 x12).f2.f0) ((rd_T36 x4 x12).f2.f1) x855002 x855003).bind fun t877 => (if t877 = true then (some false) else ((impl_ValLess.f k x847000 x855004 x855005 ((rd_T36 x4 x12).f2.f0) ((rd_T36 x4 x12).f2.f1)).bind fun t879 => (if t879 = true then (some false) else (if x10 = true then (if x11 = true then (laws_FnStats.l0 k x4 x9 true true (wrap64 (x12 + 1)) x847000 x847001 x847002 x855000 x855001 x855002 x855003 x855004 x855005) else (laws_FnStats.l0 k x4 x9 true (((rd_T36 x4 x12).f2.f0) == x855004 && ((((rd_T36 x4 x12).f2.f1).toList) == x855005.toList)) (wrap64 (x12 + 1)) x847000 x847001 x847002 x855000 x855001 x855002 x855003 x855004 x855005)) else (if x11 = true then (laws_FnStats.l0 k x4 x9 (((rd_T36 x4 x12).f2.f0) == x855002 && ((((rd_T36 x4 x12).f2.f1).toList) == x855003.toList)) true (wrap64 (x12 + 1)) x847000 x847001 x847002 x855000 x855001 x855002 x855003 x855004 x855005) else (laws_FnStats.l0 k x4 x9 (((rd_T36 x4 x12).f2.f0) == x855002 && ((((rd_T36 x4 x12).f2.f1).toList) == x855003.toList)) (((rd_T36 x4 x12).f2.f0) == x855004 && ((((rd_T36 x4 x12).f2.f1).toList) == x855005.toList)) (wrap64 (x12 + 1)) x847000 x847001 x847002 x855000 x855001 x855002 x855003 x855004 x855005)))))))) else (none)) else ((impl_StatsTree.f k x847000 x847001 x847002 x855000 x855001 x855002 x855003 x855004 x855005).bind fun bt863 => ((impl_StatsFrom.f k x847000 x847001 x847002 bt863.1 0).bind fun bt867 => (if x9 = x855000 then (if x10 = true then (if x11 = true then (if (x855001 == (decide (x9 < (x4.length : Int)))) = true then (if bt863.2 = true then (if bt867.2.2.2.2.2.2 = true then (some (bt867.1 == x855000 && (bt867.2.1 == x855001 && ((bt867.2.2.1 == x855002 && (bt867.2.2.2.1.toList == x855003.toList)) && ((bt867.2.2.2.2.1 == x855004 && (bt867.2.2.2.2.2.1.toList == x855005.toList))))))) else (some false)) else (some false)) else (some false)) else (some false)) else (some false)) else (some false))))
end
def laws_FnStats.f (k : Nat) (l0 : List Int) : Option (Bool) := (laws_big.f l0).bind fun t839 => (if t839 = true then (some true) else ((spec_DrawStatsOf.f k l0).bind fun bt840 => ((impl_StatsOf.f k bt840.1 bt840.2.1 bt840.2.2.1 bt840.2.2.2).bind fun bt847 => ((spec_StatsOf.f k bt840.1 bt840.2.1 bt840.2.2.1 bt840.2.2.2).bind fun bt855 => (if (bt847.2.2.2.2.2.2 != bt855.2.2.2.2.2.2) = true then (laws_FnStats.j0 k bt840.2.2.2 bt847.2.2.2.2.2.2 true bt840.1 bt840.2.1 bt840.2.2.1 bt847.1 bt847.2.1 bt847.2.2.1 bt847.2.2.2.1 bt847.2.2.2.2.1 bt847.2.2.2.2.2.1) else (laws_FnStats.j0 k bt840.2.2.2 bt847.2.2.2.2.2.2 (!(bt847.1 == bt855.1) || (!(bt847.2.1 == bt855.2.1) || ((!(bt847.2.2.1 == bt855.2.2.1) || (!(bt847.2.2.2.1.toList == bt855.2.2.2.1.toList))) || ((!(bt847.2.2.2.2.1 == bt855.2.2.2.2.1) || (!(bt847.2.2.2.2.2.1.toList == bt855.2.2.2.2.2.1.toList))))))) bt840.1 bt840.2.1 bt840.2.2.1 bt847.1 bt847.2.1 bt847.2.2.1 bt847.2.2.2.1 bt847.2.2.2.2.1 bt847.2.2.2.2.2.1))))))
def laws_FnStats.T10 : Bool × List (List Nat × List Nat) := (true, [([], []), ([0], [0]), ([1], [1]), ([], []), ([3], [3]), ([4], [4]), ([], []), ([2, 6, 0, 1, 2, 6], [2]), ([5, 7, 0, 1, 2, 3, 4, 5, 6, 7], [5])])
def laws_FnStats.B10 : List Nat := [0, 1, 3, 0, 8, 24, 0, 71, 255]
theorem laws_FnStats.tab10 : rtab .any (opsOf Try.f3 10) = laws_FnStats.T10 := by kernel_rfl
theorem laws_FnStats.bits10 : waitsOk laws_FnStats.T10.2 laws_FnStats.B10 = true := by kernel_rfl
def laws_FnStats.T14 : Bool × List (List Nat × List Nat) := (true, [([], []), ([], []), ([0, 1], [0, 1]), ([2], [2]), ([3], [3]), ([], []), ([5], [5]), ([4, 6], [4, 6])])
def laws_FnStats.B14 : List Nat := [0, 0, 3, 7, 15, 0, 32, 127]
theorem laws_FnStats.tab14 : rtab .any (opsOf Try.f3 14) = laws_FnStats.T14 := by kernel_rfl
theorem laws_FnStats.bits14 : waitsOk laws_FnStats.T14.2 laws_FnStats.B14 = true := by kernel_rfl
def laws_FnStats.T16 : Bool × List (List Nat × List Nat) := (true, [([], []), ([0], [0]), ([], []), ([], []), ([2, 3], [2, 3]), ([4], [4]), ([5], [5]), ([], []), ([7], [7]), ([1, 6, 8], [1, 6, 8]), ([9, 9], [9]), ([10], [10]), ([11, 10], [10, 11]), ([10], [10]), ([13, 10], [10, 13]), ([10], [10]), ([10], [10]), ([15, 16, 10], [10, 15, 16]), ([17, 10], [10, 17]), ([18, 10], [10, 18]), ([12, 14, 19, 10, 10], [10, 12, 14, 19]), ([10, 20], [10, 20])])
def laws_FnStats.B16 : List Nat := [0, 1, 0, 0, 12, 28, 60, 0, 128, 511, 1023, 2047, 4095, 2047, 10239, 2047, 2047, 100351, 231423, 493567, 1048575, 2097151]
theorem laws_FnStats.tab16 : rtab .any (opsOf Try.f3 16) = laws_FnStats.T16 := by kernel_rfl
theorem laws_FnStats.bits16 : waitsOk laws_FnStats.T16.2 laws_FnStats.B16 = true := by kernel_rfl
def laws_FnStats.T18 : Bool × List (List Nat × List Nat) := (true, [([], []), ([0], [0]), ([1], [1]), ([1], [1]), ([2, 3, 1], [1, 2, 3]), ([4, 1], [1, 4]), ([5, 1], [1, 5]), ([1], [1]), ([7, 1], [1, 7]), ([6, 8, 1], [1, 6, 8]), ([1, 9], [1, 9]), ([10, 1, 0, 1, 2, 3, 4, 5, 6, 7, 8, 9, 10], [0, 10])])
def laws_FnStats.B18 : List Nat := [0, 1, 3, 3, 15, 31, 63, 3, 131, 511, 1023, 2047]
theorem laws_FnStats.tab18 : rtab .any (opsOf Try.f3 18) = laws_FnStats.T18 := by kernel_rfl
theorem laws_FnStats.bits18 : waitsOk laws_FnStats.T18.2 laws_FnStats.B18 = true := by kernel_rfl
def laws_FnStats.T19 : Bool × List (List Nat × List Nat) := (true, [([], []), ([0], [0]), ([1], [1]), ([1], [1]), ([2, 3, 1], [1, 2, 3]), ([4, 1], [1, 4]), ([5, 1], [1, 5]), ([1], [1]), ([7, 1], [1, 7]), ([6, 8, 1], [1, 6, 8]), ([1, 9], [1, 9]), ([10, 1, 0, 1, 2, 3, 4, 5, 6, 7, 8, 9, 10], [0, 10])])
def laws_FnStats.B19 : List Nat := [0, 1, 3, 3, 15, 31, 63, 3, 131, 511, 1023, 2047]
theorem laws_FnStats.tab19 : rtab .any (opsOf Try.f3 19) = laws_FnStats.T19 := by kernel_rfl
theorem laws_FnStats.bits19 : waitsOk laws_FnStats.T19.2 laws_FnStats.B19 = true := by kernel_rfl
theorem laws_FnStats.calls (k : Nat) (A0 : Option Addr) (c0 : Nat) (l0 : List Int) (r : Bool) (w : World) (hr0 : Kd.C (Kd.int .u8) w A0 l0.length l0) (hc0 : l0.length ≤ c0) (h : laws_FnStats.f k l0 = some true) :
  Calls Try.prog 3 #[.slice A0 l0.length c0] w fun e w' => e = .returned (.bool true) ∧ Below w.heap.size w w' := by
 have hu25 := Try.underlying25
 have hu32 := Try.underlying32
 have hu30 := Try.underlying30
 have HR0 := am hr0
 have HC0 := am hc0
 clear hr0 hc0
 have HB := am (Below.refl w.heap.size w)
 have H := h; clear h; unfold laws_FnStats.f at H
 replace H := bnd H; obtain ⟨t839, A2, H⟩ := H
 replace H := ibt H; obtain ⟨rfl, H⟩ | ⟨rfl, H⟩ := H
 · clear H
   go_enter Try.func3, Try.ntmps3
   go_wp2_with (first | ((with_reducible refine gc 4 rfl ?_); refine gc1 (some 18) Try.func4 rfl (laws_big.calls (C_later HR0.out) HC0.out A2.out) ?_; rintro w' ⟨nd, rfl⟩))
   go_ret
   exact fin_ (bL HB)
 replace H := bnd4 H; obtain ⟨t840, t841, t842, t843, A4, H⟩ := H; dsimp only at H
 replace H := bnd7 H; obtain ⟨t847, t848, t849, t850, t851, t852, t853, A5, H⟩ := H; dsimp only at H
 replace H := bnd7 H; obtain ⟨t855, t856, t857, t858, t859, t860, t861, A6, H⟩ := H; dsimp only at H
 have HC7 := am H
 clear H
 go_enter Try.func3, Try.ntmps3
 go_upto_region 6 with (first | ((with_reducible refine gc 4 rfl ?_); refine gc1 (some 18) Try.func4 rfl (laws_big.calls (C_later HR0.out) HC0.out A2.out) ?_; rintro w' ⟨nd, rfl⟩) | ((with_reducible refine gc 5 rfl ?_); refine gc2 (some 21) Try.func5 rfl (spec_DrawStatsOf.calls (C_later HR0.out) HC0.out A4.out) ?_; rintro v844 w8 ⟨ho0, hb⟩; have HO845 := rlb ho0 HB; replace HB := bst HB hb; clear hb ho0) | ((with_reducible refine gd 3 rfl ?_); (try refine gg ?_; dsimp only); refine bxv 3 rfl #[.int .i64 0, .int .i64 0, .int .i64 0] 25 HB ?_; clear HB; intro gb846 w9 BK846 GW846 GE846 HB hg hb; replace HO845 := rbe HO845 hb; clear hg hb; obtain ⟨hcz10_0, hcz10_1, hcz10_2, hfz10_0, hfz10_1, hfz10_2⟩ := cl3 BK846; obtain ⟨Ao11, co11, eo11⟩ := Kd.R_slice HO845.out; subst eo11) | ((with_reducible refine gc 6 rfl ?_); refine gl_ (some 27) Try.func6 #[.agg #[.int .i64 t840, .int .i64 t841, .int .i64 t842], .slice Ao11 t843.length co11] rfl ?_; (with_reducible refine (impl_StatsOf.calls ?side1 ?side2 A5.out).mono ?_); (case side1 => refine (Kd.R_reads' (e := 36) (base := w.heap.size) (ok := fun k_ => True) (n := t843.length) (c := co11) ?_).2.2; exact (by (with_reducible repeat (first | apply Kd.R_alloc | apply Kd.R_drewN | apply Kd.R_drew)); exact (Kd.R_mono (Kd.R_far (p := ⟨gb846, 2, none⟩) (Kd.R_far (p := ⟨gb846, 1, none⟩) (Kd.R_far (p := ⟨gb846, 0, none⟩) (Kd.R_types HO845.out BK846.out (by decide)) (fun _ hk => hk.2) (.int .i64 t840)) (fun _ hk => hk.2) (.int .i64 t841)) (fun _ hk => hk.2) (.int .i64 t842)) (fun _ h_ => h_.1)))); (case side2 => exact (Kd.R_reads' HO845.out).2.1); rintro e w12 ⟨rfl, hb⟩; refine ⟨_, rfl, ?_⟩; replace HO845 := am (Kd.R_below (by (with_reducible repeat (first | apply Kd.R_alloc | apply Kd.R_drewN | apply Kd.R_drew)); exact (Kd.R_mono (Kd.R_far (p := ⟨gb846, 2, none⟩) (Kd.R_far (p := ⟨gb846, 1, none⟩) (Kd.R_far (p := ⟨gb846, 0, none⟩) (Kd.R_types HO845.out BK846.out (by decide)) (fun _ hk => hk.2) (.int .i64 t840)) (fun _ hk => hk.2) (.int .i64 t841)) (fun _ hk => hk.2) (.int .i64 t842)) (fun _ h_ => h_.1))) hb); replace BK846 := am (blk_below (g := gb846) (o := .cells #[.int .i64 t840, .int .i64 t841, .int .i64 t842] 25 (0, 0)) (blk_later BK846.out) hb); replace HB := bst HB hb; clear hb; (try clear hk)) | ((with_reducible refine gd 5 rfl ?_); (try refine gg ?_; dsimp only); refine bxv 5 rfl #[.int .i64 0, .bool false, .int .i64 0, .string ⟨#[]⟩, .int .i64 0, .string ⟨#[]⟩] 32 HB ?_; clear HB; intro gb854 w13 BK854 GW854 GE854 HB hg hb; obtain ⟨NB846_854, NB854_846⟩ := nbp (nbl BK846 hg); replace HO845 := rbe HO845 hb; replace BK846 := bkb BK846 hb; clear hg hb; obtain ⟨hnb14, hnc14⟩ := nbo NB854_846; obtain ⟨hcz15_0, hcz15_1, hcz15_2, hcz15_3, hcz15_4, hcz15_5, hfz15_0, hfz15_1, hfz15_2, hfz15_3, hfz15_4, hfz15_5⟩ := cl6 BK854; obtain ⟨hcz16_0, hcz16_1, hcz16_2, hfz16_0, hfz16_1, hfz16_2⟩ := cl3 BK846) | ((with_reducible refine gc 7 rfl ?_); refine gl_ (some 33) Try.func7 #[.agg #[.int .i64 t840, .int .i64 t841, .int .i64 t842], .slice Ao11 t843.length co11] rfl ?_; (with_reducible refine (spec_StatsOf.calls ?side1 ?side2 A6.out).mono ?_); (case side1 => refine (Kd.R_reads' (e := 36) (base := w.heap.size) (ok := fun k_ => True) (n := t843.length) (c := co11) ?_).2.2; exact (by (with_reducible repeat (first | apply Kd.R_alloc | apply Kd.R_drewN | apply Kd.R_drew)); exact (Kd.R_mono (Kd.R_far (p := ⟨gb854, 5, none⟩) (Kd.R_far (p := ⟨gb854, 4, none⟩) (Kd.R_far (p := ⟨gb854, 3, none⟩) (Kd.R_far (p := ⟨gb854, 2, none⟩) (Kd.R_far (p := ⟨gb854, 1, none⟩) (Kd.R_far (p := ⟨gb854, 0, none⟩) (Kd.R_types HO845.out BK854.out (by decide)) (fun _ hk => hk.2) (.int .i64 t847)) (fun _ hk => hk.2) (.bool t848)) (fun _ hk => hk.2) (.int .i64 t849)) (fun _ hk => hk.2) (.string t850)) (fun _ hk => hk.2) (.int .i64 t851)) (fun _ hk => hk.2) (.string t852)) (fun _ h_ => h_.1)))); (case side2 => exact (Kd.R_reads' HO845.out).2.1); rintro e w17 ⟨rfl, hb⟩; refine ⟨_, rfl, ?_⟩; replace HO845 := am (Kd.R_below (by (with_reducible repeat (first | apply Kd.R_alloc | apply Kd.R_drewN | apply Kd.R_drew)); exact (Kd.R_mono (Kd.R_far (p := ⟨gb854, 5, none⟩) (Kd.R_far (p := ⟨gb854, 4, none⟩) (Kd.R_far (p := ⟨gb854, 3, none⟩) (Kd.R_far (p := ⟨gb854, 2, none⟩) (Kd.R_far (p := ⟨gb854, 1, none⟩) (Kd.R_far (p := ⟨gb854, 0, none⟩) (Kd.R_types HO845.out BK854.out (by decide)) (fun _ hk => hk.2) (.int .i64 t847)) (fun _ hk => hk.2) (.bool t848)) (fun _ hk => hk.2) (.int .i64 t849)) (fun _ hk => hk.2) (.string t850)) (fun _ hk => hk.2) (.int .i64 t851)) (fun _ hk => hk.2) (.string t852)) (fun _ h_ => h_.1))) hb); replace BK846 := bkb BK846 hb; replace BK854 := am (blk_below (g := gb854) (o := .cells #[.int .i64 t847, .bool t848, .int .i64 t849, .string t850, .int .i64 t851, .string t852] 32 (0, 0)) (blk_later BK854.out) hb); replace HB := bst HB hb; clear hb; (try clear hk)) | ((with_reducible refine gd 7 rfl ?_); (try refine gg ?_; dsimp only); refine bxv 7 rfl #[.int .i64 0, .bool false, .int .i64 0, .string ⟨#[]⟩, .int .i64 0, .string ⟨#[]⟩] 32 HB ?_; clear HB; intro gb862 w18 BK862 GW862 GE862 HB hg hb; obtain ⟨NB846_862, NB862_846⟩ := nbp (nbl BK846 hg); obtain ⟨NB854_862, NB862_854⟩ := nbp (nbl BK854 hg); replace HO845 := rbe HO845 hb; replace BK846 := bkb BK846 hb; replace BK854 := bkb BK854 hb; clear hg hb; obtain ⟨hnb19, hnc19⟩ := nbo NB862_846; obtain ⟨hnb20, hnc20⟩ := nbo NB862_854; obtain ⟨hcz21_0, hcz21_1, hcz21_2, hcz21_3, hcz21_4, hcz21_5, hfz21_0, hfz21_1, hfz21_2, hfz21_3, hfz21_4, hfz21_5⟩ := cl6 BK862))
 (try simp only [Act.put, List.setIfInBounds_toArray, List.set_cons_zero, List.set_cons_succ])
 go_cut [43] (fun v43 wc => ∃ (kq : Nat) (x43_6 : Bool), v43 = .bool x43_6 ∧ Aside0 (laws_FnStats.j0 kq t843 t853 x43_6 t840 t841 t842 t847 t848 t849 t850 t851 t852 = some true) ∧ Aside0 (kq ≤ k) ∧ Aside0 (Kd.R k36 36 wc w.heap.size (fun _ => True) (.slice Ao11 t843.length co11) t843) ∧ Aside0 (wc.heap[gb846]? = some (.cells #[.int .i64 t840, .int .i64 t841, .int .i64 t842] 25 (0, 0))) ∧ Aside0 (wc.heap[gb854]? = some (.cells #[.int .i64 t847, .bool t848, .int .i64 t849, .string t850, .int .i64 t851, .string t852] 32 (0, 0))) ∧ Aside0 (wc.heap[gb862]? = some (.cells #[.int .i64 t855, .bool t856, .int .i64 t857, .string t858, .int .i64 t859, .string t860] 32 (0, 0))) ∧ Aside0 (Below w.heap.size w wc))
 case first =>
  have H := HC7.out
  clear HC7
  by_cases c22 : (t853 != t861) = true
  · rw [if_pos c22] at H
    have c22b0 : (t853 != t861) = true := c22
    (try (have c22b1 : decide (t853 = t861) = false := by simpa using c22))
    (try (have c22b2 : (t853 == t861) = false := by simpa using c22))
    (try (have c22b3 : ¬ (t853 = t861) := by simpa using c22))
    clear c22
    (first | rw [c22b0] | rw [c22b1] | (simp only [i64_w, i32_w]; rw [c22b0]) | skip)
    have H' := am H; clear H
    go_wp2
    go_meet
    case rel => exact ⟨_, (true), sr, H', ⟨by first | omega | exact Nat.le_refl _⟩, ⟨R_later (Kd.R_mono (Kd.R_far (p := ⟨gb862, 5, none⟩) (Kd.R_far (p := ⟨gb862, 4, none⟩) (Kd.R_far (p := ⟨gb862, 3, none⟩) (Kd.R_far (p := ⟨gb862, 2, none⟩) (Kd.R_far (p := ⟨gb862, 1, none⟩) (Kd.R_far (p := ⟨gb862, 0, none⟩) (Kd.R_types HO845.out BK862.out (by decide)) (fun _ hk => hk.2) (.int .i64 t855)) (fun _ hk => hk.2) (.bool t856)) (fun _ hk => hk.2) (.int .i64 t857)) (fun _ hk => hk.2) (.string t858)) (fun _ hk => hk.2) (.int .i64 t859)) (fun _ hk => hk.2) (.string t860)) (fun _ hk => trivial))⟩, ⟨kL BK846⟩, ⟨kL BK854⟩, ⟨kL BK862⟩, ⟨bL HB⟩⟩
  rw [if_neg c22] at H
  have c22b0 : (t853 != t861) = false := by simpa using c22
  (try (have c22b1 : decide (t853 = t861) = true := by simpa using c22))
  (try (have c22b2 : (t853 == t861) = true := by simpa using c22))
  clear c22
  (first | rw [c22b0] | rw [c22b1] | (simp only [i64_w, i32_w]; rw [c22b0]) | skip)
  have H' := am H; clear H
  obtain ⟨hnb23, hnc23⟩ := nbo NB854_846
  obtain ⟨hnb24, hnc24⟩ := nbo NB854_862
  obtain ⟨_, _, _, _, _, _, _, _, _, _, _, _⟩ := cl6 BK854
  obtain ⟨hnb26, hnc26⟩ := nbo NB862_846
  obtain ⟨_, _, _, _, _, _, _, _, _, _, _, _⟩ := cl6 BK862
  go_wp2
  go_meet
  case rel => exact ⟨_, ((!(t847 == t855) || (!(t848 == t856) || ((!(t849 == t857) || (!(t850.toList == t858.toList))) || ((!(t851 == t859) || (!(t852.toList == t860.toList)))))))), sr, H', ⟨by first | omega | exact Nat.le_refl _⟩, ⟨R_later (Kd.R_mono (Kd.R_far (p := ⟨gb862, 5, none⟩) (Kd.R_far (p := ⟨gb862, 4, none⟩) (Kd.R_far (p := ⟨gb862, 3, none⟩) (Kd.R_far (p := ⟨gb862, 2, none⟩) (Kd.R_far (p := ⟨gb862, 1, none⟩) (Kd.R_far (p := ⟨gb862, 0, none⟩) (Kd.R_types HO845.out BK862.out (by decide)) (fun _ hk => hk.2) (.int .i64 t855)) (fun _ hk => hk.2) (.bool t856)) (fun _ hk => hk.2) (.int .i64 t857)) (fun _ hk => hk.2) (.string t858)) (fun _ hk => hk.2) (.int .i64 t859)) (fun _ hk => hk.2) (.string t860)) (fun _ hk => trivial))⟩, ⟨kL BK846⟩, ⟨kL BK854⟩, ⟨kL BK862⟩, ⟨bL HB⟩⟩
 clear HC7
 try clear c3 hcz10_0 hcz10_1 hcz10_2 hcz15_0 hcz15_1 hcz15_2 hcz15_3 hcz15_4 hcz15_5 hcz16_0 hcz16_1 hcz16_2 hcz21_0 hcz21_1 hcz21_2 hcz21_3 hcz21_4 hcz21_5 hfz10_0 hfz10_1 hfz10_2 hfz15_0 hfz15_1 hfz15_2 hfz15_3 hfz15_4 hfz15_5 hfz16_0 hfz16_1 hfz16_2 hfz21_0 hfz21_1 hfz21_2 hfz21_3 hfz21_4 hfz21_5
 obtain ⟨kq, x43_6, rfl, HA, HJ6, HO_4, BK846, BK854, BK862, HB⟩ := hcut
 cases kq with
 | zero => exact absurd HA.out (by simp [laws_FnStats.j0])
 | succ kj6 => ?_
 have H := HA.out
 clear HA
 simp only [laws_FnStats.j0] at H
 by_cases c28 : x43_6 = true
 · subst c28
   have H1 : (some false) = some true := by rw [if_pos rfl] at H; exact H
   cases H1
 replace c28 := Bool.eq_false_iff.mpr c28
 subst c28
 replace H := ifn Bool.false_ne_true H
 replace H := ibt H; obtain ⟨rfl, H⟩ | ⟨rfl, H⟩ := H
 rotate_left
 · have hr_ := Option.some.inj H
   clear H
   obtain ⟨hnb186, hnc186⟩ := nbo NB854_846
   obtain ⟨hnb187, hnc187⟩ := nbo NB854_862
   obtain ⟨_, _, _, _, _, _, _, _, _, _, _, _⟩ := cl6 BK854
   go_wp2
   go_ret
   exact ⟨congrArg (fun z => Ending.returned (.bool z)) (show (t847 == 0 && (!t848 && (t849 == 0 && t850.toList.isEmpty && (t851 == 0 && t852.toList.isEmpty)))) = true by simpa using hr_), below_later HB.out⟩
 have H' := am H; clear H
 try go_wp2
 replace HO_4 := rdr HO_4
 replace BK846 := bdr BK846
 replace BK854 := bdr BK854
 replace BK862 := bdr BK862
 replace HB := bld HB
 refine start_ (n := 9) (S := fun w' => w'.cell? ⟨gb854, 0, none⟩ = some (.int .i64 t847) ∧ w'.cell? ⟨gb854, 1, none⟩ = some (.bool t848) ∧ w'.cell? ⟨gb854, 2, none⟩ = some (.int .i64 t849) ∧ w'.cell? ⟨gb854, 3, none⟩ = some (.string t850) ∧ w'.cell? ⟨gb854, 4, none⟩ = some (.int .i64 t851) ∧ w'.cell? ⟨gb854, 5, none⟩ = some (.string t852)) (ds := []) #[false, false, false, false, false, false, false, false, false] (by kernel_rfl) rfl rfl ⟨bcl BK854 0, bcl BK854 1, bcl BK854 2, bcl BK854 3, bcl BK854 4, bcl BK854 5⟩ (fun hHeld => ?_); refine with_tabW laws_FnStats.tab10 laws_FnStats.bits10 (fun HT_ HW_ => ?_)
 generalize wc.drew = w30 at HO_4 BK846 BK854 BK862 HB hHeld ⊢
 refine pu_ 0 49 ?_; refine pu_ 3 52 ?_; refine pu_ 6 9 ?_; refine tk_ 1 50 hHeld ?_; refine pu_ 2 51 ?_; refine pu_ 7 10 ?_; refine tk_ 4 53 hHeld ?_; refine pu_ 5 54 ?_; refine pu_ 8 11 ?_
 refine done_ (done_of HT_.out (by kernel_rfl)) ?_
 try go_wp2
 go_loopg [9, 10, 11, 12] kj6 (fun kq v9 v10 v11 v12 w' => ∃ (x9_2 : Int) (x10_2 : Bool) (x11_2 : Bool) (x12_2 : Int), v9 = .int .i64 x9_2 ∧ v10 = .bool x10_2 ∧ v11 = .bool x11_2 ∧ v12 = .int .i64 x12_2 ∧ Aside0 (laws_FnStats.l0 kq t843 x9_2 x10_2 x11_2 x12_2 t840 t841 t842 t847 t848 t849 t850 t851 t852 = some true) ∧ Aside0 (kq ≤ kj6) ∧ Aside0 (Kd.R k36 36 w' w.heap.size (fun _ => True) (.slice Ao11 t843.length co11) t843) ∧ Aside0 (w'.heap[gb846]? = some (.cells #[.int .i64 t840, .int .i64 t841, .int .i64 t842] 25 (0, 0))) ∧ Aside0 (w'.heap[gb854]? = some (.cells #[.int .i64 t847, .bool t848, .int .i64 t849, .string t850, .int .i64 t851, .string t852] 32 (0, 0))) ∧ Aside0 (w'.heap[gb862]? = some (.cells #[.int .i64 t855, .bool t856, .int .i64 t857, .string t858, .int .i64 t859, .string t860] 32 (0, 0))) ∧ Aside0 (Below w.heap.size w w'))
 case atStart => exact ⟨(0), (!t848), (!t848), (0), sr, sr, sr, sr, H', ⟨Nat.le_refl _⟩, ⟨rL HO_4⟩, ⟨kL BK846⟩, ⟨kL BK854⟩, ⟨kL BK862⟩, ⟨bL HB⟩⟩
 clear H'
 try clear c3 c28 c29 hcz10_0 hcz10_1 hcz10_2 hcz15_0 hcz15_1 hcz15_2 hcz15_3 hcz15_4 hcz15_5 hcz16_0 hcz16_1 hcz16_2 hcz21_0 hcz21_1 hcz21_2 hcz21_3 hcz21_4 hcz21_5 hfz10_0 hfz10_1 hfz10_2 hfz15_0 hfz15_1 hfz15_2 hfz15_3 hfz15_4 hfz15_5 hfz16_0 hfz16_1 hfz16_2 hfz21_0 hfz21_1 hfz21_2 hfz21_3 hfz21_4 hfz21_5
 obtain ⟨x9_2, x10_2, x11_2, x12_2, rfl, rfl, rfl, rfl, HA, HK2, HO_4, BK846, BK854, BK862, HB⟩ := hrel
 cases gk with
 | zero => exact absurd HA.out (by simp [laws_FnStats.l0])
 | succ k2 => ?_
 have H := HA.out
 clear HA
 simp only [laws_FnStats.l0] at H
 replace H := idc H; obtain ⟨c31b0, H⟩ | ⟨c31b0, H⟩ := H
 rotate_left
 · replace H := bnd2 H; obtain ⟨t863, t866, A73, H⟩ := H; dsimp only at H
   replace H := bnd7 H; obtain ⟨t867, t868, t869, t870, t871, t872, t873, A74, H⟩ := H; dsimp only at H
   by_cases c75 : x9_2 = t847
   rotate_left
   · rw [if_neg c75] at H
     cases H
   rw [if_pos c75] at H
   have c75b0 : (x9_2 == t847) = true := beq_iff_eq.mpr c75
   have c75b1 : (x9_2 != t847) = false := bne_eq_false_iff_eq.mpr c75
   clear c75
   by_cases c76 : x10_2 = true
   rotate_left
   · replace c76 := Bool.eq_false_iff.mpr c76
     subst c76
     have H1 : (some false) = some true := by rw [if_neg (show ¬ (false = true) by decide)] at H; exact H
     cases H1
   subst c76
   replace H := ifp rfl H
   by_cases c77 : x11_2 = true
   rotate_left
   · replace c77 := Bool.eq_false_iff.mpr c77
     subst c77
     have H1 : (some false) = some true := by rw [if_neg (show ¬ (false = true) by decide)] at H; exact H
     cases H1
   subst c77
   replace H := ifp rfl H
   by_cases c78 : (t848 == (decide (x9_2 < (t843.length : Int)))) = true
   rotate_left
   · rw [if_neg c78] at H
     cases H
   rw [if_pos c78] at H
   have c78b0 : (t848 == (decide (x9_2 < (t843.length : Int)))) = true := c78
   (try (have c78b1 : decide (t848 = (decide (x9_2 < (t843.length : Int)))) = true := by simpa using c78))
   (try (have c78b2 : (t848 == (decide (x9_2 < (t843.length : Int)))) = true := by simpa using c78))
   clear c78
   by_cases c79 : t866 = true
   rotate_left
   · replace c79 := Bool.eq_false_iff.mpr c79
     subst c79
     have H1 : (some false) = some true := by rw [if_neg (show ¬ (false = true) by decide)] at H; exact H
     cases H1
   subst c79
   replace H := ifp rfl H
   by_cases c80 : t873 = true
   rotate_left
   · replace c80 := Bool.eq_false_iff.mpr c80
     subst c80
     have H1 : (some false) = some true := by rw [if_neg (show ¬ (false = true) by decide)] at H; exact H
     cases H1
   subst c80
   replace H := ifp rfl H
   have hr_ := Option.some.inj H
   clear H
   obtain ⟨hnb81, hnc81⟩ := nbo NB846_854
   obtain ⟨hnb82, hnc82⟩ := nbo NB846_862
   obtain ⟨_, _, _, _, _, _⟩ := cl3 BK846
   obtain ⟨hnb84, hnc84⟩ := nbo NB854_862
   obtain ⟨_, _, _, _, _, _, _, _, _, _, _, _⟩ := cl6 BK854
   go_wp2_with (first | ((with_reducible refine gc 9 rfl ?_); refine gc2 (some 118) Try.func9 rfl (impl_StatsTree.calls A73.out) ?_; rintro v864 w86 ⟨ho0, hb⟩; have HO865 := rlb ho0 HB; replace HO_4 := rbe HO_4 hb; replace BK846 := bkb BK846 hb; replace BK854 := bkb BK854 hb; replace BK862 := bkb BK862 hb; replace HB := bst HB hb; clear hb ho0; obtain ⟨_, _, _, _, _, _⟩ := cl3 BK846; obtain ⟨Ao88, co88, eo88⟩ := Kd.R_slice HO865.out; subst eo88) | ((with_reducible refine gc 10 rfl ?_); refine gc1 (some 124) Try.func10 rfl (impl_StatsFrom.calls (C_later (Kd.R_reads' HO865.out).2.2) ((Kd.R_reads' HO865.out).2.1) A74.out) ?_; rintro w89 hb; replace HO_4 := rbe HO_4 hb; replace HO865 := rbe HO865 hb; replace BK846 := bkb BK846 hb; replace BK854 := bkb BK854 hb; replace BK862 := bkb BK862 hb; replace HB := bst HB hb; clear hb) | ((with_reducible refine gd 15 rfl ?_); (try refine gg ?_; dsimp only); refine bxv 15 rfl #[.int .i64 0, .bool false, .int .i64 0, .string ⟨#[]⟩, .int .i64 0, .string ⟨#[]⟩] 32 HB ?_; clear HB; intro gb874 w90 BK874 GW874 GE874 HB hg hb; obtain ⟨NB846_874, NB874_846⟩ := nbp (nbl BK846 hg); obtain ⟨NB854_874, NB874_854⟩ := nbp (nbl BK854 hg); obtain ⟨NB862_874, NB874_862⟩ := nbp (nbl BK862 hg); replace HO_4 := rbe HO_4 hb; replace HO865 := rbe HO865 hb; replace BK846 := bkb BK846 hb; replace BK854 := bkb BK854 hb; replace BK862 := bkb BK862 hb; clear hg hb; obtain ⟨hnb91, hnc91⟩ := nbo NB874_846; obtain ⟨hnb92, hnc92⟩ := nbo NB874_854; obtain ⟨hnb93, hnc93⟩ := nbo NB874_862; obtain ⟨_, _, _, _, _, _, _, _, _, _, _, _⟩ := cl6 BK874; obtain ⟨_, _, _, _, _, _, _, _, _, _, _, _⟩ := cl6 BK854))
   go_ret
   exact fin_ (bL HB)
 by_cases c32 : 0 ≤ x12_2
 rotate_left
 · rw [if_neg c32] at H
   exact absurd H (by simp)
 rw [if_pos c32] at H
 have c32b0 := decide_eq_true c32
 clear c32
 replace H := idc H; obtain ⟨c33b0, H⟩ | ⟨c33b0, H⟩ := H
 · have H' := am H; clear H
   try go_wp2
   replace HO_4 := rdr HO_4
   replace BK846 := bdr BK846
   replace BK854 := bdr BK854
   replace BK862 := bdr BK862
   replace HB := bld HB
   have p875 : 0 ≤ (x12_2 : Int) := dcd
   have q875 : x12_2 < (t843.length : Int) := dcd
   obtain ⟨ad875, e875, hx875_0, hx875_1, hx875_2, hx875_3⟩ := at_T36 (Kd.R_reads' HO_4.out).2.2 x12_2 p875 q875
   cases e875
   replace p875 := eq_true p875
   replace q875 := eq_true q875
   refine start_ (n := 8) (S := fun w' => w'.cell? ⟨gb846, 0, none⟩ = some (.int .i64 t840) ∧ w'.cell? ⟨gb846, 1, none⟩ = some (.int .i64 t841) ∧ w'.cell? ⟨gb846, 2, none⟩ = some (.int .i64 t842) ∧ w'.cell? (ad875.add ((x12_2).toNat * 4)) = some (.int .i64 ((rd_T36 t843 x12_2).f0)) ∧ w'.cell? ⟨(ad875.add ((x12_2).toNat * 4)).block, (ad875.add ((x12_2).toNat * 4)).off + 1, none⟩ = some (.int .i64 ((rd_T36 t843 x12_2).f1)) ∧ w'.cell? ⟨(ad875.add ((x12_2).toNat * 4)).block, (ad875.add ((x12_2).toNat * 4)).off + 2, none⟩ = some (.int .i64 ((rd_T36 t843 x12_2).f2.f0)) ∧ w'.cell? ⟨(ad875.add ((x12_2).toNat * 4)).block, (ad875.add ((x12_2).toNat * 4)).off + 3, none⟩ = some (.string ((rd_T36 t843 x12_2).f2.f1))) (ds := []) #[false, false, false, false, false, false, false, false] (by kernel_rfl) rfl rfl ⟨bcl BK846 0, bcl BK846 1, bcl BK846 2, hx875_0, hx875_1, hx875_2, hx875_3⟩ (fun hHeld => ?_); refine with_tabW laws_FnStats.tab14 laws_FnStats.bits14 (fun HT_ HW_ => ?_)
   generalize wr.drew = w34 at HO_4 BK846 BK854 BK862 HB hx875_0 hx875_1 hx875_2 hx875_3 hHeld ⊢
   refine pu_ 0 61 ?_; refine pu_ 1 62 ?_; refine pu_ 2 63 ?_; refine pu_ 3 64 ?_; refine pu_ 5 66 ?_; refine tk_ 4 65 hHeld ?_; refine tk_ 6 67 hHeld ?_; refine pu_ 7 68 ?_
   refine done_ (done_of HT_.out (by kernel_rfl)) ?_
   try go_wp2
   go_roundg k2
   case measure => have := HJ6.out; have := HK2.out; omega
   case rel => exact ⟨(wrap64 (x9_2 + 1)), (x10_2), (x11_2), (wrap64 (x12_2 + 1)), sr, sr, sr, sr, H', ⟨by have := HJ6.out; have := HK2.out; omega⟩, ⟨rL HO_4⟩, ⟨kL BK846⟩, ⟨kL BK854⟩, ⟨kL BK862⟩, ⟨bL HB⟩⟩
 replace H := bnd H; obtain ⟨t877, A35, H⟩ := H
 by_cases c36 : t877 = true
 · subst c36
   have H1 : (some false) = some true := by rw [if_pos rfl] at H; exact H
   cases H1
 replace c36 := Bool.eq_false_iff.mpr c36
 subst c36
 replace H := ifn Bool.false_ne_true H
 replace H := bnd H; obtain ⟨t879, A40, H⟩ := H
 by_cases c41 : t879 = true
 · subst c41
   have H1 : (some false) = some true := by rw [if_pos rfl] at H; exact H
   cases H1
 replace c41 := Bool.eq_false_iff.mpr c41
 subst c41
 replace H := ifn Bool.false_ne_true H
 replace H := ibt H; obtain ⟨rfl, H⟩ | ⟨rfl, H⟩ := H
 · replace H := ibt H; obtain ⟨rfl, H⟩ | ⟨rfl, H⟩ := H
   · have H' := am H; clear H
     try go_wp2
     replace HO_4 := rdr HO_4
     replace BK846 := bdr BK846
     replace BK854 := bdr BK854
     replace BK862 := bdr BK862
     replace HB := bld HB
     have p875 : 0 ≤ (x12_2 : Int) := dcd
     have q875 : x12_2 < (t843.length : Int) := dcd
     obtain ⟨ad875, e875, hx875_0, hx875_1, hx875_2, hx875_3⟩ := at_T36 (Kd.R_reads' HO_4.out).2.2 x12_2 p875 q875
     cases e875
     replace p875 := eq_true p875
     replace q875 := eq_true q875
     refine start_ (n := 8) (S := fun w' => w'.cell? ⟨gb846, 0, none⟩ = some (.int .i64 t840) ∧ w'.cell? ⟨gb846, 1, none⟩ = some (.int .i64 t841) ∧ w'.cell? ⟨gb846, 2, none⟩ = some (.int .i64 t842) ∧ w'.cell? (ad875.add ((x12_2).toNat * 4)) = some (.int .i64 ((rd_T36 t843 x12_2).f0)) ∧ w'.cell? ⟨(ad875.add ((x12_2).toNat * 4)).block, (ad875.add ((x12_2).toNat * 4)).off + 1, none⟩ = some (.int .i64 ((rd_T36 t843 x12_2).f1)) ∧ w'.cell? ⟨(ad875.add ((x12_2).toNat * 4)).block, (ad875.add ((x12_2).toNat * 4)).off + 2, none⟩ = some (.int .i64 ((rd_T36 t843 x12_2).f2.f0)) ∧ w'.cell? ⟨(ad875.add ((x12_2).toNat * 4)).block, (ad875.add ((x12_2).toNat * 4)).off + 3, none⟩ = some (.string ((rd_T36 t843 x12_2).f2.f1))) (ds := []) #[false, false, false, false, false, false, false, false] (by kernel_rfl) rfl rfl ⟨bcl BK846 0, bcl BK846 1, bcl BK846 2, hx875_0, hx875_1, hx875_2, hx875_3⟩ (fun hHeld => ?_); refine with_tabW laws_FnStats.tab14 laws_FnStats.bits14 (fun HT_ HW_ => ?_)
     generalize wr.drew = w48 at HO_4 BK846 BK854 BK862 HB hx875_0 hx875_1 hx875_2 hx875_3 hHeld ⊢
     refine pu_ 0 61 ?_; refine pu_ 1 62 ?_; refine pu_ 2 63 ?_; refine pu_ 3 64 ?_; refine pu_ 5 66 ?_; refine tk_ 4 65 hHeld ?_; refine tk_ 6 67 hHeld ?_; refine pu_ 7 68 ?_
     refine done_ (done_of HT_.out (by kernel_rfl)) ?_
     try go_wp2
     replace HO_4 := rdr HO_4
     replace BK846 := bdr BK846
     replace BK854 := bdr BK854
     replace BK862 := bdr BK862
     replace HB := bld HB
     have p876 : 0 ≤ (x12_2 : Int) := dcd
     have q876 : x12_2 < (t843.length : Int) := dcd
     obtain ⟨ad876, e876, hx876_0, hx876_1, hx876_2, hx876_3⟩ := at_T36 (Kd.R_reads' HO_4.out).2.2 x12_2 p876 q876
     obtain rfl : ad875 = ad876 := (by injection e876)
     replace p876 := eq_true p876
     replace q876 := eq_true q876
     have p878 : 0 ≤ (x12_2 : Int) := dcd
     have q878 : x12_2 < (t843.length : Int) := dcd
     obtain ⟨ad878, e878, hx878_0, hx878_1, hx878_2, hx878_3⟩ := at_T36 (Kd.R_reads' HO_4.out).2.2 x12_2 p878 q878
     obtain rfl : ad875 = ad878 := (by injection e878)
     replace p878 := eq_true p878
     replace q878 := eq_true q878
     refine start_ (n := 22) (S := fun w' => w'.cell? ⟨gb846, 0, none⟩ = some (.int .i64 t840) ∧ w'.cell? ⟨gb846, 1, none⟩ = some (.int .i64 t841) ∧ w'.cell? ⟨gb846, 2, none⟩ = some (.int .i64 t842) ∧ w'.cell? ⟨gb854, 0, none⟩ = some (.int .i64 t847) ∧ w'.cell? ⟨gb854, 1, none⟩ = some (.bool t848) ∧ w'.cell? ⟨gb854, 2, none⟩ = some (.int .i64 t849) ∧ w'.cell? ⟨gb854, 3, none⟩ = some (.string t850) ∧ w'.cell? ⟨gb854, 4, none⟩ = some (.int .i64 t851) ∧ w'.cell? ⟨gb854, 5, none⟩ = some (.string t852) ∧ w'.cell? (ad875.add ((x12_2).toNat * 4)) = some (.int .i64 ((rd_T36 t843 x12_2).f0)) ∧ w'.cell? ⟨(ad875.add ((x12_2).toNat * 4)).block, (ad875.add ((x12_2).toNat * 4)).off + 1, none⟩ = some (.int .i64 ((rd_T36 t843 x12_2).f1)) ∧ w'.cell? ⟨(ad875.add ((x12_2).toNat * 4)).block, (ad875.add ((x12_2).toNat * 4)).off + 2, none⟩ = some (.int .i64 ((rd_T36 t843 x12_2).f2.f0)) ∧ w'.cell? ⟨(ad875.add ((x12_2).toNat * 4)).block, (ad875.add ((x12_2).toNat * 4)).off + 3, none⟩ = some (.string ((rd_T36 t843 x12_2).f2.f1)) ∧ w'.cell? (ad875.add ((x12_2).toNat * 4)) = some (.int .i64 ((rd_T36 t843 x12_2).f0)) ∧ w'.cell? ⟨(ad875.add ((x12_2).toNat * 4)).block, (ad875.add ((x12_2).toNat * 4)).off + 1, none⟩ = some (.int .i64 ((rd_T36 t843 x12_2).f1)) ∧ w'.cell? ⟨(ad875.add ((x12_2).toNat * 4)).block, (ad875.add ((x12_2).toNat * 4)).off + 2, none⟩ = some (.int .i64 ((rd_T36 t843 x12_2).f2.f0)) ∧ w'.cell? ⟨(ad875.add ((x12_2).toNat * 4)).block, (ad875.add ((x12_2).toNat * 4)).off + 3, none⟩ = some (.string ((rd_T36 t843 x12_2).f2.f1))) (ds := []) #[false, false, false, false, false, false, false, false, false, false, false, false, false, false, false, false, false, false, false, false, false, false] (by kernel_rfl) rfl rfl ⟨bcl BK846 0, bcl BK846 1, bcl BK846 2, bcl BK854 0, bcl BK854 1, bcl BK854 2, bcl BK854 3, bcl BK854 4, bcl BK854 5, hx876_0, hx876_1, hx876_2, hx876_3, hx878_0, hx878_1, hx878_2, hx878_3⟩ (fun hHeld => ?_); refine with_tabW laws_FnStats.tab16 laws_FnStats.bits16 (fun HT_ HW_ => ?_)
     generalize w48.drew = w49 at HO_4 BK846 BK854 BK862 HB hx876_0 hx876_1 hx876_2 hx876_3 hx878_0 hx878_1 hx878_2 hx878_3 hHeld ⊢
     refine pu_ 0 71 ?_; refine pu_ 2 73 ?_; refine pu_ 3 74 ?_; refine pu_ 4 75 ?_; refine pu_ 5 76 ?_; refine pu_ 7 78 ?_; refine tk_ 1 72 hHeld ?_; refine tk_ 6 77 hHeld ?_; refine tk_ 8 79 hHeld ?_
     refine on_ 9 80 (fun K hK => ?_)
     refine gs_ Try.func8 #[.int .i64 t840, .agg #[.int .i64 ((rd_T36 t843 x12_2).f2.f0), .string ((rd_T36 t843 x12_2).f2.f1)], .agg #[.int .i64 t849, .string t850]] rfl ?_
     with_reducible refine (impl_ValLess.calls A35.out).mono ?_
     rintro e w50 ⟨rfl, hb⟩
     have HS9_ := cbl hb hHeld.2.2.2.2.2.2.2.2.2.1
     have HS10_ := cbl hb hHeld.2.2.2.2.2.2.2.2.2.2.1
     have HS11_ := cbl hb hHeld.2.2.2.2.2.2.2.2.2.2.2.1
     have HS12_ := cbl hb hHeld.2.2.2.2.2.2.2.2.2.2.2.2.1
     have HS13_ := cbl hb hHeld.2.2.2.2.2.2.2.2.2.2.2.2.2.1
     have HS14_ := cbl hb hHeld.2.2.2.2.2.2.2.2.2.2.2.2.2.2.1
     have HS15_ := cbl hb hHeld.2.2.2.2.2.2.2.2.2.2.2.2.2.2.2.1
     have HS16_ := cbl hb hHeld.2.2.2.2.2.2.2.2.2.2.2.2.2.2.2.2
     refine ⟨_, rfl, ?_⟩
     replace HO_4 := rbe HO_4 hb
     replace BK846 := bkb BK846 hb
     replace BK854 := bkb BK854 hb
     replace BK862 := bkb BK862 hb
     replace HB := bst HB hb
     (try clear hb)
     (try clear hb2)
     (try clear hk)
     (try clear hi)
     refine hK.out _ _ ⟨bcl BK846 0, bcl BK846 1, bcl BK846 2, bcl BK854 0, bcl BK854 1, bcl BK854 2, bcl BK854 3, bcl BK854 4, bcl BK854 5, HS9_, HS10_, HS11_, HS12_, HS13_, HS14_, HS15_, HS16_⟩ (fun hHeld => ?_)
     clear hK K
     refine no_ (some 80) ?_; refine pu_ 10 81 ?_; refine pu_ 11 82 ?_; refine pu_ 13 84 ?_; refine pu_ 15 86 ?_; refine pu_ 16 87 ?_; refine pu_ 17 88 ?_; refine pu_ 18 89 ?_; refine tk_ 12 83 hHeld ?_; refine tk_ 14 85 hHeld ?_; refine tk_ 19 90 hHeld ?_
     refine on_ 20 91 (fun K hK => ?_)
     refine gs_ Try.func8 #[.int .i64 t840, .agg #[.int .i64 t851, .string t852], .agg #[.int .i64 ((rd_T36 t843 x12_2).f2.f0), .string ((rd_T36 t843 x12_2).f2.f1)]] rfl ?_
     with_reducible refine (impl_ValLess.calls A40.out).mono ?_
     rintro e w51 ⟨rfl, hb⟩
     have HS9_ := cbl hb hHeld.2.2.2.2.2.2.2.2.2.1
     have HS10_ := cbl hb hHeld.2.2.2.2.2.2.2.2.2.2.1
     have HS11_ := cbl hb hHeld.2.2.2.2.2.2.2.2.2.2.2.1
     have HS12_ := cbl hb hHeld.2.2.2.2.2.2.2.2.2.2.2.2.1
     have HS13_ := cbl hb hHeld.2.2.2.2.2.2.2.2.2.2.2.2.2.1
     have HS14_ := cbl hb hHeld.2.2.2.2.2.2.2.2.2.2.2.2.2.2.1
     have HS15_ := cbl hb hHeld.2.2.2.2.2.2.2.2.2.2.2.2.2.2.2.1
     have HS16_ := cbl hb hHeld.2.2.2.2.2.2.2.2.2.2.2.2.2.2.2.2
     refine ⟨_, rfl, ?_⟩
     replace HO_4 := rbe HO_4 hb
     replace BK846 := bkb BK846 hb
     replace BK854 := bkb BK854 hb
     replace BK862 := bkb BK862 hb
     replace HB := bst HB hb
     (try clear hb)
     (try clear hb2)
     (try clear hk)
     (try clear hi)
     refine hK.out _ _ ⟨bcl BK846 0, bcl BK846 1, bcl BK846 2, bcl BK854 0, bcl BK854 1, bcl BK854 2, bcl BK854 3, bcl BK854 4, bcl BK854 5, HS9_, HS10_, HS11_, HS12_, HS13_, HS14_, HS15_, HS16_⟩ (fun hHeld => ?_)
     clear hK K
     refine no_ (some 91) ?_; refine pu_ 21 92 ?_
     refine done_ (done_of HT_.out (by kernel_rfl)) ?_
     try go_wp2
     replace HO_4 := rdr HO_4
     replace BK846 := bdr BK846
     replace BK854 := bdr BK854
     replace BK862 := bdr BK862
     replace HB := bld HB
     refine start_ (n := 12) (S := fun w' => True) (ds := []) #[false, false, false, false, false, false, false, false, false, false, false, false] (by kernel_rfl) rfl rfl trivial (fun hHeld => ?_); refine with_tabW laws_FnStats.tab18 laws_FnStats.bits18 (fun HT_ HW_ => ?_)
     generalize w51.drew = w52 at HO_4 BK846 BK854 BK862 HB hHeld ⊢
     refine pu_ 0 93 ?_; refine pu_ 1 94 ?_; refine pn_ 2 95 ?_; refine pn_ 3 96 ?_; refine pn_ 4 97 ?_; refine pn_ 5 98 ?_; refine pn_ 6 99 ?_; refine pn_ 7 100 ?_; refine pn_ 8 101 ?_; refine pn_ 9 102 ?_; refine pu_ 10 103 ?_; refine pu_ 11 10 ?_
     refine done_ (done_of HT_.out (by kernel_rfl)) ?_
     try go_wp2
     replace HO_4 := rdr HO_4
     replace BK846 := bdr BK846
     replace BK854 := bdr BK854
     replace BK862 := bdr BK862
     replace HB := bld HB
     refine start_ (n := 12) (S := fun w' => True) (ds := []) #[false, false, false, false, false, false, false, false, false, false, false, false] (by kernel_rfl) rfl rfl trivial (fun hHeld => ?_); refine with_tabW laws_FnStats.tab19 laws_FnStats.bits19 (fun HT_ HW_ => ?_)
     generalize w52.drew = w53 at HO_4 BK846 BK854 BK862 HB hHeld ⊢
     refine pu_ 0 104 ?_; refine pu_ 1 105 ?_; refine pn_ 2 106 ?_; refine pn_ 3 107 ?_; refine pn_ 4 108 ?_; refine pn_ 5 109 ?_; refine pn_ 6 110 ?_; refine pn_ 7 111 ?_; refine pn_ 8 112 ?_; refine pn_ 9 113 ?_; refine pu_ 10 114 ?_; refine pu_ 11 11 ?_
     refine done_ (done_of HT_.out (by kernel_rfl)) ?_
     try go_wp2
     go_roundg k2
     case measure => have := HJ6.out; have := HK2.out; omega
     case rel => exact ⟨(x9_2), (true), (true), (wrap64 (x12_2 + 1)), sr, sr, sr, sr, H', ⟨by have := HJ6.out; have := HK2.out; omega⟩, ⟨rL HO_4⟩, ⟨kL BK846⟩, ⟨kL BK854⟩, ⟨kL BK862⟩, ⟨bL HB⟩⟩
   have H' := am H; clear H
   try go_wp2
   replace HO_4 := rdr HO_4
   replace BK846 := bdr BK846
   replace BK854 := bdr BK854
   replace BK862 := bdr BK862
   replace HB := bld HB
   have p875 : 0 ≤ (x12_2 : Int) := dcd
   have q875 : x12_2 < (t843.length : Int) := dcd
   obtain ⟨ad875, e875, hx875_0, hx875_1, hx875_2, hx875_3⟩ := at_T36 (Kd.R_reads' HO_4.out).2.2 x12_2 p875 q875
   cases e875
   replace p875 := eq_true p875
   replace q875 := eq_true q875
   refine start_ (n := 8) (S := fun w' => w'.cell? ⟨gb846, 0, none⟩ = some (.int .i64 t840) ∧ w'.cell? ⟨gb846, 1, none⟩ = some (.int .i64 t841) ∧ w'.cell? ⟨gb846, 2, none⟩ = some (.int .i64 t842) ∧ w'.cell? (ad875.add ((x12_2).toNat * 4)) = some (.int .i64 ((rd_T36 t843 x12_2).f0)) ∧ w'.cell? ⟨(ad875.add ((x12_2).toNat * 4)).block, (ad875.add ((x12_2).toNat * 4)).off + 1, none⟩ = some (.int .i64 ((rd_T36 t843 x12_2).f1)) ∧ w'.cell? ⟨(ad875.add ((x12_2).toNat * 4)).block, (ad875.add ((x12_2).toNat * 4)).off + 2, none⟩ = some (.int .i64 ((rd_T36 t843 x12_2).f2.f0)) ∧ w'.cell? ⟨(ad875.add ((x12_2).toNat * 4)).block, (ad875.add ((x12_2).toNat * 4)).off + 3, none⟩ = some (.string ((rd_T36 t843 x12_2).f2.f1))) (ds := []) #[false, false, false, false, false, false, false, false] (by kernel_rfl) rfl rfl ⟨bcl BK846 0, bcl BK846 1, bcl BK846 2, hx875_0, hx875_1, hx875_2, hx875_3⟩ (fun hHeld => ?_); refine with_tabW laws_FnStats.tab14 laws_FnStats.bits14 (fun HT_ HW_ => ?_)
   generalize wr.drew = w54 at HO_4 BK846 BK854 BK862 HB hx875_0 hx875_1 hx875_2 hx875_3 hHeld ⊢
   refine pu_ 0 61 ?_; refine pu_ 1 62 ?_; refine pu_ 2 63 ?_; refine pu_ 3 64 ?_; refine pu_ 5 66 ?_; refine tk_ 4 65 hHeld ?_; refine tk_ 6 67 hHeld ?_; refine pu_ 7 68 ?_
   refine done_ (done_of HT_.out (by kernel_rfl)) ?_
   try go_wp2
   replace HO_4 := rdr HO_4
   replace BK846 := bdr BK846
   replace BK854 := bdr BK854
   replace BK862 := bdr BK862
   replace HB := bld HB
   have p876 : 0 ≤ (x12_2 : Int) := dcd
   have q876 : x12_2 < (t843.length : Int) := dcd
   obtain ⟨ad876, e876, hx876_0, hx876_1, hx876_2, hx876_3⟩ := at_T36 (Kd.R_reads' HO_4.out).2.2 x12_2 p876 q876
   obtain rfl : ad875 = ad876 := (by injection e876)
   replace p876 := eq_true p876
   replace q876 := eq_true q876
   have p878 : 0 ≤ (x12_2 : Int) := dcd
   have q878 : x12_2 < (t843.length : Int) := dcd
   obtain ⟨ad878, e878, hx878_0, hx878_1, hx878_2, hx878_3⟩ := at_T36 (Kd.R_reads' HO_4.out).2.2 x12_2 p878 q878
   obtain rfl : ad875 = ad878 := (by injection e878)
   replace p878 := eq_true p878
   replace q878 := eq_true q878
   refine start_ (n := 22) (S := fun w' => w'.cell? ⟨gb846, 0, none⟩ = some (.int .i64 t840) ∧ w'.cell? ⟨gb846, 1, none⟩ = some (.int .i64 t841) ∧ w'.cell? ⟨gb846, 2, none⟩ = some (.int .i64 t842) ∧ w'.cell? ⟨gb854, 0, none⟩ = some (.int .i64 t847) ∧ w'.cell? ⟨gb854, 1, none⟩ = some (.bool t848) ∧ w'.cell? ⟨gb854, 2, none⟩ = some (.int .i64 t849) ∧ w'.cell? ⟨gb854, 3, none⟩ = some (.string t850) ∧ w'.cell? ⟨gb854, 4, none⟩ = some (.int .i64 t851) ∧ w'.cell? ⟨gb854, 5, none⟩ = some (.string t852) ∧ w'.cell? (ad875.add ((x12_2).toNat * 4)) = some (.int .i64 ((rd_T36 t843 x12_2).f0)) ∧ w'.cell? ⟨(ad875.add ((x12_2).toNat * 4)).block, (ad875.add ((x12_2).toNat * 4)).off + 1, none⟩ = some (.int .i64 ((rd_T36 t843 x12_2).f1)) ∧ w'.cell? ⟨(ad875.add ((x12_2).toNat * 4)).block, (ad875.add ((x12_2).toNat * 4)).off + 2, none⟩ = some (.int .i64 ((rd_T36 t843 x12_2).f2.f0)) ∧ w'.cell? ⟨(ad875.add ((x12_2).toNat * 4)).block, (ad875.add ((x12_2).toNat * 4)).off + 3, none⟩ = some (.string ((rd_T36 t843 x12_2).f2.f1)) ∧ w'.cell? (ad875.add ((x12_2).toNat * 4)) = some (.int .i64 ((rd_T36 t843 x12_2).f0)) ∧ w'.cell? ⟨(ad875.add ((x12_2).toNat * 4)).block, (ad875.add ((x12_2).toNat * 4)).off + 1, none⟩ = some (.int .i64 ((rd_T36 t843 x12_2).f1)) ∧ w'.cell? ⟨(ad875.add ((x12_2).toNat * 4)).block, (ad875.add ((x12_2).toNat * 4)).off + 2, none⟩ = some (.int .i64 ((rd_T36 t843 x12_2).f2.f0)) ∧ w'.cell? ⟨(ad875.add ((x12_2).toNat * 4)).block, (ad875.add ((x12_2).toNat * 4)).off + 3, none⟩ = some (.string ((rd_T36 t843 x12_2).f2.f1))) (ds := []) #[false, false, false, false, false, false, false, false, false, false, false, false, false, false, false, false, false, false, false, false, false, false] (by kernel_rfl) rfl rfl ⟨bcl BK846 0, bcl BK846 1, bcl BK846 2, bcl BK854 0, bcl BK854 1, bcl BK854 2, bcl BK854 3, bcl BK854 4, bcl BK854 5, hx876_0, hx876_1, hx876_2, hx876_3, hx878_0, hx878_1, hx878_2, hx878_3⟩ (fun hHeld => ?_); refine with_tabW laws_FnStats.tab16 laws_FnStats.bits16 (fun HT_ HW_ => ?_)
   generalize w54.drew = w55 at HO_4 BK846 BK854 BK862 HB hx876_0 hx876_1 hx876_2 hx876_3 hx878_0 hx878_1 hx878_2 hx878_3 hHeld ⊢
   refine pu_ 0 71 ?_; refine pu_ 2 73 ?_; refine pu_ 3 74 ?_; refine pu_ 4 75 ?_; refine pu_ 5 76 ?_; refine pu_ 7 78 ?_; refine tk_ 1 72 hHeld ?_; refine tk_ 6 77 hHeld ?_; refine tk_ 8 79 hHeld ?_
   refine on_ 9 80 (fun K hK => ?_)
   refine gs_ Try.func8 #[.int .i64 t840, .agg #[.int .i64 ((rd_T36 t843 x12_2).f2.f0), .string ((rd_T36 t843 x12_2).f2.f1)], .agg #[.int .i64 t849, .string t850]] rfl ?_
   with_reducible refine (impl_ValLess.calls A35.out).mono ?_
   rintro e w56 ⟨rfl, hb⟩
   have HS9_ := cbl hb hHeld.2.2.2.2.2.2.2.2.2.1
   have HS10_ := cbl hb hHeld.2.2.2.2.2.2.2.2.2.2.1
   have HS11_ := cbl hb hHeld.2.2.2.2.2.2.2.2.2.2.2.1
   have HS12_ := cbl hb hHeld.2.2.2.2.2.2.2.2.2.2.2.2.1
   have HS13_ := cbl hb hHeld.2.2.2.2.2.2.2.2.2.2.2.2.2.1
   have HS14_ := cbl hb hHeld.2.2.2.2.2.2.2.2.2.2.2.2.2.2.1
   have HS15_ := cbl hb hHeld.2.2.2.2.2.2.2.2.2.2.2.2.2.2.2.1
   have HS16_ := cbl hb hHeld.2.2.2.2.2.2.2.2.2.2.2.2.2.2.2.2
   refine ⟨_, rfl, ?_⟩
   replace HO_4 := rbe HO_4 hb
   replace BK846 := bkb BK846 hb
   replace BK854 := bkb BK854 hb
   replace BK862 := bkb BK862 hb
   replace HB := bst HB hb
   (try clear hb)
   (try clear hb2)
   (try clear hk)
   (try clear hi)
   refine hK.out _ _ ⟨bcl BK846 0, bcl BK846 1, bcl BK846 2, bcl BK854 0, bcl BK854 1, bcl BK854 2, bcl BK854 3, bcl BK854 4, bcl BK854 5, HS9_, HS10_, HS11_, HS12_, HS13_, HS14_, HS15_, HS16_⟩ (fun hHeld => ?_)
   clear hK K
   refine no_ (some 80) ?_; refine pu_ 10 81 ?_; refine pu_ 11 82 ?_; refine pu_ 13 84 ?_; refine pu_ 15 86 ?_; refine pu_ 16 87 ?_; refine pu_ 17 88 ?_; refine pu_ 18 89 ?_; refine tk_ 12 83 hHeld ?_; refine tk_ 14 85 hHeld ?_; refine tk_ 19 90 hHeld ?_
   refine on_ 20 91 (fun K hK => ?_)
   refine gs_ Try.func8 #[.int .i64 t840, .agg #[.int .i64 t851, .string t852], .agg #[.int .i64 ((rd_T36 t843 x12_2).f2.f0), .string ((rd_T36 t843 x12_2).f2.f1)]] rfl ?_
   with_reducible refine (impl_ValLess.calls A40.out).mono ?_
   rintro e w57 ⟨rfl, hb⟩
   have HS9_ := cbl hb hHeld.2.2.2.2.2.2.2.2.2.1
   have HS10_ := cbl hb hHeld.2.2.2.2.2.2.2.2.2.2.1
   have HS11_ := cbl hb hHeld.2.2.2.2.2.2.2.2.2.2.2.1
   have HS12_ := cbl hb hHeld.2.2.2.2.2.2.2.2.2.2.2.2.1
   have HS13_ := cbl hb hHeld.2.2.2.2.2.2.2.2.2.2.2.2.2.1
   have HS14_ := cbl hb hHeld.2.2.2.2.2.2.2.2.2.2.2.2.2.2.1
   have HS15_ := cbl hb hHeld.2.2.2.2.2.2.2.2.2.2.2.2.2.2.2.1
   have HS16_ := cbl hb hHeld.2.2.2.2.2.2.2.2.2.2.2.2.2.2.2.2
   refine ⟨_, rfl, ?_⟩
   replace HO_4 := rbe HO_4 hb
   replace BK846 := bkb BK846 hb
   replace BK854 := bkb BK854 hb
   replace BK862 := bkb BK862 hb
   replace HB := bst HB hb
   (try clear hb)
   (try clear hb2)
   (try clear hk)
   (try clear hi)
   refine hK.out _ _ ⟨bcl BK846 0, bcl BK846 1, bcl BK846 2, bcl BK854 0, bcl BK854 1, bcl BK854 2, bcl BK854 3, bcl BK854 4, bcl BK854 5, HS9_, HS10_, HS11_, HS12_, HS13_, HS14_, HS15_, HS16_⟩ (fun hHeld => ?_)
   clear hK K
   refine no_ (some 91) ?_; refine pu_ 21 92 ?_
   refine done_ (done_of HT_.out (by kernel_rfl)) ?_
   try go_wp2
   replace HO_4 := rdr HO_4
   replace BK846 := bdr BK846
   replace BK854 := bdr BK854
   replace BK862 := bdr BK862
   replace HB := bld HB
   refine start_ (n := 12) (S := fun w' => True) (ds := []) #[false, false, false, false, false, false, false, false, false, false, false, false] (by kernel_rfl) rfl rfl trivial (fun hHeld => ?_); refine with_tabW laws_FnStats.tab18 laws_FnStats.bits18 (fun HT_ HW_ => ?_)
   generalize w57.drew = w58 at HO_4 BK846 BK854 BK862 HB hHeld ⊢
   refine pu_ 0 93 ?_; refine pu_ 1 94 ?_; refine pn_ 2 95 ?_; refine pn_ 3 96 ?_; refine pn_ 4 97 ?_; refine pn_ 5 98 ?_; refine pn_ 6 99 ?_; refine pn_ 7 100 ?_; refine pn_ 8 101 ?_; refine pn_ 9 102 ?_; refine pu_ 10 103 ?_; refine pu_ 11 10 ?_
   refine done_ (done_of HT_.out (by kernel_rfl)) ?_
   try go_wp2
   replace HO_4 := rdr HO_4
   replace BK846 := bdr BK846
   replace BK854 := bdr BK854
   replace BK862 := bdr BK862
   replace HB := bld HB
   have p880 : 0 ≤ (x12_2 : Int) := dcd
   have q880 : x12_2 < (t843.length : Int) := dcd
   obtain ⟨ad880, e880, hx880_0, hx880_1, hx880_2, hx880_3⟩ := at_T36 (Kd.R_reads' HO_4.out).2.2 x12_2 p880 q880
   obtain rfl : ad875 = ad880 := (by injection e880)
   replace p880 := eq_true p880
   replace q880 := eq_true q880
   refine start_ (n := 12) (S := fun w' => w'.cell? ⟨gb854, 0, none⟩ = some (.int .i64 t847) ∧ w'.cell? ⟨gb854, 1, none⟩ = some (.bool t848) ∧ w'.cell? ⟨gb854, 2, none⟩ = some (.int .i64 t849) ∧ w'.cell? ⟨gb854, 3, none⟩ = some (.string t850) ∧ w'.cell? ⟨gb854, 4, none⟩ = some (.int .i64 t851) ∧ w'.cell? ⟨gb854, 5, none⟩ = some (.string t852) ∧ w'.cell? (ad875.add ((x12_2).toNat * 4)) = some (.int .i64 ((rd_T36 t843 x12_2).f0)) ∧ w'.cell? ⟨(ad875.add ((x12_2).toNat * 4)).block, (ad875.add ((x12_2).toNat * 4)).off + 1, none⟩ = some (.int .i64 ((rd_T36 t843 x12_2).f1)) ∧ w'.cell? ⟨(ad875.add ((x12_2).toNat * 4)).block, (ad875.add ((x12_2).toNat * 4)).off + 2, none⟩ = some (.int .i64 ((rd_T36 t843 x12_2).f2.f0)) ∧ w'.cell? ⟨(ad875.add ((x12_2).toNat * 4)).block, (ad875.add ((x12_2).toNat * 4)).off + 3, none⟩ = some (.string ((rd_T36 t843 x12_2).f2.f1))) (ds := []) #[false, false, false, false, false, false, false, false, false, false, false, false] (by kernel_rfl) rfl rfl ⟨bcl BK854 0, bcl BK854 1, bcl BK854 2, bcl BK854 3, bcl BK854 4, bcl BK854 5, hx880_0, hx880_1, hx880_2, hx880_3⟩ (fun hHeld => ?_); refine with_tabW laws_FnStats.tab19 laws_FnStats.bits19 (fun HT_ HW_ => ?_)
   generalize w58.drew = w59 at HO_4 BK846 BK854 BK862 HB hx880_0 hx880_1 hx880_2 hx880_3 hHeld ⊢
   refine pu_ 0 104 ?_; refine pu_ 1 105 ?_; refine pu_ 2 106 ?_; refine pu_ 3 107 ?_; refine pu_ 4 108 ?_; refine pu_ 5 109 ?_; refine pu_ 7 111 ?_; refine tk_ 6 110 hHeld ?_; refine tk_ 8 112 hHeld ?_; refine pu_ 9 113 ?_; refine pu_ 10 114 ?_; refine pu_ 11 11 ?_
   refine done_ (done_of HT_.out (by kernel_rfl)) ?_
   try go_wp2
   go_roundg k2
   case measure => have := HJ6.out; have := HK2.out; omega
   case rel => exact ⟨(x9_2), (true), ((((rd_T36 t843 x12_2).f2.f0) == t851 && ((((rd_T36 t843 x12_2).f2.f1).toList) == t852.toList))), (wrap64 (x12_2 + 1)), sr, sr, sr, sr, H', ⟨by have := HJ6.out; have := HK2.out; omega⟩, ⟨rL HO_4⟩, ⟨kL BK846⟩, ⟨kL BK854⟩, ⟨kL BK862⟩, ⟨bL HB⟩⟩
 replace H := ibt H; obtain ⟨rfl, H⟩ | ⟨rfl, H⟩ := H
 · have H' := am H; clear H
   try go_wp2
   replace HO_4 := rdr HO_4
   replace BK846 := bdr BK846
   replace BK854 := bdr BK854
   replace BK862 := bdr BK862
   replace HB := bld HB
   have p875 : 0 ≤ (x12_2 : Int) := dcd
   have q875 : x12_2 < (t843.length : Int) := dcd
   obtain ⟨ad875, e875, hx875_0, hx875_1, hx875_2, hx875_3⟩ := at_T36 (Kd.R_reads' HO_4.out).2.2 x12_2 p875 q875
   cases e875
   replace p875 := eq_true p875
   replace q875 := eq_true q875
   refine start_ (n := 8) (S := fun w' => w'.cell? ⟨gb846, 0, none⟩ = some (.int .i64 t840) ∧ w'.cell? ⟨gb846, 1, none⟩ = some (.int .i64 t841) ∧ w'.cell? ⟨gb846, 2, none⟩ = some (.int .i64 t842) ∧ w'.cell? (ad875.add ((x12_2).toNat * 4)) = some (.int .i64 ((rd_T36 t843 x12_2).f0)) ∧ w'.cell? ⟨(ad875.add ((x12_2).toNat * 4)).block, (ad875.add ((x12_2).toNat * 4)).off + 1, none⟩ = some (.int .i64 ((rd_T36 t843 x12_2).f1)) ∧ w'.cell? ⟨(ad875.add ((x12_2).toNat * 4)).block, (ad875.add ((x12_2).toNat * 4)).off + 2, none⟩ = some (.int .i64 ((rd_T36 t843 x12_2).f2.f0)) ∧ w'.cell? ⟨(ad875.add ((x12_2).toNat * 4)).block, (ad875.add ((x12_2).toNat * 4)).off + 3, none⟩ = some (.string ((rd_T36 t843 x12_2).f2.f1))) (ds := []) #[false, false, false, false, false, false, false, false] (by kernel_rfl) rfl rfl ⟨bcl BK846 0, bcl BK846 1, bcl BK846 2, hx875_0, hx875_1, hx875_2, hx875_3⟩ (fun hHeld => ?_); refine with_tabW laws_FnStats.tab14 laws_FnStats.bits14 (fun HT_ HW_ => ?_)
   generalize wr.drew = w61 at HO_4 BK846 BK854 BK862 HB hx875_0 hx875_1 hx875_2 hx875_3 hHeld ⊢
   refine pu_ 0 61 ?_; refine pu_ 1 62 ?_; refine pu_ 2 63 ?_; refine pu_ 3 64 ?_; refine pu_ 5 66 ?_; refine tk_ 4 65 hHeld ?_; refine tk_ 6 67 hHeld ?_; refine pu_ 7 68 ?_
   refine done_ (done_of HT_.out (by kernel_rfl)) ?_
   try go_wp2
   replace HO_4 := rdr HO_4
   replace BK846 := bdr BK846
   replace BK854 := bdr BK854
   replace BK862 := bdr BK862
   replace HB := bld HB
   have p876 : 0 ≤ (x12_2 : Int) := dcd
   have q876 : x12_2 < (t843.length : Int) := dcd
   obtain ⟨ad876, e876, hx876_0, hx876_1, hx876_2, hx876_3⟩ := at_T36 (Kd.R_reads' HO_4.out).2.2 x12_2 p876 q876
   obtain rfl : ad875 = ad876 := (by injection e876)
   replace p876 := eq_true p876
   replace q876 := eq_true q876
   have p878 : 0 ≤ (x12_2 : Int) := dcd
   have q878 : x12_2 < (t843.length : Int) := dcd
   obtain ⟨ad878, e878, hx878_0, hx878_1, hx878_2, hx878_3⟩ := at_T36 (Kd.R_reads' HO_4.out).2.2 x12_2 p878 q878
   obtain rfl : ad875 = ad878 := (by injection e878)
   replace p878 := eq_true p878
   replace q878 := eq_true q878
   refine start_ (n := 22) (S := fun w' => w'.cell? ⟨gb846, 0, none⟩ = some (.int .i64 t840) ∧ w'.cell? ⟨gb846, 1, none⟩ = some (.int .i64 t841) ∧ w'.cell? ⟨gb846, 2, none⟩ = some (.int .i64 t842) ∧ w'.cell? ⟨gb854, 0, none⟩ = some (.int .i64 t847) ∧ w'.cell? ⟨gb854, 1, none⟩ = some (.bool t848) ∧ w'.cell? ⟨gb854, 2, none⟩ = some (.int .i64 t849) ∧ w'.cell? ⟨gb854, 3, none⟩ = some (.string t850) ∧ w'.cell? ⟨gb854, 4, none⟩ = some (.int .i64 t851) ∧ w'.cell? ⟨gb854, 5, none⟩ = some (.string t852) ∧ w'.cell? (ad875.add ((x12_2).toNat * 4)) = some (.int .i64 ((rd_T36 t843 x12_2).f0)) ∧ w'.cell? ⟨(ad875.add ((x12_2).toNat * 4)).block, (ad875.add ((x12_2).toNat * 4)).off + 1, none⟩ = some (.int .i64 ((rd_T36 t843 x12_2).f1)) ∧ w'.cell? ⟨(ad875.add ((x12_2).toNat * 4)).block, (ad875.add ((x12_2).toNat * 4)).off + 2, none⟩ = some (.int .i64 ((rd_T36 t843 x12_2).f2.f0)) ∧ w'.cell? ⟨(ad875.add ((x12_2).toNat * 4)).block, (ad875.add ((x12_2).toNat * 4)).off + 3, none⟩ = some (.string ((rd_T36 t843 x12_2).f2.f1)) ∧ w'.cell? (ad875.add ((x12_2).toNat * 4)) = some (.int .i64 ((rd_T36 t843 x12_2).f0)) ∧ w'.cell? ⟨(ad875.add ((x12_2).toNat * 4)).block, (ad875.add ((x12_2).toNat * 4)).off + 1, none⟩ = some (.int .i64 ((rd_T36 t843 x12_2).f1)) ∧ w'.cell? ⟨(ad875.add ((x12_2).toNat * 4)).block, (ad875.add ((x12_2).toNat * 4)).off + 2, none⟩ = some (.int .i64 ((rd_T36 t843 x12_2).f2.f0)) ∧ w'.cell? ⟨(ad875.add ((x12_2).toNat * 4)).block, (ad875.add ((x12_2).toNat * 4)).off + 3, none⟩ = some (.string ((rd_T36 t843 x12_2).f2.f1))) (ds := []) #[false, false, false, false, false, false, false, false, false, false, false, false, false, false, false, false, false, false, false, false, false, false] (by kernel_rfl) rfl rfl ⟨bcl BK846 0, bcl BK846 1, bcl BK846 2, bcl BK854 0, bcl BK854 1, bcl BK854 2, bcl BK854 3, bcl BK854 4, bcl BK854 5, hx876_0, hx876_1, hx876_2, hx876_3, hx878_0, hx878_1, hx878_2, hx878_3⟩ (fun hHeld => ?_); refine with_tabW laws_FnStats.tab16 laws_FnStats.bits16 (fun HT_ HW_ => ?_)
   generalize w61.drew = w62 at HO_4 BK846 BK854 BK862 HB hx876_0 hx876_1 hx876_2 hx876_3 hx878_0 hx878_1 hx878_2 hx878_3 hHeld ⊢
   refine pu_ 0 71 ?_; refine pu_ 2 73 ?_; refine pu_ 3 74 ?_; refine pu_ 4 75 ?_; refine pu_ 5 76 ?_; refine pu_ 7 78 ?_; refine tk_ 1 72 hHeld ?_; refine tk_ 6 77 hHeld ?_; refine tk_ 8 79 hHeld ?_
   refine on_ 9 80 (fun K hK => ?_)
   refine gs_ Try.func8 #[.int .i64 t840, .agg #[.int .i64 ((rd_T36 t843 x12_2).f2.f0), .string ((rd_T36 t843 x12_2).f2.f1)], .agg #[.int .i64 t849, .string t850]] rfl ?_
   with_reducible refine (impl_ValLess.calls A35.out).mono ?_
   rintro e w63 ⟨rfl, hb⟩
   have HS9_ := cbl hb hHeld.2.2.2.2.2.2.2.2.2.1
   have HS10_ := cbl hb hHeld.2.2.2.2.2.2.2.2.2.2.1
   have HS11_ := cbl hb hHeld.2.2.2.2.2.2.2.2.2.2.2.1
   have HS12_ := cbl hb hHeld.2.2.2.2.2.2.2.2.2.2.2.2.1
   have HS13_ := cbl hb hHeld.2.2.2.2.2.2.2.2.2.2.2.2.2.1
   have HS14_ := cbl hb hHeld.2.2.2.2.2.2.2.2.2.2.2.2.2.2.1
   have HS15_ := cbl hb hHeld.2.2.2.2.2.2.2.2.2.2.2.2.2.2.2.1
   have HS16_ := cbl hb hHeld.2.2.2.2.2.2.2.2.2.2.2.2.2.2.2.2
   refine ⟨_, rfl, ?_⟩
   replace HO_4 := rbe HO_4 hb
   replace BK846 := bkb BK846 hb
   replace BK854 := bkb BK854 hb
   replace BK862 := bkb BK862 hb
   replace HB := bst HB hb
   (try clear hb)
   (try clear hb2)
   (try clear hk)
   (try clear hi)
   refine hK.out _ _ ⟨bcl BK846 0, bcl BK846 1, bcl BK846 2, bcl BK854 0, bcl BK854 1, bcl BK854 2, bcl BK854 3, bcl BK854 4, bcl BK854 5, HS9_, HS10_, HS11_, HS12_, HS13_, HS14_, HS15_, HS16_⟩ (fun hHeld => ?_)
   clear hK K
   refine no_ (some 80) ?_; refine pu_ 10 81 ?_; refine pu_ 11 82 ?_; refine pu_ 13 84 ?_; refine pu_ 15 86 ?_; refine pu_ 16 87 ?_; refine pu_ 17 88 ?_; refine pu_ 18 89 ?_; refine tk_ 12 83 hHeld ?_; refine tk_ 14 85 hHeld ?_; refine tk_ 19 90 hHeld ?_
   refine on_ 20 91 (fun K hK => ?_)
   refine gs_ Try.func8 #[.int .i64 t840, .agg #[.int .i64 t851, .string t852], .agg #[.int .i64 ((rd_T36 t843 x12_2).f2.f0), .string ((rd_T36 t843 x12_2).f2.f1)]] rfl ?_
   with_reducible refine (impl_ValLess.calls A40.out).mono ?_
   rintro e w64 ⟨rfl, hb⟩
   have HS9_ := cbl hb hHeld.2.2.2.2.2.2.2.2.2.1
   have HS10_ := cbl hb hHeld.2.2.2.2.2.2.2.2.2.2.1
   have HS11_ := cbl hb hHeld.2.2.2.2.2.2.2.2.2.2.2.1
   have HS12_ := cbl hb hHeld.2.2.2.2.2.2.2.2.2.2.2.2.1
   have HS13_ := cbl hb hHeld.2.2.2.2.2.2.2.2.2.2.2.2.2.1
   have HS14_ := cbl hb hHeld.2.2.2.2.2.2.2.2.2.2.2.2.2.2.1
   have HS15_ := cbl hb hHeld.2.2.2.2.2.2.2.2.2.2.2.2.2.2.2.1
   have HS16_ := cbl hb hHeld.2.2.2.2.2.2.2.2.2.2.2.2.2.2.2.2
   refine ⟨_, rfl, ?_⟩
   replace HO_4 := rbe HO_4 hb
   replace BK846 := bkb BK846 hb
   replace BK854 := bkb BK854 hb
   replace BK862 := bkb BK862 hb
   replace HB := bst HB hb
   (try clear hb)
   (try clear hb2)
   (try clear hk)
   (try clear hi)
   refine hK.out _ _ ⟨bcl BK846 0, bcl BK846 1, bcl BK846 2, bcl BK854 0, bcl BK854 1, bcl BK854 2, bcl BK854 3, bcl BK854 4, bcl BK854 5, HS9_, HS10_, HS11_, HS12_, HS13_, HS14_, HS15_, HS16_⟩ (fun hHeld => ?_)
   clear hK K
   refine no_ (some 91) ?_; refine pu_ 21 92 ?_
   refine done_ (done_of HT_.out (by kernel_rfl)) ?_
   try go_wp2
   replace HO_4 := rdr HO_4
   replace BK846 := bdr BK846
   replace BK854 := bdr BK854
   replace BK862 := bdr BK862
   replace HB := bld HB
   have p881 : 0 ≤ (x12_2 : Int) := dcd
   have q881 : x12_2 < (t843.length : Int) := dcd
   obtain ⟨ad881, e881, hx881_0, hx881_1, hx881_2, hx881_3⟩ := at_T36 (Kd.R_reads' HO_4.out).2.2 x12_2 p881 q881
   obtain rfl : ad875 = ad881 := (by injection e881)
   replace p881 := eq_true p881
   replace q881 := eq_true q881
   refine start_ (n := 12) (S := fun w' => w'.cell? ⟨gb854, 0, none⟩ = some (.int .i64 t847) ∧ w'.cell? ⟨gb854, 1, none⟩ = some (.bool t848) ∧ w'.cell? ⟨gb854, 2, none⟩ = some (.int .i64 t849) ∧ w'.cell? ⟨gb854, 3, none⟩ = some (.string t850) ∧ w'.cell? ⟨gb854, 4, none⟩ = some (.int .i64 t851) ∧ w'.cell? ⟨gb854, 5, none⟩ = some (.string t852) ∧ w'.cell? (ad875.add ((x12_2).toNat * 4)) = some (.int .i64 ((rd_T36 t843 x12_2).f0)) ∧ w'.cell? ⟨(ad875.add ((x12_2).toNat * 4)).block, (ad875.add ((x12_2).toNat * 4)).off + 1, none⟩ = some (.int .i64 ((rd_T36 t843 x12_2).f1)) ∧ w'.cell? ⟨(ad875.add ((x12_2).toNat * 4)).block, (ad875.add ((x12_2).toNat * 4)).off + 2, none⟩ = some (.int .i64 ((rd_T36 t843 x12_2).f2.f0)) ∧ w'.cell? ⟨(ad875.add ((x12_2).toNat * 4)).block, (ad875.add ((x12_2).toNat * 4)).off + 3, none⟩ = some (.string ((rd_T36 t843 x12_2).f2.f1))) (ds := []) #[false, false, false, false, false, false, false, false, false, false, false, false] (by kernel_rfl) rfl rfl ⟨bcl BK854 0, bcl BK854 1, bcl BK854 2, bcl BK854 3, bcl BK854 4, bcl BK854 5, hx881_0, hx881_1, hx881_2, hx881_3⟩ (fun hHeld => ?_); refine with_tabW laws_FnStats.tab18 laws_FnStats.bits18 (fun HT_ HW_ => ?_)
   generalize w64.drew = w65 at HO_4 BK846 BK854 BK862 HB hx881_0 hx881_1 hx881_2 hx881_3 hHeld ⊢
   refine pu_ 0 93 ?_; refine pu_ 1 94 ?_; refine pu_ 2 95 ?_; refine pu_ 3 96 ?_; refine pu_ 4 97 ?_; refine pu_ 5 98 ?_; refine pu_ 7 100 ?_; refine tk_ 6 99 hHeld ?_; refine tk_ 8 101 hHeld ?_; refine pu_ 9 102 ?_; refine pu_ 10 103 ?_; refine pu_ 11 10 ?_
   refine done_ (done_of HT_.out (by kernel_rfl)) ?_
   try go_wp2
   replace HO_4 := rdr HO_4
   replace BK846 := bdr BK846
   replace BK854 := bdr BK854
   replace BK862 := bdr BK862
   replace HB := bld HB
   refine start_ (n := 12) (S := fun w' => True) (ds := []) #[false, false, false, false, false, false, false, false, false, false, false, false] (by kernel_rfl) rfl rfl trivial (fun hHeld => ?_); refine with_tabW laws_FnStats.tab19 laws_FnStats.bits19 (fun HT_ HW_ => ?_)
   generalize w65.drew = w66 at HO_4 BK846 BK854 BK862 HB hHeld ⊢
   refine pu_ 0 104 ?_; refine pu_ 1 105 ?_; refine pn_ 2 106 ?_; refine pn_ 3 107 ?_; refine pn_ 4 108 ?_; refine pn_ 5 109 ?_; refine pn_ 6 110 ?_; refine pn_ 7 111 ?_; refine pn_ 8 112 ?_; refine pn_ 9 113 ?_; refine pu_ 10 114 ?_; refine pu_ 11 11 ?_
   refine done_ (done_of HT_.out (by kernel_rfl)) ?_
   try go_wp2
   go_roundg k2
   case measure => have := HJ6.out; have := HK2.out; omega
   case rel => exact ⟨(x9_2), ((((rd_T36 t843 x12_2).f2.f0) == t849 && ((((rd_T36 t843 x12_2).f2.f1).toList) == t850.toList))), (true), (wrap64 (x12_2 + 1)), sr, sr, sr, sr, H', ⟨by have := HJ6.out; have := HK2.out; omega⟩, ⟨rL HO_4⟩, ⟨kL BK846⟩, ⟨kL BK854⟩, ⟨kL BK862⟩, ⟨bL HB⟩⟩
 have H' := am H; clear H
 try go_wp2
 replace HO_4 := rdr HO_4
 replace BK846 := bdr BK846
 replace BK854 := bdr BK854
 replace BK862 := bdr BK862
 replace HB := bld HB
 have p875 : 0 ≤ (x12_2 : Int) := dcd
 have q875 : x12_2 < (t843.length : Int) := dcd
 obtain ⟨ad875, e875, hx875_0, hx875_1, hx875_2, hx875_3⟩ := at_T36 (Kd.R_reads' HO_4.out).2.2 x12_2 p875 q875
 cases e875
 replace p875 := eq_true p875
 replace q875 := eq_true q875
 refine start_ (n := 8) (S := fun w' => w'.cell? ⟨gb846, 0, none⟩ = some (.int .i64 t840) ∧ w'.cell? ⟨gb846, 1, none⟩ = some (.int .i64 t841) ∧ w'.cell? ⟨gb846, 2, none⟩ = some (.int .i64 t842) ∧ w'.cell? (ad875.add ((x12_2).toNat * 4)) = some (.int .i64 ((rd_T36 t843 x12_2).f0)) ∧ w'.cell? ⟨(ad875.add ((x12_2).toNat * 4)).block, (ad875.add ((x12_2).toNat * 4)).off + 1, none⟩ = some (.int .i64 ((rd_T36 t843 x12_2).f1)) ∧ w'.cell? ⟨(ad875.add ((x12_2).toNat * 4)).block, (ad875.add ((x12_2).toNat * 4)).off + 2, none⟩ = some (.int .i64 ((rd_T36 t843 x12_2).f2.f0)) ∧ w'.cell? ⟨(ad875.add ((x12_2).toNat * 4)).block, (ad875.add ((x12_2).toNat * 4)).off + 3, none⟩ = some (.string ((rd_T36 t843 x12_2).f2.f1))) (ds := []) #[false, false, false, false, false, false, false, false] (by kernel_rfl) rfl rfl ⟨bcl BK846 0, bcl BK846 1, bcl BK846 2, hx875_0, hx875_1, hx875_2, hx875_3⟩ (fun hHeld => ?_); refine with_tabW laws_FnStats.tab14 laws_FnStats.bits14 (fun HT_ HW_ => ?_)
 generalize wr.drew = w67 at HO_4 BK846 BK854 BK862 HB hx875_0 hx875_1 hx875_2 hx875_3 hHeld ⊢
 refine pu_ 0 61 ?_; refine pu_ 1 62 ?_; refine pu_ 2 63 ?_; refine pu_ 3 64 ?_; refine pu_ 5 66 ?_; refine tk_ 4 65 hHeld ?_; refine tk_ 6 67 hHeld ?_; refine pu_ 7 68 ?_
 refine done_ (done_of HT_.out (by kernel_rfl)) ?_
 try go_wp2
 replace HO_4 := rdr HO_4
 replace BK846 := bdr BK846
 replace BK854 := bdr BK854
 replace BK862 := bdr BK862
 replace HB := bld HB
 have p876 : 0 ≤ (x12_2 : Int) := dcd
 have q876 : x12_2 < (t843.length : Int) := dcd
 obtain ⟨ad876, e876, hx876_0, hx876_1, hx876_2, hx876_3⟩ := at_T36 (Kd.R_reads' HO_4.out).2.2 x12_2 p876 q876
 obtain rfl : ad875 = ad876 := (by injection e876)
 replace p876 := eq_true p876
 replace q876 := eq_true q876
 have p878 : 0 ≤ (x12_2 : Int) := dcd
 have q878 : x12_2 < (t843.length : Int) := dcd
 obtain ⟨ad878, e878, hx878_0, hx878_1, hx878_2, hx878_3⟩ := at_T36 (Kd.R_reads' HO_4.out).2.2 x12_2 p878 q878
 obtain rfl : ad875 = ad878 := (by injection e878)
 replace p878 := eq_true p878
 replace q878 := eq_true q878
 refine start_ (n := 22) (S := fun w' => w'.cell? ⟨gb846, 0, none⟩ = some (.int .i64 t840) ∧ w'.cell? ⟨gb846, 1, none⟩ = some (.int .i64 t841) ∧ w'.cell? ⟨gb846, 2, none⟩ = some (.int .i64 t842) ∧ w'.cell? ⟨gb854, 0, none⟩ = some (.int .i64 t847) ∧ w'.cell? ⟨gb854, 1, none⟩ = some (.bool t848) ∧ w'.cell? ⟨gb854, 2, none⟩ = some (.int .i64 t849) ∧ w'.cell? ⟨gb854, 3, none⟩ = some (.string t850) ∧ w'.cell? ⟨gb854, 4, none⟩ = some (.int .i64 t851) ∧ w'.cell? ⟨gb854, 5, none⟩ = some (.string t852) ∧ w'.cell? (ad875.add ((x12_2).toNat * 4)) = some (.int .i64 ((rd_T36 t843 x12_2).f0)) ∧ w'.cell? ⟨(ad875.add ((x12_2).toNat * 4)).block, (ad875.add ((x12_2).toNat * 4)).off + 1, none⟩ = some (.int .i64 ((rd_T36 t843 x12_2).f1)) ∧ w'.cell? ⟨(ad875.add ((x12_2).toNat * 4)).block, (ad875.add ((x12_2).toNat * 4)).off + 2, none⟩ = some (.int .i64 ((rd_T36 t843 x12_2).f2.f0)) ∧ w'.cell? ⟨(ad875.add ((x12_2).toNat * 4)).block, (ad875.add ((x12_2).toNat * 4)).off + 3, none⟩ = some (.string ((rd_T36 t843 x12_2).f2.f1)) ∧ w'.cell? (ad875.add ((x12_2).toNat * 4)) = some (.int .i64 ((rd_T36 t843 x12_2).f0)) ∧ w'.cell? ⟨(ad875.add ((x12_2).toNat * 4)).block, (ad875.add ((x12_2).toNat * 4)).off + 1, none⟩ = some (.int .i64 ((rd_T36 t843 x12_2).f1)) ∧ w'.cell? ⟨(ad875.add ((x12_2).toNat * 4)).block, (ad875.add ((x12_2).toNat * 4)).off + 2, none⟩ = some (.int .i64 ((rd_T36 t843 x12_2).f2.f0)) ∧ w'.cell? ⟨(ad875.add ((x12_2).toNat * 4)).block, (ad875.add ((x12_2).toNat * 4)).off + 3, none⟩ = some (.string ((rd_T36 t843 x12_2).f2.f1))) (ds := []) #[false, false, false, false, false, false, false, false, false, false, false, false, false, false, false, false, false, false, false, false, false, false] (by kernel_rfl) rfl rfl ⟨bcl BK846 0, bcl BK846 1, bcl BK846 2, bcl BK854 0, bcl BK854 1, bcl BK854 2, bcl BK854 3, bcl BK854 4, bcl BK854 5, hx876_0, hx876_1, hx876_2, hx876_3, hx878_0, hx878_1, hx878_2, hx878_3⟩ (fun hHeld => ?_); refine with_tabW laws_FnStats.tab16 laws_FnStats.bits16 (fun HT_ HW_ => ?_)
 generalize w67.drew = w68 at HO_4 BK846 BK854 BK862 HB hx876_0 hx876_1 hx876_2 hx876_3 hx878_0 hx878_1 hx878_2 hx878_3 hHeld ⊢
 refine pu_ 0 71 ?_; refine pu_ 2 73 ?_; refine pu_ 3 74 ?_; refine pu_ 4 75 ?_; refine pu_ 5 76 ?_; refine pu_ 7 78 ?_; refine tk_ 1 72 hHeld ?_; refine tk_ 6 77 hHeld ?_; refine tk_ 8 79 hHeld ?_
 refine on_ 9 80 (fun K hK => ?_)
 refine gs_ Try.func8 #[.int .i64 t840, .agg #[.int .i64 ((rd_T36 t843 x12_2).f2.f0), .string ((rd_T36 t843 x12_2).f2.f1)], .agg #[.int .i64 t849, .string t850]] rfl ?_
 with_reducible refine (impl_ValLess.calls A35.out).mono ?_
 rintro e w69 ⟨rfl, hb⟩
 have HS9_ := cbl hb hHeld.2.2.2.2.2.2.2.2.2.1
 have HS10_ := cbl hb hHeld.2.2.2.2.2.2.2.2.2.2.1
 have HS11_ := cbl hb hHeld.2.2.2.2.2.2.2.2.2.2.2.1
 have HS12_ := cbl hb hHeld.2.2.2.2.2.2.2.2.2.2.2.2.1
 have HS13_ := cbl hb hHeld.2.2.2.2.2.2.2.2.2.2.2.2.2.1
 have HS14_ := cbl hb hHeld.2.2.2.2.2.2.2.2.2.2.2.2.2.2.1
 have HS15_ := cbl hb hHeld.2.2.2.2.2.2.2.2.2.2.2.2.2.2.2.1
 have HS16_ := cbl hb hHeld.2.2.2.2.2.2.2.2.2.2.2.2.2.2.2.2
 refine ⟨_, rfl, ?_⟩
 replace HO_4 := rbe HO_4 hb
 replace BK846 := bkb BK846 hb
 replace BK854 := bkb BK854 hb
 replace BK862 := bkb BK862 hb
 replace HB := bst HB hb
 (try clear hb)
 (try clear hb2)
 (try clear hk)
 (try clear hi)
 refine hK.out _ _ ⟨bcl BK846 0, bcl BK846 1, bcl BK846 2, bcl BK854 0, bcl BK854 1, bcl BK854 2, bcl BK854 3, bcl BK854 4, bcl BK854 5, HS9_, HS10_, HS11_, HS12_, HS13_, HS14_, HS15_, HS16_⟩ (fun hHeld => ?_)
 clear hK K
 refine no_ (some 80) ?_; refine pu_ 10 81 ?_; refine pu_ 11 82 ?_; refine pu_ 13 84 ?_; refine pu_ 15 86 ?_; refine pu_ 16 87 ?_; refine pu_ 17 88 ?_; refine pu_ 18 89 ?_; refine tk_ 12 83 hHeld ?_; refine tk_ 14 85 hHeld ?_; refine tk_ 19 90 hHeld ?_
 refine on_ 20 91 (fun K hK => ?_)
 refine gs_ Try.func8 #[.int .i64 t840, .agg #[.int .i64 t851, .string t852], .agg #[.int .i64 ((rd_T36 t843 x12_2).f2.f0), .string ((rd_T36 t843 x12_2).f2.f1)]] rfl ?_
 with_reducible refine (impl_ValLess.calls A40.out).mono ?_
 rintro e w70 ⟨rfl, hb⟩
 have HS9_ := cbl hb hHeld.2.2.2.2.2.2.2.2.2.1
 have HS10_ := cbl hb hHeld.2.2.2.2.2.2.2.2.2.2.1
 have HS11_ := cbl hb hHeld.2.2.2.2.2.2.2.2.2.2.2.1
 have HS12_ := cbl hb hHeld.2.2.2.2.2.2.2.2.2.2.2.2.1
 have HS13_ := cbl hb hHeld.2.2.2.2.2.2.2.2.2.2.2.2.2.1
 have HS14_ := cbl hb hHeld.2.2.2.2.2.2.2.2.2.2.2.2.2.2.1
 have HS15_ := cbl hb hHeld.2.2.2.2.2.2.2.2.2.2.2.2.2.2.2.1
 have HS16_ := cbl hb hHeld.2.2.2.2.2.2.2.2.2.2.2.2.2.2.2.2
 refine ⟨_, rfl, ?_⟩
 replace HO_4 := rbe HO_4 hb
 replace BK846 := bkb BK846 hb
 replace BK854 := bkb BK854 hb
 replace BK862 := bkb BK862 hb
 replace HB := bst HB hb
 (try clear hb)
 (try clear hb2)
 (try clear hk)
 (try clear hi)
 refine hK.out _ _ ⟨bcl BK846 0, bcl BK846 1, bcl BK846 2, bcl BK854 0, bcl BK854 1, bcl BK854 2, bcl BK854 3, bcl BK854 4, bcl BK854 5, HS9_, HS10_, HS11_, HS12_, HS13_, HS14_, HS15_, HS16_⟩ (fun hHeld => ?_)
 clear hK K
 refine no_ (some 91) ?_; refine pu_ 21 92 ?_
 refine done_ (done_of HT_.out (by kernel_rfl)) ?_
 try go_wp2
 replace HO_4 := rdr HO_4
 replace BK846 := bdr BK846
 replace BK854 := bdr BK854
 replace BK862 := bdr BK862
 replace HB := bld HB
 have p881 : 0 ≤ (x12_2 : Int) := dcd
 have q881 : x12_2 < (t843.length : Int) := dcd
 obtain ⟨ad881, e881, hx881_0, hx881_1, hx881_2, hx881_3⟩ := at_T36 (Kd.R_reads' HO_4.out).2.2 x12_2 p881 q881
 obtain rfl : ad875 = ad881 := (by injection e881)
 replace p881 := eq_true p881
 replace q881 := eq_true q881
 refine start_ (n := 12) (S := fun w' => w'.cell? ⟨gb854, 0, none⟩ = some (.int .i64 t847) ∧ w'.cell? ⟨gb854, 1, none⟩ = some (.bool t848) ∧ w'.cell? ⟨gb854, 2, none⟩ = some (.int .i64 t849) ∧ w'.cell? ⟨gb854, 3, none⟩ = some (.string t850) ∧ w'.cell? ⟨gb854, 4, none⟩ = some (.int .i64 t851) ∧ w'.cell? ⟨gb854, 5, none⟩ = some (.string t852) ∧ w'.cell? (ad875.add ((x12_2).toNat * 4)) = some (.int .i64 ((rd_T36 t843 x12_2).f0)) ∧ w'.cell? ⟨(ad875.add ((x12_2).toNat * 4)).block, (ad875.add ((x12_2).toNat * 4)).off + 1, none⟩ = some (.int .i64 ((rd_T36 t843 x12_2).f1)) ∧ w'.cell? ⟨(ad875.add ((x12_2).toNat * 4)).block, (ad875.add ((x12_2).toNat * 4)).off + 2, none⟩ = some (.int .i64 ((rd_T36 t843 x12_2).f2.f0)) ∧ w'.cell? ⟨(ad875.add ((x12_2).toNat * 4)).block, (ad875.add ((x12_2).toNat * 4)).off + 3, none⟩ = some (.string ((rd_T36 t843 x12_2).f2.f1))) (ds := []) #[false, false, false, false, false, false, false, false, false, false, false, false] (by kernel_rfl) rfl rfl ⟨bcl BK854 0, bcl BK854 1, bcl BK854 2, bcl BK854 3, bcl BK854 4, bcl BK854 5, hx881_0, hx881_1, hx881_2, hx881_3⟩ (fun hHeld => ?_); refine with_tabW laws_FnStats.tab18 laws_FnStats.bits18 (fun HT_ HW_ => ?_)
 generalize w70.drew = w71 at HO_4 BK846 BK854 BK862 HB hx881_0 hx881_1 hx881_2 hx881_3 hHeld ⊢
 refine pu_ 0 93 ?_; refine pu_ 1 94 ?_; refine pu_ 2 95 ?_; refine pu_ 3 96 ?_; refine pu_ 4 97 ?_; refine pu_ 5 98 ?_; refine pu_ 7 100 ?_; refine tk_ 6 99 hHeld ?_; refine tk_ 8 101 hHeld ?_; refine pu_ 9 102 ?_; refine pu_ 10 103 ?_; refine pu_ 11 10 ?_
 refine done_ (done_of HT_.out (by kernel_rfl)) ?_
 try go_wp2
 replace HO_4 := rdr HO_4
 replace BK846 := bdr BK846
 replace BK854 := bdr BK854
 replace BK862 := bdr BK862
 replace HB := bld HB
 have p882 : 0 ≤ (x12_2 : Int) := dcd
 have q882 : x12_2 < (t843.length : Int) := dcd
 obtain ⟨ad882, e882, hx882_0, hx882_1, hx882_2, hx882_3⟩ := at_T36 (Kd.R_reads' HO_4.out).2.2 x12_2 p882 q882
 obtain rfl : ad875 = ad882 := (by injection e882)
 replace p882 := eq_true p882
 replace q882 := eq_true q882
 refine start_ (n := 12) (S := fun w' => w'.cell? ⟨gb854, 0, none⟩ = some (.int .i64 t847) ∧ w'.cell? ⟨gb854, 1, none⟩ = some (.bool t848) ∧ w'.cell? ⟨gb854, 2, none⟩ = some (.int .i64 t849) ∧ w'.cell? ⟨gb854, 3, none⟩ = some (.string t850) ∧ w'.cell? ⟨gb854, 4, none⟩ = some (.int .i64 t851) ∧ w'.cell? ⟨gb854, 5, none⟩ = some (.string t852) ∧ w'.cell? (ad875.add ((x12_2).toNat * 4)) = some (.int .i64 ((rd_T36 t843 x12_2).f0)) ∧ w'.cell? ⟨(ad875.add ((x12_2).toNat * 4)).block, (ad875.add ((x12_2).toNat * 4)).off + 1, none⟩ = some (.int .i64 ((rd_T36 t843 x12_2).f1)) ∧ w'.cell? ⟨(ad875.add ((x12_2).toNat * 4)).block, (ad875.add ((x12_2).toNat * 4)).off + 2, none⟩ = some (.int .i64 ((rd_T36 t843 x12_2).f2.f0)) ∧ w'.cell? ⟨(ad875.add ((x12_2).toNat * 4)).block, (ad875.add ((x12_2).toNat * 4)).off + 3, none⟩ = some (.string ((rd_T36 t843 x12_2).f2.f1))) (ds := []) #[false, false, false, false, false, false, false, false, false, false, false, false] (by kernel_rfl) rfl rfl ⟨bcl BK854 0, bcl BK854 1, bcl BK854 2, bcl BK854 3, bcl BK854 4, bcl BK854 5, hx882_0, hx882_1, hx882_2, hx882_3⟩ (fun hHeld => ?_); refine with_tabW laws_FnStats.tab19 laws_FnStats.bits19 (fun HT_ HW_ => ?_)
 generalize w71.drew = w72 at HO_4 BK846 BK854 BK862 HB hx882_0 hx882_1 hx882_2 hx882_3 hHeld ⊢
 refine pu_ 0 104 ?_; refine pu_ 1 105 ?_; refine pu_ 2 106 ?_; refine pu_ 3 107 ?_; refine pu_ 4 108 ?_; refine pu_ 5 109 ?_; refine pu_ 7 111 ?_; refine tk_ 6 110 hHeld ?_; refine tk_ 8 112 hHeld ?_; refine pu_ 9 113 ?_; refine pu_ 10 114 ?_; refine pu_ 11 11 ?_
 refine done_ (done_of HT_.out (by kernel_rfl)) ?_
 try go_wp2
 go_roundg k2
 case measure => have := HJ6.out; have := HK2.out; omega
 case rel => exact ⟨(x9_2), ((((rd_T36 t843 x12_2).f2.f0) == t849 && ((((rd_T36 t843 x12_2).f2.f1).toList) == t850.toList))), ((((rd_T36 t843 x12_2).f2.f0) == t851 && ((((rd_T36 t843 x12_2).f2.f1).toList) == t852.toList))), (wrap64 (x12_2 + 1)), sr, sr, sr, sr, H', ⟨by have := HJ6.out; have := HK2.out; omega⟩, ⟨rL HO_4⟩, ⟨kL BK846⟩, ⟨kL BK854⟩, ⟨kL BK862⟩, ⟨bL HB⟩⟩
/-- THE ONE PURE STATEMENT of laws_FnStats: yours. -/
def laws_FnStats.Pure : Prop := ∀ (l0 : List Int), l0.length ≤ maxLen → l0.length * 1 ≤ 140737488351232 → (∀ x ∈ l0, (Lit.int .u8 x).wf = true) → ∃ k, laws_FnStats.f k l0 = some true
end Go.Proofs.Ytnlgodcbnlbdkaa.PFnStats
