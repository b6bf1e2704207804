/- The machine's side of FnExactStatsFrom, written by wip/tools/hyb.py of this repo: each Go function as a plain Lean function, and the proof that the call comes to just its answer. No condition. -/
import Derived.Test.YtgiljoeekpfpmaaPFnExactStatsFromx0
import Derived.Test.YtgiljoeekpfpmaaPFnExactStatsFromx4
import Derived.Test.YtgiljoeekpfpmaaPFnExactStatsFromx5
namespace Go.Proofs.Ytgiljoeekpfpmaa.PFnExactStatsFrom
open Go.RowKit Go.Proofs.YtgiljoeekpfpmaaW.PrintWords Go.Proofs.YtgiljoeekpfpmaaW.PrintLast Go.Proofs.YtgiljoeekpfpmaaW.PrintMore Go.Proofs.YtgiljoeekpfpmaaW.PrintMore2
attribute [local go_sem] max2_int min2_int max_two min_two max_three min_three max_four min_four   -- for this text's walks alone
set_option linter.unusedVariables false
set_option linter.unusedSimpArgs false

/-! ### spec_l15Text: function 73 -/
def spec_l15Text.f (k : Nat) (a0 : Int) (a1_0 : Int) (a1_1 : ByteArray) : Option (ByteArray) := if a0 = 6 then (some a1_1) else ((spec_PlainPack.f k a0 (([(⟨a1_0, a1_1⟩ : S27)] : List (S27)))).bind fun bt259 => (some (strOfNums bt259.1)))
set_option maxHeartbeats 8000000 in
set_option maxRecDepth 100000 in
theorem spec_l15Text.calls (k : Nat) (a0 : Int) (a1_0 : Int) (a1_1 : ByteArray) (r : ByteArray) (w : World) (h : spec_l15Text.f k a0 a1_0 a1_1 = some r) :
    Calls Try.prog 73 #[.int .i64 a0, .agg #[.int .i64 a1_0, .string a1_1]] w fun e w' => e = .returned (.string r) ∧ Below w.heap.size w w' := by
  have hu27 := Try.underlying27
  have HB := Aside0.mk (Below.refl w.heap.size w)
  have H : (if a0 = 6 then (some a1_1) else ((spec_PlainPack.f k a0 (([(⟨a1_0, a1_1⟩ : S27)] : List (S27)))).bind fun bt259 => (some (strOfNums bt259.1)))) = some r := h
  clear h
  by_cases c3 : a0 = 6
  · rw [if_pos c3] at H
    have c3b0 : (a0 == 6) = true := beq_iff_eq.mpr c3
    have c3b1 : (a0 != 6) = false := bne_eq_false_iff_eq.mpr c3
    clear c3
    obtain rfl := Option.some.inj H
    go_enter Try.func73, Try.ntmps73
    go_wp2_with (first | ((with_reducible refine gate_dst (N := 3) rfl ?_); refine bx_ 3 #[.int .i64 a1_0, .string a1_1] 27 ?_; intro gb255 hg w4 hbox hb; have BK255 := Aside0.mk (hbox); have GW255 := gwe HB hg; have GE255 := GW255; replace HB := bst HB hb; clear hb hbox hg; obtain ⟨hcz5_0, hcz5_1, hfz5_0, hfz5_1⟩ := cl2 BK255))
    go_ret
    exact fin_ (below_later HB.out)
  · rw [if_neg c3] at H
    have c3b0 : (a0 == 6) = false := beq_eq_false_iff_ne.mpr c3
    have c3b1 : (a0 != 6) = true := bne_iff_ne.mpr c3
    obtain ⟨y256, hy256⟩ : ∃ y_ : List (S27), y_ = (([(⟨a1_0, a1_1⟩ : S27)] : List (S27))) := ⟨_, rfl⟩
    replace H : ((spec_PlainPack.f k a0 y256).bind fun bt259 => (some (strOfNums bt259.1))) = some r := by first | (rw [hy256]; with_reducible exact H) | (rw [hy256]; exact H) | exact H
    have Ny256 := Aside0.mk hy256
    clear hy256
    replace H := Option.bind_eq_some_iff.mp H
    obtain ⟨⟨t259, t260⟩, A60, H⟩ := H
    replace H : (some (strOfNums t259)) = some r := H
    have A6 := Aside0.mk A60
    clear A60
    obtain rfl := Option.some.inj H
    go_enter Try.func73, Try.ntmps73
    go_wp2_with (first | ((with_reducible refine gate_dst (N := 3) rfl ?_); refine bx_ 3 #[.int .i64 a1_0, .string a1_1] 27 ?_; intro gb255 hg w7 hbox hb; have BK255 := Aside0.mk (hbox); have GW255 := gwe HB hg; have GE255 := GW255; replace HB := bst HB hb; clear hb hbox hg; obtain ⟨hcz8_0, hcz8_1, hfz8_0, hfz8_1⟩ := cl2 BK255) | ((with_reducible refine gate_dst (N := 14) rfl ?_); refine Kd.R_lit k27 _ 27 ?hg (N := 14) ?hd (xs := ([(⟨a1_0, a1_1⟩ : S27)] : List (S27))) (inner := [.int .i64 a1_0, .string a1_1]) (ok := fun _ => True) (okp := fun _ => True) ?hr ?hp (fun _ hk => hk) trivial (Below.refl _ _) (Nat.le_refl _) (by simp) ?_; (case hd => rfl); (case hg => rfl); (case hr => first | (go_simp; done) | (go_simp; rfl)); (case hp => exact (Reps.c2 (show Kd.M k27 _ _ _ (⟨a1_0, a1_1⟩ : S27) [.int .i64 a1_0, .string a1_1] from (k27_mkM _ _ _ (⟨a1_0, a1_1⟩ : S27) )) (Reps.none _ _))); intro v257 w9 ho10 hb hg_ hnew_; clear hg_ hnew_; (first | rw [← Ny256.out] at ho10 | (simp only [Int.reduceToNat] at ho10; rw [← Ny256.out] at ho10)); have HO258 := Aside0.mk (Kd.R_lower (Kd.R_newB ho10 (blk_later BK255.out)) (below_size (below_later HB.out))); replace BK255 := bkb BK255 hb; replace HB := bst HB hb; clear hb ho10; obtain ⟨Ao11, co11, eo11⟩ := Kd.R_slice HO258.out; subst eo11) | ((with_reducible refine gate_callee (f := 32) rfl ?_); refine gl_ (some 15) Try.func32 #[.int .i64 a0, .slice Ao11 y256.length co11] rfl ?_; (with_reducible refine (spec_PlainPack.calls k a0 _ _ y256 t259 t260 _ ?side1 ?side2 A6.out).mono ?_); (case side1 => repeat (first | exact (Kd.R_reads' HO258.out).2.2 | (with_reducible refine Kd.C_alloc ?_ _) | (with_reducible refine Kd.C_drewN ?_ _) | (with_reducible refine Kd.C_drew ?_))); (case side2 => exact (Kd.R_reads' HO258.out).2.1); rintro e w12 ⟨v261, rfl, ho0, hb⟩; refine ⟨_, rfl, ?_⟩; have HO262 := Aside0.mk (Kd.R_lower ho0 (below_size (below_later HB.out))); replace HO258 := Aside0.mk (Kd.R_below (R_later HO258.out) hb); replace BK255 := bkb BK255 hb; replace HB := bst HB hb; (try clear hb); (try clear hk); (try clear ho0); have hcv13 := own_string (P := Try.prog) Try.underlying41 Try.underlying5 Try.underlying9 (Kd.own_of_R HO262.out)))
    go_ret
    exact fin_ (below_later HB.out)

/-! ### spec_l15Value: function 46 -/
def spec_l15Value.f (k : Nat) (a0 : Int) (a1 : ByteArray) : Option (Int × ByteArray × Bool) := if a0 = 6 then ((spec_ValOk.f k a0 0 a1).bind fun t265 => (if t265 = true then ((spec_l15Text.f k a0 0 a1).bind fun t266 => (some (0, a1, (t266.toList == a1.toList)))) else (some (0, a1, false)))) else (if a1.size < 140737488355328 then ((spec_PlainRead.f k a0 (bytesOf a1) 0 1).bind fun bt271 => (if bt271.2.2 = true then (if 0 < (bt271.1.length : Int) then ((spec_ValOk.f k a0 ((rd_T27 bt271.1 0).f0) ((rd_T27 bt271.1 0).f1)).bind fun t277 => (if t277 = true then ((spec_l15Text.f k a0 ((rd_T27 bt271.1 0).f0) ((rd_T27 bt271.1 0).f1)).bind fun t278 => (some ((rd_T27 bt271.1 0).f0, (rd_T27 bt271.1 0).f1, (t278.toList == a1.toList)))) else (some ((rd_T27 bt271.1 0).f0, (rd_T27 bt271.1 0).f1, false)))) else (none)) else (some (0, (⟨#[]⟩ : ByteArray), false)))) else (none))
def spec_l15Value.T7 : Bool × List (List Nat × List Nat) := (true, [([], []), ([], []), ([], []), ([1, 2], [1, 2]), ([3, 3], [3]), ([4], [4]), ([4], [4]), ([5, 6, 4, 4], [4, 5, 6]), ([4], [4]), ([7, 8, 4], [4, 7, 8]), ([4, 9], [4, 9]), ([0, 7, 0], [0]), ([10, 11, 0, 1, 2, 3, 4, 5, 6, 7, 8, 9, 10, 11], [10])])
def spec_l15Value.B7 : List Nat := [0, 0, 0, 6, 14, 30, 30, 126, 30, 510, 1022, 255, 4095]
theorem spec_l15Value.tab7 : rtab .any (opsOf Try.f46 7) = spec_l15Value.T7 := by kernel_rfl
theorem spec_l15Value.bits7 : waitsOk spec_l15Value.T7.2 spec_l15Value.B7 = true := by kernel_rfl
set_option maxHeartbeats 8000000 in
set_option maxRecDepth 100000 in
theorem spec_l15Value.calls (k : Nat) (a0 : Int) (a1 : ByteArray) (r1 : Int) (r2 : ByteArray) (r3 : Bool) (w : World) (h : spec_l15Value.f k a0 a1 = some (r1, r2, r3)) :
    Calls Try.prog 46 #[.int .i64 a0, .string a1] w fun e w' => e = .returned (.tuple #[.agg #[.int .i64 r1, .string r2], .bool r3]) ∧ Below w.heap.size w w' := by
  have hu27 := Try.underlying27
  have HB := Aside0.mk (Below.refl w.heap.size w)
  have H : (if a0 = 6 then ((spec_ValOk.f k a0 0 a1).bind fun t265 => (if t265 = true then ((spec_l15Text.f k a0 0 a1).bind fun t266 => (some (0, a1, (t266.toList == a1.toList)))) else (some (0, a1, false)))) else (if a1.size < 140737488355328 then ((spec_PlainRead.f k a0 (bytesOf a1) 0 1).bind fun bt271 => (if bt271.2.2 = true then (if 0 < (bt271.1.length : Int) then ((spec_ValOk.f k a0 ((rd_T27 bt271.1 0).f0) ((rd_T27 bt271.1 0).f1)).bind fun t277 => (if t277 = true then ((spec_l15Text.f k a0 ((rd_T27 bt271.1 0).f0) ((rd_T27 bt271.1 0).f1)).bind fun t278 => (some ((rd_T27 bt271.1 0).f0, (rd_T27 bt271.1 0).f1, (t278.toList == a1.toList)))) else (some ((rd_T27 bt271.1 0).f0, (rd_T27 bt271.1 0).f1, false)))) else (none)) else (some (0, (⟨#[]⟩ : ByteArray), false)))) else (none))) = some (r1, r2, r3) := h
  clear h
  by_cases c3 : a0 = 6
  · rw [if_pos c3] at H
    have c3b0 : (a0 == 6) = true := beq_iff_eq.mpr c3
    have c3b1 : (a0 != 6) = false := bne_eq_false_iff_eq.mpr c3
    clear c3
    replace H := bnd H
    obtain ⟨t265, A4, H⟩ := H
    by_cases c5 : t265 = true
    · subst c5
      replace H := ifp rfl H
      replace H := bnd H
      obtain ⟨t266, A6, H⟩ := H
      simp only [Option.some.injEq, Prod.mk.injEq] at H
      obtain ⟨rfl, rfl, rfl⟩ := H
      go_enter Try.func46, Try.ntmps46
      try go_wp2_with (first | ((with_reducible refine gate_dst (N := 4) rfl ?_); refine bx_ 4 #[.int .i64 0, .string (⟨#[]⟩ : ByteArray)] 27 ?_; intro gb263 hg w7 hbox hb; have BK263 := Aside0.mk (hbox); have GW263 := gwe HB hg; have GE263 := GW263; replace HB := bst HB hb; clear hb hbox hg) | ((with_reducible refine gate_dst (N := 6) rfl ?_); refine bx_ 6 #[.int .i64 0, .string (⟨#[]⟩ : ByteArray)] 27 ?_; intro gb264 hg w8 hbox hb; have BK264 := Aside0.mk (hbox); have GW264 := gwe HB hg; have GE264 := GW264; have NB263_264 := nbl BK263 hg; have NB264_263 := nbr (nbl BK263 hg); replace BK263 := bkb BK263 hb; replace HB := bst HB hb; clear hb hbox hg; have hnb9 := NB264_263.out; have hnc9 := NB263_264.out; obtain ⟨hcz10_0, hcz10_1, hfz10_0, hfz10_1⟩ := cl2 BK264))
      have n0_ : Aside0 (((w8.setCell ⟨gb264, 0, none⟩ (.int .i64 0)).setCell ⟨gb264, 1, none⟩ (.string a1)).heap[gb263]? = some (.cells #[.int .i64 0, .string (⟨#[]⟩ : ByteArray)] 27 (0, 0))) := ⟨blk_later BK263.out⟩
      have n1_ : Aside0 (((w8.setCell ⟨gb264, 0, none⟩ (.int .i64 0)).setCell ⟨gb264, 1, none⟩ (.string a1)).heap[gb264]? = some (.cells #[.int .i64 0, .string a1] 27 (0, 0))) := ⟨blk_later BK264.out⟩
      have n2_ : Aside0 (Below w.heap.size w ((w8.setCell ⟨gb264, 0, none⟩ (.int .i64 0)).setCell ⟨gb264, 1, none⟩ (.string a1))) := ⟨below_later HB.out⟩
      (try clear BK263)
      (try clear BK264)
      (try clear HB)
      generalize ((w8.setCell ⟨gb264, 0, none⟩ (.int .i64 0)).setCell ⟨gb264, 1, none⟩ (.string a1)) = w11 at n0_ n1_ n2_ ⊢
      have BK263 := n0_
      have BK264 := n1_
      have HB := n2_
      clear n0_ n1_ n2_
      have n0_ := Aside0.mk (blk_drew BK263.out)
      have n1_ := Aside0.mk (blk_drew BK264.out)
      have n2_ := Aside0.mk (below_drew1 HB.out)
      clear BK263
      clear BK264
      clear HB
      have BK263 := n0_
      have BK264 := n1_
      have HB := n2_
      clear n0_ n1_ n2_
      refine start_ (n := 13) (S := fun w' => w'.cell? ⟨gb264, 0, none⟩ = some (.int .i64 0) ∧ w'.cell? ⟨gb264, 1, none⟩ = some (.string a1)) (ds := []) #[false, false, false, false, false, false, false, false, false, false, false, false, false] (by kernel_rfl) rfl rfl ⟨(blk_cell BK264.out 0).trans rfl, (blk_cell BK264.out 1).trans rfl⟩ (fun hHeld => ?_); refine with_tabW spec_l15Value.tab7 spec_l15Value.bits7 (fun HT_ HW_ => ?_)
      generalize w11.drew = w12 at BK263 BK264 HB hHeld ⊢
      refine pure_ (i := 1) (N := some 29) (v := ?_) (a' := ?_) #[false, true, false, false, false, false, false, false, false, false, false, false, false] rfl rfl (any_of HT_.out (by kernel_rfl)) (fun _ _ _ h => h) (Or.inl ⟨by rfl, ?_⟩) ?_ ?_
      rotate_left
      · intro w'
        go_simp
        with_reducible rfl
      rotate_left
      · simp only [Act.put, List.setIfInBounds_toArray, List.set_cons_zero, List.set_cons_succ, i64_w, i32_w]
        rfl
      refine take_ (i := 0) (N := some 28) (v := ?_) (a' := ?_) #[true, true, false, false, false, false, false, false, false, false, false, false, false] rfl rfl (take_ofW HT_.out HW_.out (by kernel_rfl)) (fun _ _ _ h => h) (Or.inl ⟨by rfl, ?_⟩) hHeld ?_ ?_
      rotate_left
      · rintro w' ⟨s0, s1⟩
        go_simp
        with_reducible rfl
      rotate_left
      · simp only [Act.put, List.setIfInBounds_toArray, List.set_cons_zero, List.set_cons_succ, i64_w, i32_w]
        rfl
      refine take_ (i := 2) (N := some 30) (v := ?_) (a' := ?_) #[true, true, true, false, false, false, false, false, false, false, false, false, false] rfl rfl (take_ofW HT_.out HW_.out (by kernel_rfl)) (fun _ _ _ h => h) (Or.inl ⟨by rfl, ?_⟩) hHeld ?_ ?_
      rotate_left
      · rintro w' ⟨s0, s1⟩
        go_simp
        with_reducible rfl
      rotate_left
      · simp only [Act.put, List.setIfInBounds_toArray, List.set_cons_zero, List.set_cons_succ, i64_w, i32_w]
        rfl
      refine one_ (i := 3) (N := some 31) #[true, true, true, true, false, false, false, false, false, false, false, false, false] rfl rfl (one_of HT_.out (by kernel_rfl)) (by decide) (fun K hK => ?_)
      refine goes_ Try.func72 (by kernel_rfl) rfl #[.int .i64 a0, .agg #[.int .i64 0, .string a1]] (by rfl) rfl rfl (by (try simp only [List.map_toArray, List.map_cons, List.map_nil]); first | done | rfl | (simp only [List.length_drop, List.length_take]; rfl)) ?_
      with_reducible refine (spec_ValOk.calls k a0 0 a1 true _ A4.out).mono ?_
      rintro e w13 ⟨rfl, hb⟩
      refine ⟨_, rfl, ?_⟩
      have n0_ := bkb BK263 hb
      have n1_ := bkb BK264 hb
      have n2_ := bst HB hb
      clear BK263
      clear BK264
      clear HB
      have BK263 := n0_
      have BK264 := n1_
      have HB := n2_
      clear n0_ n1_ n2_
      (try clear hb)
      (try clear hb2)
      (try clear hk)
      (try clear hi)
      refine hK.out _ _ ⟨(blk_cell BK264.out 0).trans rfl, (blk_cell BK264.out 1).trans rfl⟩ (fun hHeld => ?_)
      clear hK K
      refine norm_ (a' := ?_) ?_ ?_
      rotate_left
      · show Act.put _ (some 31) _ = _
        simp only [Act.put, List.setIfInBounds_toArray, List.set_cons_zero, List.set_cons_succ, i64_w, i32_w]
        rfl
      refine pure_ (i := 4) (N := some 32) (v := ?_) (a' := ?_) #[true, true, true, true, true, false, false, false, false, false, false, false, false] rfl rfl (any_of HT_.out (by kernel_rfl)) (fun _ _ _ h => h) (Or.inl ⟨by rfl, ?_⟩) ?_ ?_
      rotate_left
      · intro w'
        go_simp
        with_reducible rfl
      rotate_left
      · simp only [Act.put, List.setIfInBounds_toArray, List.set_cons_zero, List.set_cons_succ, i64_w, i32_w]
        rfl
      refine pure_ (i := 5) (N := some 33) (v := ?_) (a' := ?_) #[true, true, true, true, true, true, false, false, false, false, false, false, false] rfl rfl (any_of HT_.out (by kernel_rfl)) (fun _ _ _ h => h) (Or.inl ⟨by rfl, ?_⟩) ?_ ?_
      rotate_left
      · intro w'
        go_simp
        with_reducible rfl
      rotate_left
      · simp only [Act.put, List.setIfInBounds_toArray, List.set_cons_zero, List.set_cons_succ, i64_w, i32_w]
        rfl
      refine pure_ (i := 8) (N := some 36) (v := ?_) (a' := ?_) #[true, true, true, true, true, true, false, false, true, false, false, false, false] rfl rfl (any_of HT_.out (by kernel_rfl)) (fun _ _ _ h => h) (Or.inl ⟨by rfl, ?_⟩) ?_ ?_
      rotate_left
      · intro w'
        go_simp
        with_reducible rfl
      rotate_left
      · simp only [Act.put, List.setIfInBounds_toArray, List.set_cons_zero, List.set_cons_succ, i64_w, i32_w]
        rfl
      refine take_ (i := 6) (N := some 34) (v := ?_) (a' := ?_) #[true, true, true, true, true, true, true, false, true, false, false, false, false] rfl rfl (take_ofW HT_.out HW_.out (by kernel_rfl)) (fun _ _ _ h => h) (Or.inl ⟨by rfl, ?_⟩) hHeld ?_ ?_
      rotate_left
      · rintro w' ⟨s0, s1⟩
        go_simp
        with_reducible rfl
      rotate_left
      · simp only [Act.put, List.setIfInBounds_toArray, List.set_cons_zero, List.set_cons_succ, i64_w, i32_w]
        rfl
      refine one_ (i := 7) (N := some 35) #[true, true, true, true, true, true, true, true, true, false, false, false, false] rfl rfl (one_of HT_.out (by kernel_rfl)) (by decide) (fun K hK => ?_)
      refine goes_ Try.func73 (by kernel_rfl) rfl #[.int .i64 a0, .agg #[.int .i64 0, .string a1]] (by rfl) rfl rfl (by (try simp only [List.map_toArray, List.map_cons, List.map_nil]); first | done | rfl | (simp only [List.length_drop, List.length_take]; rfl)) ?_
      with_reducible refine (spec_l15Text.calls k a0 0 a1 t266 _ A6.out).mono ?_
      rintro e w14 ⟨rfl, hb⟩
      refine ⟨_, rfl, ?_⟩
      have n0_ := bkb BK263 hb
      have n1_ := bkb BK264 hb
      have n2_ := bst HB hb
      clear BK263
      clear BK264
      clear HB
      have BK263 := n0_
      have BK264 := n1_
      have HB := n2_
      clear n0_ n1_ n2_
      (try clear hb)
      (try clear hb2)
      (try clear hk)
      (try clear hi)
      refine hK.out _ _ ⟨(blk_cell BK264.out 0).trans rfl, (blk_cell BK264.out 1).trans rfl⟩ (fun hHeld => ?_)
      clear hK K
      refine norm_ (a' := ?_) ?_ ?_
      rotate_left
      · show Act.put _ (some 35) _ = _
        simp only [Act.put, List.setIfInBounds_toArray, List.set_cons_zero, List.set_cons_succ, i64_w, i32_w]
        rfl
      refine pure_ (i := 9) (N := some 37) (v := ?_) (a' := ?_) #[true, true, true, true, true, true, true, true, true, true, false, false, false] rfl rfl (any_of HT_.out (by kernel_rfl)) (fun _ _ _ h => h) (Or.inl ⟨by rfl, ?_⟩) ?_ ?_
      rotate_left
      · intro w'
        go_simp
        with_reducible rfl
      rotate_left
      · simp only [Act.put, List.setIfInBounds_toArray, List.set_cons_zero, List.set_cons_succ, i64_w, i32_w]
        rfl
      refine pure_ (i := 10) (N := some 38) (v := ?_) (a' := ?_) #[true, true, true, true, true, true, true, true, true, true, true, false, false] rfl rfl (any_of HT_.out (by kernel_rfl)) (fun _ _ _ h => h) (Or.inl ⟨by rfl, ?_⟩) ?_ ?_
      rotate_left
      · intro w'
        go_simp
        with_reducible rfl
      rotate_left
      · simp only [Act.put, List.setIfInBounds_toArray, List.set_cons_zero, List.set_cons_succ, i64_w, i32_w]
        rfl
      refine one_ (i := 11) (N := none) #[true, true, true, true, true, true, true, true, true, true, true, true, false] rfl rfl (one_of HT_.out (by kernel_rfl)) (by decide) (fun K hK => ?_)
      have hs15 : w14.cell? ⟨gb263, 0, none⟩ = some (.int .i64 0) := (blk_cell BK263.out 0).trans rfl
      have hfs15 := blk_frozen BK263.out 0
      have hns15_1 := NB264_263.out
      have hms15_1 := NB263_264.out
      have hs16 : w14.cell? ⟨gb263, 1, none⟩ = some (.string (⟨#[]⟩ : ByteArray)) := (blk_cell BK263.out 1).trans rfl
      have hfs16 := blk_frozen BK263.out 1
      have hns16_1 := NB264_263.out
      have hms16_1 := NB263_264.out
      refine skip_ (w1 := ?_) (by rfl) rfl ?_ ?_
      rotate_left
      · go_simp
        rfl
      refine hK.out _ _ ⟨((cell_far (p := ⟨gb263, _, none⟩) NB264_263.out _).trans (((cell_far (p := ⟨gb263, _, none⟩) NB264_263.out _).trans (hHeld.1)))), ((cell_far (p := ⟨gb263, _, none⟩) NB264_263.out _).trans (((cell_far (p := ⟨gb263, _, none⟩) NB264_263.out _).trans (hHeld.2))))⟩ (fun hHeld => ?_)
      clear hK K
      refine pure_ (i := 12) (N := some 5) (v := ?_) (a' := ?_) #[true, true, true, true, true, true, true, true, true, true, true, true, true] rfl rfl (any_of HT_.out (by kernel_rfl)) (fun _ _ _ h => h) (Or.inl ⟨by rfl, ?_⟩) ?_ ?_
      rotate_left
      · intro w'
        go_simp
        with_reducible rfl
      rotate_left
      · simp only [Act.put, List.setIfInBounds_toArray, List.set_cons_zero, List.set_cons_succ, i64_w, i32_w]
        rfl
      refine done_ (done_of HT_.out (by kernel_rfl)) ?_
      try go_wp2
      refine bodyPost_ret (results_ct rfl _ _ gb263 27 #[.int .i64 0, .string a1] (0, 0) _ rfl (by (with_reducible repeat (first | refine blk_drewN ?_ _ | refine blk_drew ?_ | refine blk_alloc ?_ _)); refine blk_put (cs := #[.int .i64 0, .string (⟨#[]⟩ : ByteArray)]) ?_ 1 _ rfl; (with_reducible repeat (first | refine blk_drewN ?_ _ | refine blk_drew ?_ | refine blk_alloc ?_ _)); refine blk_put (cs := #[.int .i64 0, .string (⟨#[]⟩ : ByteArray)]) ?_ 0 _ rfl; (with_reducible repeat (first | refine blk_drewN ?_ _ | refine blk_drew ?_ | refine blk_alloc ?_ _)); exact BK263.out) Try.underlying27 rfl (by kernel_rfl)) rfl ?_
      exact fin_ (below_later HB.out)
    · replace c5 := Bool.eq_false_iff.mpr c5
      subst c5
      replace H := ifn Bool.false_ne_true H
      simp only [Option.some.injEq, Prod.mk.injEq] at H
      obtain ⟨rfl, rfl, rfl⟩ := H
      go_enter Try.func46, Try.ntmps46
      try go_wp2_with (first | ((with_reducible refine gate_dst (N := 4) rfl ?_); refine bx_ 4 #[.int .i64 0, .string (⟨#[]⟩ : ByteArray)] 27 ?_; intro gb263 hg w17 hbox hb; have BK263 := Aside0.mk (hbox); have GW263 := gwe HB hg; have GE263 := GW263; replace HB := bst HB hb; clear hb hbox hg) | ((with_reducible refine gate_dst (N := 6) rfl ?_); refine bx_ 6 #[.int .i64 0, .string (⟨#[]⟩ : ByteArray)] 27 ?_; intro gb264 hg w18 hbox hb; have BK264 := Aside0.mk (hbox); have GW264 := gwe HB hg; have GE264 := GW264; have NB263_264 := nbl BK263 hg; have NB264_263 := nbr (nbl BK263 hg); replace BK263 := bkb BK263 hb; replace HB := bst HB hb; clear hb hbox hg; have hnb19 := NB264_263.out; have hnc19 := NB263_264.out; obtain ⟨hcz20_0, hcz20_1, hfz20_0, hfz20_1⟩ := cl2 BK264))
      have n0_ : Aside0 (((w18.setCell ⟨gb264, 0, none⟩ (.int .i64 0)).setCell ⟨gb264, 1, none⟩ (.string a1)).heap[gb263]? = some (.cells #[.int .i64 0, .string (⟨#[]⟩ : ByteArray)] 27 (0, 0))) := ⟨blk_later BK263.out⟩
      have n1_ : Aside0 (((w18.setCell ⟨gb264, 0, none⟩ (.int .i64 0)).setCell ⟨gb264, 1, none⟩ (.string a1)).heap[gb264]? = some (.cells #[.int .i64 0, .string a1] 27 (0, 0))) := ⟨blk_later BK264.out⟩
      have n2_ : Aside0 (Below w.heap.size w ((w18.setCell ⟨gb264, 0, none⟩ (.int .i64 0)).setCell ⟨gb264, 1, none⟩ (.string a1))) := ⟨below_later HB.out⟩
      (try clear BK263)
      (try clear BK264)
      (try clear HB)
      generalize ((w18.setCell ⟨gb264, 0, none⟩ (.int .i64 0)).setCell ⟨gb264, 1, none⟩ (.string a1)) = w21 at n0_ n1_ n2_ ⊢
      have BK263 := n0_
      have BK264 := n1_
      have HB := n2_
      clear n0_ n1_ n2_
      have n0_ := Aside0.mk (blk_drew BK263.out)
      have n1_ := Aside0.mk (blk_drew BK264.out)
      have n2_ := Aside0.mk (below_drew1 HB.out)
      clear BK263
      clear BK264
      clear HB
      have BK263 := n0_
      have BK264 := n1_
      have HB := n2_
      clear n0_ n1_ n2_
      refine start_ (n := 13) (S := fun w' => w'.cell? ⟨gb264, 0, none⟩ = some (.int .i64 0) ∧ w'.cell? ⟨gb264, 1, none⟩ = some (.string a1)) (ds := []) #[false, false, false, false, false, false, false, false, false, false, false, false, false] (by kernel_rfl) rfl rfl ⟨(blk_cell BK264.out 0).trans rfl, (blk_cell BK264.out 1).trans rfl⟩ (fun hHeld => ?_); refine with_tabW spec_l15Value.tab7 spec_l15Value.bits7 (fun HT_ HW_ => ?_)
      generalize w21.drew = w22 at BK263 BK264 HB hHeld ⊢
      refine pure_ (i := 1) (N := some 29) (v := ?_) (a' := ?_) #[false, true, false, false, false, false, false, false, false, false, false, false, false] rfl rfl (any_of HT_.out (by kernel_rfl)) (fun _ _ _ h => h) (Or.inl ⟨by rfl, ?_⟩) ?_ ?_
      rotate_left
      · intro w'
        go_simp
        with_reducible rfl
      rotate_left
      · simp only [Act.put, List.setIfInBounds_toArray, List.set_cons_zero, List.set_cons_succ, i64_w, i32_w]
        rfl
      refine take_ (i := 0) (N := some 28) (v := ?_) (a' := ?_) #[true, true, false, false, false, false, false, false, false, false, false, false, false] rfl rfl (take_ofW HT_.out HW_.out (by kernel_rfl)) (fun _ _ _ h => h) (Or.inl ⟨by rfl, ?_⟩) hHeld ?_ ?_
      rotate_left
      · rintro w' ⟨s0, s1⟩
        go_simp
        with_reducible rfl
      rotate_left
      · simp only [Act.put, List.setIfInBounds_toArray, List.set_cons_zero, List.set_cons_succ, i64_w, i32_w]
        rfl
      refine take_ (i := 2) (N := some 30) (v := ?_) (a' := ?_) #[true, true, true, false, false, false, false, false, false, false, false, false, false] rfl rfl (take_ofW HT_.out HW_.out (by kernel_rfl)) (fun _ _ _ h => h) (Or.inl ⟨by rfl, ?_⟩) hHeld ?_ ?_
      rotate_left
      · rintro w' ⟨s0, s1⟩
        go_simp
        with_reducible rfl
      rotate_left
      · simp only [Act.put, List.setIfInBounds_toArray, List.set_cons_zero, List.set_cons_succ, i64_w, i32_w]
        rfl
      refine one_ (i := 3) (N := some 31) #[true, true, true, true, false, false, false, false, false, false, false, false, false] rfl rfl (one_of HT_.out (by kernel_rfl)) (by decide) (fun K hK => ?_)
      refine goes_ Try.func72 (by kernel_rfl) rfl #[.int .i64 a0, .agg #[.int .i64 0, .string a1]] (by rfl) rfl rfl (by (try simp only [List.map_toArray, List.map_cons, List.map_nil]); first | done | rfl | (simp only [List.length_drop, List.length_take]; rfl)) ?_
      with_reducible refine (spec_ValOk.calls k a0 0 a1 false _ A4.out).mono ?_
      rintro e w23 ⟨rfl, hb⟩
      refine ⟨_, rfl, ?_⟩
      have n0_ := bkb BK263 hb
      have n1_ := bkb BK264 hb
      have n2_ := bst HB hb
      clear BK263
      clear BK264
      clear HB
      have BK263 := n0_
      have BK264 := n1_
      have HB := n2_
      clear n0_ n1_ n2_
      (try clear hb)
      (try clear hb2)
      (try clear hk)
      (try clear hi)
      refine hK.out _ _ ⟨(blk_cell BK264.out 0).trans rfl, (blk_cell BK264.out 1).trans rfl⟩ (fun hHeld => ?_)
      clear hK K
      refine norm_ (a' := ?_) ?_ ?_
      rotate_left
      · show Act.put _ (some 31) _ = _
        simp only [Act.put, List.setIfInBounds_toArray, List.set_cons_zero, List.set_cons_succ, i64_w, i32_w]
        rfl
      refine pure_ (i := 4) (N := some 32) (v := ?_) (a' := ?_) #[true, true, true, true, true, false, false, false, false, false, false, false, false] rfl rfl (any_of HT_.out (by kernel_rfl)) (fun _ _ _ h => h) (Or.inl ⟨by rfl, ?_⟩) ?_ ?_
      rotate_left
      · intro w'
        go_simp
        with_reducible rfl
      rotate_left
      · simp only [Act.put, List.setIfInBounds_toArray, List.set_cons_zero, List.set_cons_succ, i64_w, i32_w]
        rfl
      refine pure_ (i := 5) (N := some 33) (v := undef) (a' := ?_) #[true, true, true, true, true, true, false, false, false, false, false, false, false] rfl rfl (any_of HT_.out (by kernel_rfl)) (fun _ _ _ h => h) (Or.inr ⟨by rfl, rfl⟩) ?_ ?_
      rotate_left
      · simp only [Act.put, List.setIfInBounds_toArray, List.set_cons_zero, List.set_cons_succ, i64_w, i32_w]
        rfl
      refine pure_ (i := 6) (N := some 34) (v := undef) (a' := ?_) #[true, true, true, true, true, true, true, false, false, false, false, false, false] rfl rfl (any_of HT_.out (by kernel_rfl)) (fun _ _ _ h => h) (Or.inr ⟨by rfl, rfl⟩) ?_ ?_
      rotate_left
      · simp only [Act.put, List.setIfInBounds_toArray, List.set_cons_zero, List.set_cons_succ, i64_w, i32_w]
        rfl
      refine pure_ (i := 7) (N := some 35) (v := undef) (a' := ?_) #[true, true, true, true, true, true, true, true, false, false, false, false, false] rfl rfl (any_of HT_.out (by kernel_rfl)) (fun _ _ _ h => h) (Or.inr ⟨by rfl, rfl⟩) ?_ ?_
      rotate_left
      · simp only [Act.put, List.setIfInBounds_toArray, List.set_cons_zero, List.set_cons_succ, i64_w, i32_w]
        rfl
      refine pure_ (i := 8) (N := some 36) (v := undef) (a' := ?_) #[true, true, true, true, true, true, true, true, true, false, false, false, false] rfl rfl (any_of HT_.out (by kernel_rfl)) (fun _ _ _ h => h) (Or.inr ⟨by rfl, rfl⟩) ?_ ?_
      rotate_left
      · simp only [Act.put, List.setIfInBounds_toArray, List.set_cons_zero, List.set_cons_succ, i64_w, i32_w]
        rfl
      refine pure_ (i := 9) (N := some 37) (v := undef) (a' := ?_) #[true, true, true, true, true, true, true, true, true, true, false, false, false] rfl rfl (any_of HT_.out (by kernel_rfl)) (fun _ _ _ h => h) (Or.inr ⟨by rfl, rfl⟩) ?_ ?_
      rotate_left
      · simp only [Act.put, List.setIfInBounds_toArray, List.set_cons_zero, List.set_cons_succ, i64_w, i32_w]
        rfl
      refine pure_ (i := 10) (N := some 38) (v := ?_) (a' := ?_) #[true, true, true, true, true, true, true, true, true, true, true, false, false] rfl rfl (any_of HT_.out (by kernel_rfl)) (fun _ _ _ h => h) (Or.inl ⟨by rfl, ?_⟩) ?_ ?_
      rotate_left
      · intro w'
        go_simp
        with_reducible rfl
      rotate_left
      · simp only [Act.put, List.setIfInBounds_toArray, List.set_cons_zero, List.set_cons_succ, i64_w, i32_w]
        rfl
      refine one_ (i := 11) (N := none) #[true, true, true, true, true, true, true, true, true, true, true, true, false] rfl rfl (one_of HT_.out (by kernel_rfl)) (by decide) (fun K hK => ?_)
      have hs24 : w23.cell? ⟨gb263, 0, none⟩ = some (.int .i64 0) := (blk_cell BK263.out 0).trans rfl
      have hfs24 := blk_frozen BK263.out 0
      have hns24_1 := NB264_263.out
      have hms24_1 := NB263_264.out
      have hs25 : w23.cell? ⟨gb263, 1, none⟩ = some (.string (⟨#[]⟩ : ByteArray)) := (blk_cell BK263.out 1).trans rfl
      have hfs25 := blk_frozen BK263.out 1
      have hns25_1 := NB264_263.out
      have hms25_1 := NB263_264.out
      refine skip_ (w1 := ?_) (by rfl) rfl ?_ ?_
      rotate_left
      · go_simp
        rfl
      refine hK.out _ _ ⟨((cell_far (p := ⟨gb263, _, none⟩) NB264_263.out _).trans (((cell_far (p := ⟨gb263, _, none⟩) NB264_263.out _).trans (hHeld.1)))), ((cell_far (p := ⟨gb263, _, none⟩) NB264_263.out _).trans (((cell_far (p := ⟨gb263, _, none⟩) NB264_263.out _).trans (hHeld.2))))⟩ (fun hHeld => ?_)
      clear hK K
      refine pure_ (i := 12) (N := some 5) (v := ?_) (a' := ?_) #[true, true, true, true, true, true, true, true, true, true, true, true, true] rfl rfl (any_of HT_.out (by kernel_rfl)) (fun _ _ _ h => h) (Or.inl ⟨by rfl, ?_⟩) ?_ ?_
      rotate_left
      · intro w'
        go_simp
        with_reducible rfl
      rotate_left
      · simp only [Act.put, List.setIfInBounds_toArray, List.set_cons_zero, List.set_cons_succ, i64_w, i32_w]
        rfl
      refine done_ (done_of HT_.out (by kernel_rfl)) ?_
      try go_wp2
      refine bodyPost_ret (results_ct rfl _ _ gb263 27 #[.int .i64 0, .string a1] (0, 0) _ rfl (by (with_reducible repeat (first | refine blk_drewN ?_ _ | refine blk_drew ?_ | refine blk_alloc ?_ _)); refine blk_put (cs := #[.int .i64 0, .string (⟨#[]⟩ : ByteArray)]) ?_ 1 _ rfl; (with_reducible repeat (first | refine blk_drewN ?_ _ | refine blk_drew ?_ | refine blk_alloc ?_ _)); refine blk_put (cs := #[.int .i64 0, .string (⟨#[]⟩ : ByteArray)]) ?_ 0 _ rfl; (with_reducible repeat (first | refine blk_drewN ?_ _ | refine blk_drew ?_ | refine blk_alloc ?_ _)); exact BK263.out) Try.underlying27 rfl (by kernel_rfl)) rfl ?_
      exact fin_ (below_later HB.out)
  · rw [if_neg c3] at H
    have c3b0 : (a0 == 6) = false := beq_eq_false_iff_ne.mpr c3
    have c3b1 : (a0 != 6) = true := bne_iff_ne.mpr c3
    replace H := ifs H
    obtain ⟨c26, H⟩ := H
    have LMc26 := Aside0.mk c26
    clear c26
    obtain ⟨y267, hy267⟩ : ∃ y_ : List Int, y_ = (bytesOf a1) := ⟨_, rfl⟩
    replace H : ((spec_PlainRead.f k a0 y267 0 1).bind fun bt271 => (if bt271.2.2 = true then (if 0 < (bt271.1.length : Int) then ((spec_ValOk.f k a0 ((rd_T27 bt271.1 0).f0) ((rd_T27 bt271.1 0).f1)).bind fun t277 => (if t277 = true then ((spec_l15Text.f k a0 ((rd_T27 bt271.1 0).f0) ((rd_T27 bt271.1 0).f1)).bind fun t278 => (some ((rd_T27 bt271.1 0).f0, (rd_T27 bt271.1 0).f1, (t278.toList == a1.toList)))) else (some ((rd_T27 bt271.1 0).f0, (rd_T27 bt271.1 0).f1, false)))) else (none)) else (some (0, (⟨#[]⟩ : ByteArray), false)))) = some (r1, r2, r3) := by first | (rw [hy267]; with_reducible exact H) | (rw [hy267]; exact H) | exact H
    have Ny267 := Aside0.mk hy267
    clear hy267
    replace H := Option.bind_eq_some_iff.mp H
    obtain ⟨⟨t271, t272, t273⟩, A270, H⟩ := H
    replace H : (if t273 = true then (if 0 < (t271.length : Int) then ((spec_ValOk.f k a0 ((rd_T27 t271 0).f0) ((rd_T27 t271 0).f1)).bind fun t277 => (if t277 = true then ((spec_l15Text.f k a0 ((rd_T27 t271 0).f0) ((rd_T27 t271 0).f1)).bind fun t278 => (some ((rd_T27 t271 0).f0, (rd_T27 t271 0).f1, (t278.toList == a1.toList)))) else (some ((rd_T27 t271 0).f0, (rd_T27 t271 0).f1, false)))) else (none)) else (some (0, (⟨#[]⟩ : ByteArray), false))) = some (r1, r2, r3) := H
    have A27 := Aside0.mk A270
    clear A270
    by_cases c28 : t273 = true
    · subst c28
      replace H := ifp rfl H
      replace H := ifs H
      obtain ⟨c29, H⟩ := H
      have c29b0 := decide_eq_true c29
      have c29b1 : decide (0 < t271.length) = true := decide_eq_true (by omega)
      clear c29
      replace H := bnd H
      obtain ⟨t277, A30, H⟩ := H
      by_cases c31 : t277 = true
      · subst c31
        replace H := ifp rfl H
        replace H := bnd H
        obtain ⟨t278, A32, H⟩ := H
        simp only [Option.some.injEq, Prod.mk.injEq] at H
        obtain ⟨rfl, rfl, rfl⟩ := H
        go_enter Try.func46, Try.ntmps46
        try go_wp2_with (first | ((with_reducible refine gate_dst (N := 4) rfl ?_); refine bx_ 4 #[.int .i64 0, .string (⟨#[]⟩ : ByteArray)] 27 ?_; intro gb263 hg w33 hbox hb; have BK263 := Aside0.mk (hbox); have GW263 := gwe HB hg; have GE263 := GW263; replace HB := bst HB hb; clear hb hbox hg) | ((with_reducible refine gate_dst (N := 6) rfl ?_); refine bx_ 6 #[.int .i64 0, .string (⟨#[]⟩ : ByteArray)] 27 ?_; intro gb264 hg w34 hbox hb; have BK264 := Aside0.mk (hbox); have GW264 := gwe HB hg; have GE264 := GW264; have NB263_264 := nbl BK263 hg; have NB264_263 := nbr (nbl BK263 hg); replace BK263 := bkb BK263 hb; replace HB := bst HB hb; clear hb hbox hg; have hnb35 := NB264_263.out; have hnc35 := NB263_264.out; obtain ⟨hcz36_0, hcz36_1, hfz36_0, hfz36_1⟩ := cl2 BK264) | ((with_reducible refine gate_dst (N := 17) rfl ?_); refine Go.Proofs.YtgiljoeekpfpmaaW.PrintMore2.conv_seen rfl (N := 17) rfl 9 41 5 _ rfl Try.underlying9 Try.underlying41 Try.underlying5 a1 rfl (by have := LMc26.out; omega) y267 Ny267.out ?_; intro Av38 cv38 w37 hr_ hc_ hb; replace BK263 := bkb BK263 hb; replace BK264 := Aside0.mk (blk_below (g := gb264) (o := .cells #[.int .i64 0, .string a1] 27 (0, 0)) (blk_later BK264.out) hb); replace HB := bst HB hb; have HR270 := Aside0.mk hr_; have HC270 := Aside0.mk hc_; clear hr_ hc_ hb) | ((with_reducible refine gate_callee (f := 71) rfl ?_); refine gl_ (some 18) Try.func71 #[.int .i64 a0, .slice Av38 y267.length cv38, .int .i64 0, .int .i64 1] rfl ?_; (with_reducible refine (spec_PlainRead.calls k a0 _ _ y267 0 1 t271 t272 true _ ?side1 ?side2 A27.out).mono ?_); (case side1 => repeat (first | exact (by repeat (first | (with_reducible exact HR270.out) | (with_reducible refine Kd.C_alloc ?_ _) | (with_reducible refine Kd.C_drewN ?_ _) | (with_reducible refine Kd.C_drew ?_) | exact HR270.out)) | (with_reducible refine Kd.C_alloc ?_ _) | (with_reducible refine Kd.C_drewN ?_ _) | (with_reducible refine Kd.C_drew ?_))); (case side2 => exact HC270.out); rintro e w39 ⟨v274, rfl, ho0, hb⟩; refine ⟨_, rfl, ?_⟩; have HO275 := Aside0.mk (Kd.R_lower (Kd.R_newB (Kd.R_newB ho0 (g := gb263) (o := .cells #[.int .i64 0, .string (⟨#[]⟩ : ByteArray)] 27 (0, 0)) (blk_later BK263.out)) (blk_later BK264.out)) (below_size (below_later HB.out))); replace BK263 := bkb BK263 hb; replace BK264 := bkb BK264 hb; replace HR270 := Aside0.mk (Kd.C_below (by repeat (first | (with_reducible exact HR270.out) | (with_reducible refine Kd.C_alloc ?_ _) | (with_reducible refine Kd.C_drewN ?_ _) | (with_reducible refine Kd.C_drew ?_) | exact HR270.out)) hb); replace HB := bst HB hb; (try clear hb); (try clear ho0); obtain ⟨Ao40, co40, eo40⟩ := Kd.R_slice HO275.out; subst eo40; have p276 : 0 ≤ (0 : Int) := (by omega); have q276 : 0 < (t271.length : Int) := dcd; obtain ⟨ad276, e276, hx276_0, hx276_1⟩ := at_T27 (Kd.R_reads' HO275.out).2.2 0 p276 q276; cases e276; have qi276 : (0 < t271.length) = True := eq_true (by omega); (try rw [show ((0 : Int)).toNat = 0 from rfl] at hx276_0); (try rw [show 0 * 2 = 0 from rfl] at hx276_0); (try rw [Addr.add_zero'] at hx276_0); (try rw [show ((0 : Int)).toNat = 0 from rfl] at hx276_1); (try rw [show 0 * 2 = 0 from rfl] at hx276_1); (try rw [Addr.add_zero'] at hx276_1); replace p276 := eq_true p276; replace q276 := eq_true q276; obtain ⟨hcz41_0, hcz41_1, hfz41_0, hfz41_1⟩ := cl2 BK264))
        have n0_ : Aside0 (Kd.R k27 27 ((w39.setCell ⟨gb264, 0, none⟩ (.int .i64 ((rd_T27 t271 0).f0))).setCell ⟨gb264, 1, none⟩ (.string ((rd_T27 t271 0).f1))) w.heap.size (fun k_ => k_ ≠ gb263 ∧ k_ ≠ gb264) (.slice (some ad276) t271.length co40) t271) := ⟨by (with_reducible repeat (first | apply Kd.R_alloc | apply Kd.R_drewN | apply Kd.R_drew)); exact Kd.R_mono (Kd.R_far (p := ⟨gb264, 1, none⟩) (Kd.R_far (p := ⟨gb264, 0, none⟩) (Kd.R_mono HO275.out (fun k_ hk => (⟨hk, hk.2⟩ : _ ∧ k_ ≠ gb264))) (fun _ hk => hk.2) (.int .i64 ((rd_T27 t271 0).f0))) (fun _ hk => hk.2) (.string ((rd_T27 t271 0).f1))) (fun _ hk => ⟨hk.1.1.2, hk.1.2⟩)⟩
        have n1_ : Aside0 (((w39.setCell ⟨gb264, 0, none⟩ (.int .i64 ((rd_T27 t271 0).f0))).setCell ⟨gb264, 1, none⟩ (.string ((rd_T27 t271 0).f1))).heap[gb263]? = some (.cells #[.int .i64 0, .string (⟨#[]⟩ : ByteArray)] 27 (0, 0))) := ⟨blk_later BK263.out⟩
        have n2_ : Aside0 (((w39.setCell ⟨gb264, 0, none⟩ (.int .i64 ((rd_T27 t271 0).f0))).setCell ⟨gb264, 1, none⟩ (.string ((rd_T27 t271 0).f1))).heap[gb264]? = some (.cells #[.int .i64 ((rd_T27 t271 0).f0), .string ((rd_T27 t271 0).f1)] 27 (0, 0))) := ⟨blk_later BK264.out⟩
        have n3_ : Aside0 (Below w.heap.size w ((w39.setCell ⟨gb264, 0, none⟩ (.int .i64 ((rd_T27 t271 0).f0))).setCell ⟨gb264, 1, none⟩ (.string ((rd_T27 t271 0).f1)))) := ⟨below_later HB.out⟩
        (try clear HO275)
        (try clear BK263)
        (try clear BK264)
        (try clear HB)
        generalize ((w39.setCell ⟨gb264, 0, none⟩ (.int .i64 ((rd_T27 t271 0).f0))).setCell ⟨gb264, 1, none⟩ (.string ((rd_T27 t271 0).f1))) = w42 at n0_ n1_ n2_ n3_ ⊢
        have HO275 := n0_
        have BK263 := n1_
        have BK264 := n2_
        have HB := n3_
        clear n0_ n1_ n2_ n3_
        have n0_ := Aside0.mk (Kd.R_drew HO275.out)
        have n1_ := Aside0.mk (blk_drew BK263.out)
        have n2_ := Aside0.mk (blk_drew BK264.out)
        have n3_ := Aside0.mk (below_drew1 HB.out)
        clear HO275
        clear BK263
        clear BK264
        clear HB
        have HO275 := n0_
        have BK263 := n1_
        have BK264 := n2_
        have HB := n3_
        clear n0_ n1_ n2_ n3_
        refine start_ (n := 13) (S := fun w' => w'.cell? ⟨gb264, 0, none⟩ = some (.int .i64 ((rd_T27 t271 0).f0)) ∧ w'.cell? ⟨gb264, 1, none⟩ = some (.string ((rd_T27 t271 0).f1))) (ds := []) #[false, false, false, false, false, false, false, false, false, false, false, false, false] (by kernel_rfl) rfl rfl ⟨(blk_cell BK264.out 0).trans rfl, (blk_cell BK264.out 1).trans rfl⟩ (fun hHeld => ?_); refine with_tabW spec_l15Value.tab7 spec_l15Value.bits7 (fun HT_ HW_ => ?_)
        generalize w42.drew = w43 at HO275 BK263 BK264 HB hHeld ⊢
        refine pure_ (i := 1) (N := some 29) (v := ?_) (a' := ?_) #[false, true, false, false, false, false, false, false, false, false, false, false, false] rfl rfl (any_of HT_.out (by kernel_rfl)) (fun _ _ _ h => h) (Or.inl ⟨by rfl, ?_⟩) ?_ ?_
        rotate_left
        · intro w'
          go_simp
          with_reducible rfl
        rotate_left
        · simp only [Act.put, List.setIfInBounds_toArray, List.set_cons_zero, List.set_cons_succ, i64_w, i32_w]
          rfl
        refine take_ (i := 0) (N := some 28) (v := ?_) (a' := ?_) #[true, true, false, false, false, false, false, false, false, false, false, false, false] rfl rfl (take_ofW HT_.out HW_.out (by kernel_rfl)) (fun _ _ _ h => h) (Or.inl ⟨by rfl, ?_⟩) hHeld ?_ ?_
        rotate_left
        · rintro w' ⟨s0, s1⟩
          go_simp
          with_reducible rfl
        rotate_left
        · simp only [Act.put, List.setIfInBounds_toArray, List.set_cons_zero, List.set_cons_succ, i64_w, i32_w]
          rfl
        refine take_ (i := 2) (N := some 30) (v := ?_) (a' := ?_) #[true, true, true, false, false, false, false, false, false, false, false, false, false] rfl rfl (take_ofW HT_.out HW_.out (by kernel_rfl)) (fun _ _ _ h => h) (Or.inl ⟨by rfl, ?_⟩) hHeld ?_ ?_
        rotate_left
        · rintro w' ⟨s0, s1⟩
          go_simp
          with_reducible rfl
        rotate_left
        · simp only [Act.put, List.setIfInBounds_toArray, List.set_cons_zero, List.set_cons_succ, i64_w, i32_w]
          rfl
        refine one_ (i := 3) (N := some 31) #[true, true, true, true, false, false, false, false, false, false, false, false, false] rfl rfl (one_of HT_.out (by kernel_rfl)) (by decide) (fun K hK => ?_)
        refine goes_ Try.func72 (by kernel_rfl) rfl #[.int .i64 a0, .agg #[.int .i64 ((rd_T27 t271 0).f0), .string ((rd_T27 t271 0).f1)]] (by rfl) rfl rfl (by (try simp only [List.map_toArray, List.map_cons, List.map_nil]); first | done | rfl | (simp only [List.length_drop, List.length_take]; rfl)) ?_
        with_reducible refine (spec_ValOk.calls k a0 ((rd_T27 t271 0).f0) ((rd_T27 t271 0).f1) true _ A30.out).mono ?_
        rintro e w44 ⟨rfl, hb⟩
        refine ⟨_, rfl, ?_⟩
        have n0_ := Aside0.mk (Kd.R_below (R_later HO275.out) hb)
        have n1_ := bkb BK263 hb
        have n2_ := bkb BK264 hb
        have n3_ := bst HB hb
        clear HO275
        clear BK263
        clear BK264
        clear HB
        have HO275 := n0_
        have BK263 := n1_
        have BK264 := n2_
        have HB := n3_
        clear n0_ n1_ n2_ n3_
        (try clear hb)
        (try clear hb2)
        (try clear hk)
        (try clear hi)
        refine hK.out _ _ ⟨(blk_cell BK264.out 0).trans rfl, (blk_cell BK264.out 1).trans rfl⟩ (fun hHeld => ?_)
        clear hK K
        refine norm_ (a' := ?_) ?_ ?_
        rotate_left
        · show Act.put _ (some 31) _ = _
          simp only [Act.put, List.setIfInBounds_toArray, List.set_cons_zero, List.set_cons_succ, i64_w, i32_w]
          rfl
        refine pure_ (i := 4) (N := some 32) (v := ?_) (a' := ?_) #[true, true, true, true, true, false, false, false, false, false, false, false, false] rfl rfl (any_of HT_.out (by kernel_rfl)) (fun _ _ _ h => h) (Or.inl ⟨by rfl, ?_⟩) ?_ ?_
        rotate_left
        · intro w'
          go_simp
          with_reducible rfl
        rotate_left
        · simp only [Act.put, List.setIfInBounds_toArray, List.set_cons_zero, List.set_cons_succ, i64_w, i32_w]
          rfl
        refine pure_ (i := 5) (N := some 33) (v := ?_) (a' := ?_) #[true, true, true, true, true, true, false, false, false, false, false, false, false] rfl rfl (any_of HT_.out (by kernel_rfl)) (fun _ _ _ h => h) (Or.inl ⟨by rfl, ?_⟩) ?_ ?_
        rotate_left
        · intro w'
          go_simp
          with_reducible rfl
        rotate_left
        · simp only [Act.put, List.setIfInBounds_toArray, List.set_cons_zero, List.set_cons_succ, i64_w, i32_w]
          rfl
        refine pure_ (i := 8) (N := some 36) (v := ?_) (a' := ?_) #[true, true, true, true, true, true, false, false, true, false, false, false, false] rfl rfl (any_of HT_.out (by kernel_rfl)) (fun _ _ _ h => h) (Or.inl ⟨by rfl, ?_⟩) ?_ ?_
        rotate_left
        · intro w'
          go_simp
          with_reducible rfl
        rotate_left
        · simp only [Act.put, List.setIfInBounds_toArray, List.set_cons_zero, List.set_cons_succ, i64_w, i32_w]
          rfl
        refine take_ (i := 6) (N := some 34) (v := ?_) (a' := ?_) #[true, true, true, true, true, true, true, false, true, false, false, false, false] rfl rfl (take_ofW HT_.out HW_.out (by kernel_rfl)) (fun _ _ _ h => h) (Or.inl ⟨by rfl, ?_⟩) hHeld ?_ ?_
        rotate_left
        · rintro w' ⟨s0, s1⟩
          go_simp
          with_reducible rfl
        rotate_left
        · simp only [Act.put, List.setIfInBounds_toArray, List.set_cons_zero, List.set_cons_succ, i64_w, i32_w]
          rfl
        refine one_ (i := 7) (N := some 35) #[true, true, true, true, true, true, true, true, true, false, false, false, false] rfl rfl (one_of HT_.out (by kernel_rfl)) (by decide) (fun K hK => ?_)
        refine goes_ Try.func73 (by kernel_rfl) rfl #[.int .i64 a0, .agg #[.int .i64 ((rd_T27 t271 0).f0), .string ((rd_T27 t271 0).f1)]] (by rfl) rfl rfl (by (try simp only [List.map_toArray, List.map_cons, List.map_nil]); first | done | rfl | (simp only [List.length_drop, List.length_take]; rfl)) ?_
        with_reducible refine (spec_l15Text.calls k a0 ((rd_T27 t271 0).f0) ((rd_T27 t271 0).f1) t278 _ A32.out).mono ?_
        rintro e w45 ⟨rfl, hb⟩
        refine ⟨_, rfl, ?_⟩
        have n0_ := Aside0.mk (Kd.R_below (R_later HO275.out) hb)
        have n1_ := bkb BK263 hb
        have n2_ := bkb BK264 hb
        have n3_ := bst HB hb
        clear HO275
        clear BK263
        clear BK264
        clear HB
        have HO275 := n0_
        have BK263 := n1_
        have BK264 := n2_
        have HB := n3_
        clear n0_ n1_ n2_ n3_
        (try clear hb)
        (try clear hb2)
        (try clear hk)
        (try clear hi)
        refine hK.out _ _ ⟨(blk_cell BK264.out 0).trans rfl, (blk_cell BK264.out 1).trans rfl⟩ (fun hHeld => ?_)
        clear hK K
        refine norm_ (a' := ?_) ?_ ?_
        rotate_left
        · show Act.put _ (some 35) _ = _
          simp only [Act.put, List.setIfInBounds_toArray, List.set_cons_zero, List.set_cons_succ, i64_w, i32_w]
          rfl
        refine pure_ (i := 9) (N := some 37) (v := ?_) (a' := ?_) #[true, true, true, true, true, true, true, true, true, true, false, false, false] rfl rfl (any_of HT_.out (by kernel_rfl)) (fun _ _ _ h => h) (Or.inl ⟨by rfl, ?_⟩) ?_ ?_
        rotate_left
        · intro w'
          go_simp
          with_reducible rfl
        rotate_left
        · simp only [Act.put, List.setIfInBounds_toArray, List.set_cons_zero, List.set_cons_succ, i64_w, i32_w]
          rfl
        refine pure_ (i := 10) (N := some 38) (v := ?_) (a' := ?_) #[true, true, true, true, true, true, true, true, true, true, true, false, false] rfl rfl (any_of HT_.out (by kernel_rfl)) (fun _ _ _ h => h) (Or.inl ⟨by rfl, ?_⟩) ?_ ?_
        rotate_left
        · intro w'
          go_simp
          with_reducible rfl
        rotate_left
        · simp only [Act.put, List.setIfInBounds_toArray, List.set_cons_zero, List.set_cons_succ, i64_w, i32_w]
          rfl
        refine one_ (i := 11) (N := none) #[true, true, true, true, true, true, true, true, true, true, true, true, false] rfl rfl (one_of HT_.out (by kernel_rfl)) (by decide) (fun K hK => ?_)
        have hs46 : w45.cell? ⟨gb263, 0, none⟩ = some (.int .i64 0) := (blk_cell BK263.out 0).trans rfl
        have hfs46 := blk_frozen BK263.out 0
        have hns46_1 := NB264_263.out
        have hms46_1 := NB263_264.out
        have hs47 : w45.cell? ⟨gb263, 1, none⟩ = some (.string (⟨#[]⟩ : ByteArray)) := (blk_cell BK263.out 1).trans rfl
        have hfs47 := blk_frozen BK263.out 1
        have hns47_1 := NB264_263.out
        have hms47_1 := NB263_264.out
        refine skip_ (w1 := ?_) (by rfl) rfl ?_ ?_
        rotate_left
        · go_simp
          rfl
        refine hK.out _ _ ⟨((cell_far (p := ⟨gb263, _, none⟩) NB264_263.out _).trans (((cell_far (p := ⟨gb263, _, none⟩) NB264_263.out _).trans (hHeld.1)))), ((cell_far (p := ⟨gb263, _, none⟩) NB264_263.out _).trans (((cell_far (p := ⟨gb263, _, none⟩) NB264_263.out _).trans (hHeld.2))))⟩ (fun hHeld => ?_)
        clear hK K
        refine pure_ (i := 12) (N := some 5) (v := ?_) (a' := ?_) #[true, true, true, true, true, true, true, true, true, true, true, true, true] rfl rfl (any_of HT_.out (by kernel_rfl)) (fun _ _ _ h => h) (Or.inl ⟨by rfl, ?_⟩) ?_ ?_
        rotate_left
        · intro w'
          go_simp
          with_reducible rfl
        rotate_left
        · simp only [Act.put, List.setIfInBounds_toArray, List.set_cons_zero, List.set_cons_succ, i64_w, i32_w]
          rfl
        refine done_ (done_of HT_.out (by kernel_rfl)) ?_
        try go_wp2
        refine bodyPost_ret (results_ct rfl _ _ gb263 27 #[.int .i64 ((rd_T27 t271 0).f0), .string ((rd_T27 t271 0).f1)] (0, 0) _ rfl (by (with_reducible repeat (first | refine blk_drewN ?_ _ | refine blk_drew ?_ | refine blk_alloc ?_ _)); refine blk_put (cs := #[.int .i64 ((rd_T27 t271 0).f0), .string (⟨#[]⟩ : ByteArray)]) ?_ 1 _ rfl; (with_reducible repeat (first | refine blk_drewN ?_ _ | refine blk_drew ?_ | refine blk_alloc ?_ _)); refine blk_put (cs := #[.int .i64 0, .string (⟨#[]⟩ : ByteArray)]) ?_ 0 _ rfl; (with_reducible repeat (first | refine blk_drewN ?_ _ | refine blk_drew ?_ | refine blk_alloc ?_ _)); exact BK263.out) Try.underlying27 rfl (by kernel_rfl)) rfl ?_
        exact fin_ (below_later HB.out)
      · replace c31 := Bool.eq_false_iff.mpr c31
        subst c31
        replace H := ifn Bool.false_ne_true H
        simp only [Option.some.injEq, Prod.mk.injEq] at H
        obtain ⟨rfl, rfl, rfl⟩ := H
        go_enter Try.func46, Try.ntmps46
        try go_wp2_with (first | ((with_reducible refine gate_dst (N := 4) rfl ?_); refine bx_ 4 #[.int .i64 0, .string (⟨#[]⟩ : ByteArray)] 27 ?_; intro gb263 hg w48 hbox hb; have BK263 := Aside0.mk (hbox); have GW263 := gwe HB hg; have GE263 := GW263; replace HB := bst HB hb; clear hb hbox hg) | ((with_reducible refine gate_dst (N := 6) rfl ?_); refine bx_ 6 #[.int .i64 0, .string (⟨#[]⟩ : ByteArray)] 27 ?_; intro gb264 hg w49 hbox hb; have BK264 := Aside0.mk (hbox); have GW264 := gwe HB hg; have GE264 := GW264; have NB263_264 := nbl BK263 hg; have NB264_263 := nbr (nbl BK263 hg); replace BK263 := bkb BK263 hb; replace HB := bst HB hb; clear hb hbox hg; have hnb50 := NB264_263.out; have hnc50 := NB263_264.out; obtain ⟨hcz51_0, hcz51_1, hfz51_0, hfz51_1⟩ := cl2 BK264) | ((with_reducible refine gate_dst (N := 17) rfl ?_); refine Go.Proofs.YtgiljoeekpfpmaaW.PrintMore2.conv_seen rfl (N := 17) rfl 9 41 5 _ rfl Try.underlying9 Try.underlying41 Try.underlying5 a1 rfl (by have := LMc26.out; omega) y267 Ny267.out ?_; intro Av53 cv53 w52 hr_ hc_ hb; replace BK263 := bkb BK263 hb; replace BK264 := Aside0.mk (blk_below (g := gb264) (o := .cells #[.int .i64 0, .string a1] 27 (0, 0)) (blk_later BK264.out) hb); replace HB := bst HB hb; have HR270 := Aside0.mk hr_; have HC270 := Aside0.mk hc_; clear hr_ hc_ hb) | ((with_reducible refine gate_callee (f := 71) rfl ?_); refine gl_ (some 18) Try.func71 #[.int .i64 a0, .slice Av53 y267.length cv53, .int .i64 0, .int .i64 1] rfl ?_; (with_reducible refine (spec_PlainRead.calls k a0 _ _ y267 0 1 t271 t272 true _ ?side1 ?side2 A27.out).mono ?_); (case side1 => repeat (first | exact (by repeat (first | (with_reducible exact HR270.out) | (with_reducible refine Kd.C_alloc ?_ _) | (with_reducible refine Kd.C_drewN ?_ _) | (with_reducible refine Kd.C_drew ?_) | exact HR270.out)) | (with_reducible refine Kd.C_alloc ?_ _) | (with_reducible refine Kd.C_drewN ?_ _) | (with_reducible refine Kd.C_drew ?_))); (case side2 => exact HC270.out); rintro e w54 ⟨v274, rfl, ho0, hb⟩; refine ⟨_, rfl, ?_⟩; have HO275 := Aside0.mk (Kd.R_lower (Kd.R_newB (Kd.R_newB ho0 (g := gb263) (o := .cells #[.int .i64 0, .string (⟨#[]⟩ : ByteArray)] 27 (0, 0)) (blk_later BK263.out)) (blk_later BK264.out)) (below_size (below_later HB.out))); replace BK263 := bkb BK263 hb; replace BK264 := bkb BK264 hb; replace HR270 := Aside0.mk (Kd.C_below (by repeat (first | (with_reducible exact HR270.out) | (with_reducible refine Kd.C_alloc ?_ _) | (with_reducible refine Kd.C_drewN ?_ _) | (with_reducible refine Kd.C_drew ?_) | exact HR270.out)) hb); replace HB := bst HB hb; (try clear hb); (try clear ho0); obtain ⟨Ao55, co55, eo55⟩ := Kd.R_slice HO275.out; subst eo55; have p276 : 0 ≤ (0 : Int) := (by omega); have q276 : 0 < (t271.length : Int) := dcd; obtain ⟨ad276, e276, hx276_0, hx276_1⟩ := at_T27 (Kd.R_reads' HO275.out).2.2 0 p276 q276; cases e276; have qi276 : (0 < t271.length) = True := eq_true (by omega); (try rw [show ((0 : Int)).toNat = 0 from rfl] at hx276_0); (try rw [show 0 * 2 = 0 from rfl] at hx276_0); (try rw [Addr.add_zero'] at hx276_0); (try rw [show ((0 : Int)).toNat = 0 from rfl] at hx276_1); (try rw [show 0 * 2 = 0 from rfl] at hx276_1); (try rw [Addr.add_zero'] at hx276_1); replace p276 := eq_true p276; replace q276 := eq_true q276; obtain ⟨hcz56_0, hcz56_1, hfz56_0, hfz56_1⟩ := cl2 BK264))
        have n0_ : Aside0 (Kd.R k27 27 ((w54.setCell ⟨gb264, 0, none⟩ (.int .i64 ((rd_T27 t271 0).f0))).setCell ⟨gb264, 1, none⟩ (.string ((rd_T27 t271 0).f1))) w.heap.size (fun k_ => k_ ≠ gb263 ∧ k_ ≠ gb264) (.slice (some ad276) t271.length co55) t271) := ⟨by (with_reducible repeat (first | apply Kd.R_alloc | apply Kd.R_drewN | apply Kd.R_drew)); exact Kd.R_mono (Kd.R_far (p := ⟨gb264, 1, none⟩) (Kd.R_far (p := ⟨gb264, 0, none⟩) (Kd.R_mono HO275.out (fun k_ hk => (⟨hk, hk.2⟩ : _ ∧ k_ ≠ gb264))) (fun _ hk => hk.2) (.int .i64 ((rd_T27 t271 0).f0))) (fun _ hk => hk.2) (.string ((rd_T27 t271 0).f1))) (fun _ hk => ⟨hk.1.1.2, hk.1.2⟩)⟩
        have n1_ : Aside0 (((w54.setCell ⟨gb264, 0, none⟩ (.int .i64 ((rd_T27 t271 0).f0))).setCell ⟨gb264, 1, none⟩ (.string ((rd_T27 t271 0).f1))).heap[gb263]? = some (.cells #[.int .i64 0, .string (⟨#[]⟩ : ByteArray)] 27 (0, 0))) := ⟨blk_later BK263.out⟩
        have n2_ : Aside0 (((w54.setCell ⟨gb264, 0, none⟩ (.int .i64 ((rd_T27 t271 0).f0))).setCell ⟨gb264, 1, none⟩ (.string ((rd_T27 t271 0).f1))).heap[gb264]? = some (.cells #[.int .i64 ((rd_T27 t271 0).f0), .string ((rd_T27 t271 0).f1)] 27 (0, 0))) := ⟨blk_later BK264.out⟩
        have n3_ : Aside0 (Below w.heap.size w ((w54.setCell ⟨gb264, 0, none⟩ (.int .i64 ((rd_T27 t271 0).f0))).setCell ⟨gb264, 1, none⟩ (.string ((rd_T27 t271 0).f1)))) := ⟨below_later HB.out⟩
        (try clear HO275)
        (try clear BK263)
        (try clear BK264)
        (try clear HB)
        generalize ((w54.setCell ⟨gb264, 0, none⟩ (.int .i64 ((rd_T27 t271 0).f0))).setCell ⟨gb264, 1, none⟩ (.string ((rd_T27 t271 0).f1))) = w57 at n0_ n1_ n2_ n3_ ⊢
        have HO275 := n0_
        have BK263 := n1_
        have BK264 := n2_
        have HB := n3_
        clear n0_ n1_ n2_ n3_
        have n0_ := Aside0.mk (Kd.R_drew HO275.out)
        have n1_ := Aside0.mk (blk_drew BK263.out)
        have n2_ := Aside0.mk (blk_drew BK264.out)
        have n3_ := Aside0.mk (below_drew1 HB.out)
        clear HO275
        clear BK263
        clear BK264
        clear HB
        have HO275 := n0_
        have BK263 := n1_
        have BK264 := n2_
        have HB := n3_
        clear n0_ n1_ n2_ n3_
        refine start_ (n := 13) (S := fun w' => w'.cell? ⟨gb264, 0, none⟩ = some (.int .i64 ((rd_T27 t271 0).f0)) ∧ w'.cell? ⟨gb264, 1, none⟩ = some (.string ((rd_T27 t271 0).f1))) (ds := []) #[false, false, false, false, false, false, false, false, false, false, false, false, false] (by kernel_rfl) rfl rfl ⟨(blk_cell BK264.out 0).trans rfl, (blk_cell BK264.out 1).trans rfl⟩ (fun hHeld => ?_); refine with_tabW spec_l15Value.tab7 spec_l15Value.bits7 (fun HT_ HW_ => ?_)
        generalize w57.drew = w58 at HO275 BK263 BK264 HB hHeld ⊢
        refine pure_ (i := 1) (N := some 29) (v := ?_) (a' := ?_) #[false, true, false, false, false, false, false, false, false, false, false, false, false] rfl rfl (any_of HT_.out (by kernel_rfl)) (fun _ _ _ h => h) (Or.inl ⟨by rfl, ?_⟩) ?_ ?_
        rotate_left
        · intro w'
          go_simp
          with_reducible rfl
        rotate_left
        · simp only [Act.put, List.setIfInBounds_toArray, List.set_cons_zero, List.set_cons_succ, i64_w, i32_w]
          rfl
        refine take_ (i := 0) (N := some 28) (v := ?_) (a' := ?_) #[true, true, false, false, false, false, false, false, false, false, false, false, false] rfl rfl (take_ofW HT_.out HW_.out (by kernel_rfl)) (fun _ _ _ h => h) (Or.inl ⟨by rfl, ?_⟩) hHeld ?_ ?_
        rotate_left
        · rintro w' ⟨s0, s1⟩
          go_simp
          with_reducible rfl
        rotate_left
        · simp only [Act.put, List.setIfInBounds_toArray, List.set_cons_zero, List.set_cons_succ, i64_w, i32_w]
          rfl
        refine take_ (i := 2) (N := some 30) (v := ?_) (a' := ?_) #[true, true, true, false, false, false, false, false, false, false, false, false, false] rfl rfl (take_ofW HT_.out HW_.out (by kernel_rfl)) (fun _ _ _ h => h) (Or.inl ⟨by rfl, ?_⟩) hHeld ?_ ?_
        rotate_left
        · rintro w' ⟨s0, s1⟩
          go_simp
          with_reducible rfl
        rotate_left
        · simp only [Act.put, List.setIfInBounds_toArray, List.set_cons_zero, List.set_cons_succ, i64_w, i32_w]
          rfl
        refine one_ (i := 3) (N := some 31) #[true, true, true, true, false, false, false, false, false, false, false, false, false] rfl rfl (one_of HT_.out (by kernel_rfl)) (by decide) (fun K hK => ?_)
        refine goes_ Try.func72 (by kernel_rfl) rfl #[.int .i64 a0, .agg #[.int .i64 ((rd_T27 t271 0).f0), .string ((rd_T27 t271 0).f1)]] (by rfl) rfl rfl (by (try simp only [List.map_toArray, List.map_cons, List.map_nil]); first | done | rfl | (simp only [List.length_drop, List.length_take]; rfl)) ?_
        with_reducible refine (spec_ValOk.calls k a0 ((rd_T27 t271 0).f0) ((rd_T27 t271 0).f1) false _ A30.out).mono ?_
        rintro e w59 ⟨rfl, hb⟩
        refine ⟨_, rfl, ?_⟩
        have n0_ := Aside0.mk (Kd.R_below (R_later HO275.out) hb)
        have n1_ := bkb BK263 hb
        have n2_ := bkb BK264 hb
        have n3_ := bst HB hb
        clear HO275
        clear BK263
        clear BK264
        clear HB
        have HO275 := n0_
        have BK263 := n1_
        have BK264 := n2_
        have HB := n3_
        clear n0_ n1_ n2_ n3_
        (try clear hb)
        (try clear hb2)
        (try clear hk)
        (try clear hi)
        refine hK.out _ _ ⟨(blk_cell BK264.out 0).trans rfl, (blk_cell BK264.out 1).trans rfl⟩ (fun hHeld => ?_)
        clear hK K
        refine norm_ (a' := ?_) ?_ ?_
        rotate_left
        · show Act.put _ (some 31) _ = _
          simp only [Act.put, List.setIfInBounds_toArray, List.set_cons_zero, List.set_cons_succ, i64_w, i32_w]
          rfl
        refine pure_ (i := 4) (N := some 32) (v := ?_) (a' := ?_) #[true, true, true, true, true, false, false, false, false, false, false, false, false] rfl rfl (any_of HT_.out (by kernel_rfl)) (fun _ _ _ h => h) (Or.inl ⟨by rfl, ?_⟩) ?_ ?_
        rotate_left
        · intro w'
          go_simp
          with_reducible rfl
        rotate_left
        · simp only [Act.put, List.setIfInBounds_toArray, List.set_cons_zero, List.set_cons_succ, i64_w, i32_w]
          rfl
        refine pure_ (i := 5) (N := some 33) (v := undef) (a' := ?_) #[true, true, true, true, true, true, false, false, false, false, false, false, false] rfl rfl (any_of HT_.out (by kernel_rfl)) (fun _ _ _ h => h) (Or.inr ⟨by rfl, rfl⟩) ?_ ?_
        rotate_left
        · simp only [Act.put, List.setIfInBounds_toArray, List.set_cons_zero, List.set_cons_succ, i64_w, i32_w]
          rfl
        refine pure_ (i := 6) (N := some 34) (v := undef) (a' := ?_) #[true, true, true, true, true, true, true, false, false, false, false, false, false] rfl rfl (any_of HT_.out (by kernel_rfl)) (fun _ _ _ h => h) (Or.inr ⟨by rfl, rfl⟩) ?_ ?_
        rotate_left
        · simp only [Act.put, List.setIfInBounds_toArray, List.set_cons_zero, List.set_cons_succ, i64_w, i32_w]
          rfl
        refine pure_ (i := 7) (N := some 35) (v := undef) (a' := ?_) #[true, true, true, true, true, true, true, true, false, false, false, false, false] rfl rfl (any_of HT_.out (by kernel_rfl)) (fun _ _ _ h => h) (Or.inr ⟨by rfl, rfl⟩) ?_ ?_
        rotate_left
        · simp only [Act.put, List.setIfInBounds_toArray, List.set_cons_zero, List.set_cons_succ, i64_w, i32_w]
          rfl
        refine pure_ (i := 8) (N := some 36) (v := undef) (a' := ?_) #[true, true, true, true, true, true, true, true, true, false, false, false, false] rfl rfl (any_of HT_.out (by kernel_rfl)) (fun _ _ _ h => h) (Or.inr ⟨by rfl, rfl⟩) ?_ ?_
        rotate_left
        · simp only [Act.put, List.setIfInBounds_toArray, List.set_cons_zero, List.set_cons_succ, i64_w, i32_w]
          rfl
        refine pure_ (i := 9) (N := some 37) (v := undef) (a' := ?_) #[true, true, true, true, true, true, true, true, true, true, false, false, false] rfl rfl (any_of HT_.out (by kernel_rfl)) (fun _ _ _ h => h) (Or.inr ⟨by rfl, rfl⟩) ?_ ?_
        rotate_left
        · simp only [Act.put, List.setIfInBounds_toArray, List.set_cons_zero, List.set_cons_succ, i64_w, i32_w]
          rfl
        refine pure_ (i := 10) (N := some 38) (v := ?_) (a' := ?_) #[true, true, true, true, true, true, true, true, true, true, true, false, false] rfl rfl (any_of HT_.out (by kernel_rfl)) (fun _ _ _ h => h) (Or.inl ⟨by rfl, ?_⟩) ?_ ?_
        rotate_left
        · intro w'
          go_simp
          with_reducible rfl
        rotate_left
        · simp only [Act.put, List.setIfInBounds_toArray, List.set_cons_zero, List.set_cons_succ, i64_w, i32_w]
          rfl
        refine one_ (i := 11) (N := none) #[true, true, true, true, true, true, true, true, true, true, true, true, false] rfl rfl (one_of HT_.out (by kernel_rfl)) (by decide) (fun K hK => ?_)
        have hs60 : w59.cell? ⟨gb263, 0, none⟩ = some (.int .i64 0) := (blk_cell BK263.out 0).trans rfl
        have hfs60 := blk_frozen BK263.out 0
        have hns60_1 := NB264_263.out
        have hms60_1 := NB263_264.out
        have hs61 : w59.cell? ⟨gb263, 1, none⟩ = some (.string (⟨#[]⟩ : ByteArray)) := (blk_cell BK263.out 1).trans rfl
        have hfs61 := blk_frozen BK263.out 1
        have hns61_1 := NB264_263.out
        have hms61_1 := NB263_264.out
        refine skip_ (w1 := ?_) (by rfl) rfl ?_ ?_
        rotate_left
        · go_simp
          rfl
        refine hK.out _ _ ⟨((cell_far (p := ⟨gb263, _, none⟩) NB264_263.out _).trans (((cell_far (p := ⟨gb263, _, none⟩) NB264_263.out _).trans (hHeld.1)))), ((cell_far (p := ⟨gb263, _, none⟩) NB264_263.out _).trans (((cell_far (p := ⟨gb263, _, none⟩) NB264_263.out _).trans (hHeld.2))))⟩ (fun hHeld => ?_)
        clear hK K
        refine pure_ (i := 12) (N := some 5) (v := ?_) (a' := ?_) #[true, true, true, true, true, true, true, true, true, true, true, true, true] rfl rfl (any_of HT_.out (by kernel_rfl)) (fun _ _ _ h => h) (Or.inl ⟨by rfl, ?_⟩) ?_ ?_
        rotate_left
        · intro w'
          go_simp
          with_reducible rfl
        rotate_left
        · simp only [Act.put, List.setIfInBounds_toArray, List.set_cons_zero, List.set_cons_succ, i64_w, i32_w]
          rfl
        refine done_ (done_of HT_.out (by kernel_rfl)) ?_
        try go_wp2
        refine bodyPost_ret (results_ct rfl _ _ gb263 27 #[.int .i64 ((rd_T27 t271 0).f0), .string ((rd_T27 t271 0).f1)] (0, 0) _ rfl (by (with_reducible repeat (first | refine blk_drewN ?_ _ | refine blk_drew ?_ | refine blk_alloc ?_ _)); refine blk_put (cs := #[.int .i64 ((rd_T27 t271 0).f0), .string (⟨#[]⟩ : ByteArray)]) ?_ 1 _ rfl; (with_reducible repeat (first | refine blk_drewN ?_ _ | refine blk_drew ?_ | refine blk_alloc ?_ _)); refine blk_put (cs := #[.int .i64 0, .string (⟨#[]⟩ : ByteArray)]) ?_ 0 _ rfl; (with_reducible repeat (first | refine blk_drewN ?_ _ | refine blk_drew ?_ | refine blk_alloc ?_ _)); exact BK263.out) Try.underlying27 rfl (by kernel_rfl)) rfl ?_
        exact fin_ (below_later HB.out)
    · replace c28 := Bool.eq_false_iff.mpr c28
      subst c28
      replace H := ifn Bool.false_ne_true H
      simp only [Option.some.injEq, Prod.mk.injEq] at H
      obtain ⟨rfl, rfl, rfl⟩ := H
      go_enter Try.func46, Try.ntmps46
      go_wp2_with (first | ((with_reducible refine gate_dst (N := 4) rfl ?_); refine bx_ 4 #[.int .i64 0, .string (⟨#[]⟩ : ByteArray)] 27 ?_; intro gb263 hg w62 hbox hb; have BK263 := Aside0.mk (hbox); have GW263 := gwe HB hg; have GE263 := GW263; replace HB := bst HB hb; clear hb hbox hg) | ((with_reducible refine gate_dst (N := 6) rfl ?_); refine bx_ 6 #[.int .i64 0, .string (⟨#[]⟩ : ByteArray)] 27 ?_; intro gb264 hg w63 hbox hb; have BK264 := Aside0.mk (hbox); have GW264 := gwe HB hg; have GE264 := GW264; have NB263_264 := nbl BK263 hg; have NB264_263 := nbr (nbl BK263 hg); replace BK263 := bkb BK263 hb; replace HB := bst HB hb; clear hb hbox hg; have hnb64 := NB264_263.out; have hnc64 := NB263_264.out; obtain ⟨hcz65_0, hcz65_1, hfz65_0, hfz65_1⟩ := cl2 BK264) | ((with_reducible refine gate_dst (N := 17) rfl ?_); refine Go.Proofs.YtgiljoeekpfpmaaW.PrintMore2.conv_seen rfl (N := 17) rfl 9 41 5 _ rfl Try.underlying9 Try.underlying41 Try.underlying5 a1 rfl (by have := LMc26.out; omega) y267 Ny267.out ?_; intro Av67 cv67 w66 hr_ hc_ hb; replace BK263 := bkb BK263 hb; replace BK264 := Aside0.mk (blk_below (g := gb264) (o := .cells #[.int .i64 0, .string a1] 27 (0, 0)) (blk_later BK264.out) hb); replace HB := bst HB hb; have HR270 := Aside0.mk hr_; have HC270 := Aside0.mk hc_; clear hr_ hc_ hb) | ((with_reducible refine gate_callee (f := 71) rfl ?_); refine gl_ (some 18) Try.func71 #[.int .i64 a0, .slice Av67 y267.length cv67, .int .i64 0, .int .i64 1] rfl ?_; (with_reducible refine (spec_PlainRead.calls k a0 _ _ y267 0 1 t271 t272 false _ ?side1 ?side2 A27.out).mono ?_); (case side1 => repeat (first | exact (by repeat (first | (with_reducible exact HR270.out) | (with_reducible refine Kd.C_alloc ?_ _) | (with_reducible refine Kd.C_drewN ?_ _) | (with_reducible refine Kd.C_drew ?_) | exact HR270.out)) | (with_reducible refine Kd.C_alloc ?_ _) | (with_reducible refine Kd.C_drewN ?_ _) | (with_reducible refine Kd.C_drew ?_))); (case side2 => exact HC270.out); rintro e w68 ⟨v274, rfl, ho0, hb⟩; refine ⟨_, rfl, ?_⟩; have HO275 := Aside0.mk (Kd.R_lower (Kd.R_newB (Kd.R_newB ho0 (g := gb263) (o := .cells #[.int .i64 0, .string (⟨#[]⟩ : ByteArray)] 27 (0, 0)) (blk_later BK263.out)) (blk_later BK264.out)) (below_size (below_later HB.out))); replace BK263 := bkb BK263 hb; replace BK264 := bkb BK264 hb; replace HR270 := Aside0.mk (Kd.C_below (by repeat (first | (with_reducible exact HR270.out) | (with_reducible refine Kd.C_alloc ?_ _) | (with_reducible refine Kd.C_drewN ?_ _) | (with_reducible refine Kd.C_drew ?_) | exact HR270.out)) hb); replace HB := bst HB hb; (try clear hb); (try clear ho0); obtain ⟨hcz69_0, hcz69_1, hfz69_0, hfz69_1⟩ := cl2 BK263))
      refine bodyPost_ret (results_ct rfl _ _ gb263 27 #[.int .i64 0, .string (⟨#[]⟩ : ByteArray)] (0, 0) _ rfl (by (with_reducible repeat (first | refine blk_drewN ?_ _ | refine blk_drew ?_ | refine blk_alloc ?_ _)); refine blk_put (cs := #[.int .i64 0, .string (⟨#[]⟩ : ByteArray)]) ?_ 1 _ rfl; (with_reducible repeat (first | refine blk_drewN ?_ _ | refine blk_drew ?_ | refine blk_alloc ?_ _)); refine blk_put (cs := #[.int .i64 0, .string (⟨#[]⟩ : ByteArray)]) ?_ 0 _ rfl; (with_reducible repeat (first | refine blk_drewN ?_ _ | refine blk_drew ?_ | refine blk_alloc ?_ _)); exact BK263.out) Try.underlying27 rfl (by kernel_rfl)) rfl ?_
      exact fin_ (below_later HB.out)
/-! ### spec_FloatKey: function 90 -/
def spec_FloatKey.f (a0 : Int) : Option (Int) := if a0 < 0 then (some (Go.bits .xor .i64 a0 9223372036854775807)) else (some a0)
set_option maxHeartbeats 8000000 in
set_option maxRecDepth 100000 in
theorem spec_FloatKey.calls (a0 : Int) (r : Int) (w : World) (h : spec_FloatKey.f a0 = some r) :
    Calls Try.prog 90 #[.int .i64 a0] w fun e w' => e = .returned (.int .i64 r) ∧ Drawn0 w w' := by
  have H : (if a0 < 0 then (some (Go.bits .xor .i64 a0 9223372036854775807)) else (some a0)) = some r := h
  clear h
  by_cases c2 : a0 < 0
  · rw [if_pos c2] at H
    have c2b0 := decide_eq_true c2
    clear c2
    obtain rfl := Option.some.inj H
    go_enter Try.func90, Try.ntmps90
    go_wp2
    go_ret
    exact ⟨by first | rfl | (simp; done) | (simp [*]; done), by repeat (first | exact Drawn0.refl _ | apply Drawn0.step)⟩
  · rw [if_neg c2] at H
    have c2b0 := decide_eq_false c2
    clear c2
    obtain rfl := Option.some.inj H
    go_enter Try.func90, Try.ntmps90
    go_wp2
    go_ret
    exact ⟨by first | rfl | (simp; done) | (simp [*]; done), by repeat (first | exact Drawn0.refl _ | apply Drawn0.step)⟩

end Go.Proofs.Ytgiljoeekpfpmaa.PFnExactStatsFrom
