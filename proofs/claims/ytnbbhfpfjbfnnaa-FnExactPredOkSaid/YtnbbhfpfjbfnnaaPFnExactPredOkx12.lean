/- The machine's side of FnExactPredOk, written by wip/tools/hyb.py of this repo: each Go function as a plain Lean function, and the proof that the call comes to just its answer. No condition. -/
import Derived.Test.YtnbbhfpfjbfnnaaPFnExactPredOkx0
import Derived.Test.YtnbbhfpfjbfnnaaPFnExactPredOkx1
import Derived.Test.YtnbbhfpfjbfnnaaPFnExactPredOkx2
import Derived.Test.YtnbbhfpfjbfnnaaPFnExactPredOkx9
import Derived.Test.YtnbbhfpfjbfnnaaPFnExactPredOkx10
import Derived.Test.YtnbbhfpfjbfnnaaPFnExactPredOkx11
namespace Go.Proofs.Ytnbbhfpfjbfnnaa.PFnExactPredOk
open Go.RowKit Go.Proofs.YtnbbhfpfjbfnnaaW.PrintWords Go.Proofs.YtnbbhfpfjbfnnaaW.PrintLast Go.Proofs.YtnbbhfpfjbfnnaaW.PrintMore Go.Proofs.YtnbbhfpfjbfnnaaW.PrintMore2
attribute [local go_sem] max2_int min2_int max_two min_two max_three min_three max_four min_four   -- for this text's walks alone
set_option linter.unusedVariables false
set_option linter.unusedSimpArgs false

attribute [local go_sem high] eqA55 eqA71
/-! ### impl_plainPred: function 47 -/
def impl_plainPred.j0 : Nat → Bool → Int → Int → Int → ByteArray → Int → Int → Int → Int → Int → Option (Bool)
  | 0, _, _, _, _, _, _, _, _, _, _ => none
  | k + 1, x30, x309000, x309001, x309002, x309003, x309004, x309005, x314000, x314001, x314002 => if x30 = true then (some false) else (if x309000 = 4 then (some (x309002 == 0 && (x309003.toList == ([] : List UInt8)))) else ((impl_ValOk.f x314000 x309002 x309003).bind fun t314 => (some t314)))
def impl_plainPred.f (k : Nat) (l0 : List (S73)) (a1_0 : Int) (a1_1 : Int) (a1_2 : Int) (a1_3 : ByteArray) (a1_4 : Int) (a1_5 : Int) : Option (Bool) := (impl_LeafOf.f k l0 a1_1).bind fun bt309 => (if bt309.2.2.2 = true then (if bt309.2.1 = 0 then (if a1_4 = 0 then (impl_plainPred.j0 k (a1_5 != 0) a1_0 a1_1 a1_2 a1_3 a1_4 a1_5 bt309.1 bt309.2.1 bt309.2.2.1) else (impl_plainPred.j0 k true a1_0 a1_1 a1_2 a1_3 a1_4 a1_5 bt309.1 bt309.2.1 bt309.2.2.1)) else (impl_plainPred.j0 k true a1_0 a1_1 a1_2 a1_3 a1_4 a1_5 bt309.1 bt309.2.1 bt309.2.2.1)) else (impl_plainPred.j0 k true a1_0 a1_1 a1_2 a1_3 a1_4 a1_5 bt309.1 bt309.2.1 bt309.2.2.1))
theorem impl_plainPred.mono_l : ∀ k, (∀ y0 y1 y2 y3 y4 y5 y6 y7 y8 y9, LeO (impl_plainPred.j0 k y0 y1 y2 y3 y4 y5 y6 y7 y8 y9) (impl_plainPred.j0 (k + 1) y0 y1 y2 y3 y4 y5 y6 y7 y8 y9))
  | 0 => fun _ _ _ _ _ _ _ _ _ _ r h => by simp [impl_plainPred.j0] at h
  | k + 1 => by
    have ih0 := impl_plainPred.mono_l k
    · intro y0 y1 y2 y3 y4 y5 y6 y7 y8 y9
      unfold impl_plainPred.j0
      repeat' first
      | (with_reducible exact ih0 _ _ _ _ _ _ _ _ _ _)
      | (with_reducible exact impl_LeafOf.mono _ _ _)
      | (with_reducible exact LeO.refl _)
      | (with_reducible exact LeO.none _)
      | (with_reducible refine LeO.ite ?_ ?_)
      | (with_reducible refine LeO.bind ?_ (fun _ => ?_))
      | exact ih0 _ _ _ _ _ _ _ _ _ _
      | exact impl_LeafOf.mono _ _ _
      | exact LeO.none _
      | refine LeO.ite ?_ ?_
      | refine LeO.bind ?_ (fun _ => ?_)
theorem impl_plainPred.mono : ∀ a0 a1 a2 a3 a4 a5 a6 k, LeO (impl_plainPred.f k a0 a1 a2 a3 a4 a5 a6) (impl_plainPred.f (k + 1) a0 a1 a2 a3 a4 a5 a6) := by
  intro a0 a1 a2 a3 a4 a5 a6 k
  have ih0 := impl_plainPred.mono_l k
  unfold impl_plainPred.f
  repeat' first
      | (with_reducible exact ih0 _ _ _ _ _ _ _ _ _ _)
      | (with_reducible exact impl_LeafOf.mono _ _ _)
      | (with_reducible exact LeO.refl _)
      | (with_reducible exact LeO.none _)
      | (with_reducible refine LeO.ite ?_ ?_)
      | (with_reducible refine LeO.bind ?_ (fun _ => ?_))
      | exact ih0 _ _ _ _ _ _ _ _ _ _
      | exact impl_LeafOf.mono _ _ _
      | exact LeO.none _
      | refine LeO.ite ?_ ?_
      | refine LeO.bind ?_ (fun _ => ?_)
set_option maxHeartbeats 8000000 in
set_option maxRecDepth 100000 in
theorem impl_plainPred.calls (k : Nat) (A0 : Option Addr) (c0 : Nat) (l0 : List (S73)) (a1_0 : Int) (a1_1 : Int) (a1_2 : Int) (a1_3 : ByteArray) (a1_4 : Int) (a1_5 : Int) (r : Bool) (w : World) (hr0 : Kd.C k73 w A0 l0.length l0) (hc0 : l0.length ≤ c0) (h : impl_plainPred.f k l0 a1_0 a1_1 a1_2 a1_3 a1_4 a1_5 = some r) :
    Calls Try.prog 47 #[.slice A0 l0.length c0, .agg #[.int .i64 a1_0, .int .i64 a1_1, .int .i64 a1_2, .string a1_3, .int .i64 a1_4, .int .i64 a1_5]] w fun e w' => e = .returned (.bool r) ∧ Below w.heap.size w w' := by
  have hu71 := Try.underlying71
  have hu92 := Try.underlying92
  have hu55 := Try.underlying55
  have HR0 := Aside0.mk hr0
  have HC0 := Aside0.mk hc0
  clear hr0 hc0
  have HB := Aside0.mk (Below.refl w.heap.size w)
  have H : ((impl_LeafOf.f k l0 a1_1).bind fun bt309 => (if bt309.2.2.2 = true then (if bt309.2.1 = 0 then (if a1_4 = 0 then (impl_plainPred.j0 k (a1_5 != 0) a1_0 a1_1 a1_2 a1_3 a1_4 a1_5 bt309.1 bt309.2.1 bt309.2.2.1) else (impl_plainPred.j0 k true a1_0 a1_1 a1_2 a1_3 a1_4 a1_5 bt309.1 bt309.2.1 bt309.2.2.1)) else (impl_plainPred.j0 k true a1_0 a1_1 a1_2 a1_3 a1_4 a1_5 bt309.1 bt309.2.1 bt309.2.2.1)) else (impl_plainPred.j0 k true a1_0 a1_1 a1_2 a1_3 a1_4 a1_5 bt309.1 bt309.2.1 bt309.2.2.1))) = some r := h
  clear h
  replace H := Option.bind_eq_some_iff.mp H
  obtain ⟨⟨t309, t310, t311, t312⟩, A30, H⟩ := H
  replace H : (if t312 = true then (if t310 = 0 then (if a1_4 = 0 then (impl_plainPred.j0 k (a1_5 != 0) a1_0 a1_1 a1_2 a1_3 a1_4 a1_5 t309 t310 t311) else (impl_plainPred.j0 k true a1_0 a1_1 a1_2 a1_3 a1_4 a1_5 t309 t310 t311)) else (impl_plainPred.j0 k true a1_0 a1_1 a1_2 a1_3 a1_4 a1_5 t309 t310 t311)) else (impl_plainPred.j0 k true a1_0 a1_1 a1_2 a1_3 a1_4 a1_5 t309 t310 t311)) = some r := H
  have A3 := Aside0.mk A30
  clear A30
  have HC4 := Aside0.mk H
  clear H
  go_enter Try.func47, Try.ntmps47
  go_upto_region 2 with (first | ((with_reducible refine gate_dst (N := 3) rfl ?_); refine box_event ?hg (N := 3) ?hd (cs := #[.int .i64 a1_0, .int .i64 a1_1, .int .i64 a1_2, .string a1_3, .int .i64 a1_4, .int .i64 a1_5]) (t := 71) ?hr ?_; (case hd => rfl); (case hg => rfl); (case hr => first | (go_simp; done) | (go_simp; rfl)); intro gb308 hg w5 hbox hb; have n0_ := Aside0.mk (below_step (below_later HB.out) hb); have n1_ := Aside0.mk (hbox); have n2_ := Aside0.mk ((by rw [hg]; exact (below_size (below_later HB.out)) : w.heap.size ≤ gb308)); have n3_ := Aside0.mk ((by rw [hg]; exact (below_size (below_later HB.out)) : w.heap.size ≤ gb308)); clear HB; have HB := n0_; have BK308 := n1_; have GW308 := n2_; have GE308 := n3_; clear n0_ n1_ n2_ n3_; clear hb hbox hg; have hcz6_0 : w5.cell? ⟨gb308, 0, none⟩ = some (.int .i64 a1_0) := (blk_cell BK308.out 0).trans rfl; have hcz6_1 : w5.cell? ⟨gb308, 1, none⟩ = some (.int .i64 a1_1) := (blk_cell BK308.out 1).trans rfl; have hcz6_2 : w5.cell? ⟨gb308, 2, none⟩ = some (.int .i64 a1_2) := (blk_cell BK308.out 2).trans rfl; have hcz6_3 : w5.cell? ⟨gb308, 3, none⟩ = some (.string a1_3) := (blk_cell BK308.out 3).trans rfl; have hcz6_4 : w5.cell? ⟨gb308, 4, none⟩ = some (.int .i64 a1_4) := (blk_cell BK308.out 4).trans rfl; have hcz6_5 : w5.cell? ⟨gb308, 5, none⟩ = some (.int .i64 a1_5) := (blk_cell BK308.out 5).trans rfl; have hfz6_0 := blk_frozen BK308.out 0; have hfz6_1 := blk_frozen BK308.out 1; have hfz6_2 := blk_frozen BK308.out 2; have hfz6_3 := blk_frozen BK308.out 3; have hfz6_4 := blk_frozen BK308.out 4; have hfz6_5 := blk_frozen BK308.out 5) | ((with_reducible refine gate_callee (f := 82) rfl ?_); refine goesL_ (some 11) rfl rfl Try.func82 (by kernel_rfl) rfl #[.slice A0 l0.length c0, .int .i64 a1_1] rfl (by (try simp only [List.map_toArray, List.map_cons, List.map_nil]); first | done | rfl | (simp only [List.length_drop, List.length_take]; rfl)) ?_; (with_reducible refine (impl_LeafOf.calls k _ _ l0 a1_1 t309 t310 t311 t312 _ ?side1 ?side2 A3.out).mono ?_); (case side1 => repeat (first | exact (Kd.C_below HR0.out HB.out) | (with_reducible refine Kd.C_alloc ?_ _) | (with_reducible refine Kd.C_drewN ?_ _) | (with_reducible refine Kd.C_drew ?_))); (case side2 => exact HC0.out); rintro e w7 ⟨rfl, hb⟩; refine ⟨_, rfl, ?_⟩; have n0_ := Aside0.mk (blk_below (blk_later BK308.out) hb); have n1_ := Aside0.mk (below_step (below_later HB.out) hb); clear BK308; clear HB; have BK308 := n0_; have HB := n1_; clear n0_ n1_; (try clear hb); (try clear hb2); (try clear hk); (try clear hi)) | ((with_reducible refine gate_dst (N := 5) rfl ?_); refine box_event ?hg (N := 5) ?hd (cs := #[.int .i64 0, .int .i64 0, .int .i64 0]) (t := 92) ?hr ?_; (case hd => rfl); (case hg => rfl); (case hr => first | (go_simp; done) | (go_simp; rfl)); intro gb313 hg w8 hbox hb; have n0_ := Aside0.mk (blk_below (blk_later BK308.out) hb); have n1_ := Aside0.mk (below_step (below_later HB.out) hb); have n2_ := Aside0.mk (hbox); have n3_ := Aside0.mk ((by rw [hg]; exact (below_size (below_later HB.out)) : w.heap.size ≤ gb313)); have n4_ := Aside0.mk ((by rw [hg]; exact (below_size (below_later HB.out)) : w.heap.size ≤ gb313)); have n5_ := Aside0.mk ((by rw [hg]; exact Nat.ne_of_lt (blk_lt (blk_later BK308.out)) : gb308 ≠ gb313)); have n6_ := Aside0.mk ((by rw [hg]; exact Nat.ne_of_gt (blk_lt (blk_later BK308.out)) : gb313 ≠ gb308)); clear BK308; clear HB; have BK308 := n0_; have HB := n1_; have BK313 := n2_; have GW313 := n3_; have GE313 := n4_; have NB308_313 := n5_; have NB313_308 := n6_; clear n0_ n1_ n2_ n3_ n4_ n5_ n6_; clear hb hbox hg; have hnb9 := NB313_308.out; have hnc9 := NB308_313.out; have hcz10_0 : w8.cell? ⟨gb313, 0, none⟩ = some (.int .i64 0) := (blk_cell BK313.out 0).trans rfl; have hcz10_1 : w8.cell? ⟨gb313, 1, none⟩ = some (.int .i64 0) := (blk_cell BK313.out 1).trans rfl; have hcz10_2 : w8.cell? ⟨gb313, 2, none⟩ = some (.int .i64 0) := (blk_cell BK313.out 2).trans rfl; have hfz10_0 := blk_frozen BK313.out 0; have hfz10_1 := blk_frozen BK313.out 1; have hfz10_2 := blk_frozen BK313.out 2))
  (try simp only [Act.put, List.setIfInBounds_toArray, List.set_cons_zero, List.set_cons_succ])
  go_cut [30] (fun v30 wc => ∃ (kq : Nat) (x30_3 : Bool), v30 = .bool x30_3 ∧ Aside0 (impl_plainPred.j0 kq x30_3 a1_0 a1_1 a1_2 a1_3 a1_4 a1_5 t309 t310 t311 = some r) ∧ Aside0 (kq ≤ k) ∧ Aside0 (wc.heap[gb308]? = some (.cells #[.int .i64 a1_0, .int .i64 a1_1, .int .i64 a1_2, .string a1_3, .int .i64 a1_4, .int .i64 a1_5] 71 (0, 0))) ∧ Aside0 (wc.heap[gb313]? = some (.cells #[.int .i64 t309, .int .i64 t310, .int .i64 t311] 92 (0, 0))) ∧ Aside0 (Below w.heap.size w wc))
  case first =>
    have H := HC4.out
    clear HC4
    by_cases c11 : t312 = true
    · subst c11
      have H1 : (if t310 = 0 then (if a1_4 = 0 then (impl_plainPred.j0 k (a1_5 != 0) a1_0 a1_1 a1_2 a1_3 a1_4 a1_5 t309 t310 t311) else (impl_plainPred.j0 k true a1_0 a1_1 a1_2 a1_3 a1_4 a1_5 t309 t310 t311)) else (impl_plainPred.j0 k true a1_0 a1_1 a1_2 a1_3 a1_4 a1_5 t309 t310 t311)) = some r := by rw [if_pos rfl] at H; exact H
      clear H
      have H := H1
      clear H1
      by_cases c12 : t310 = 0
      · rw [if_pos c12] at H
        have c12b0 : (t310 == 0) = true := beq_iff_eq.mpr c12
        have c12b1 : (t310 != 0) = false := bne_eq_false_iff_eq.mpr c12
        clear c12
        (first | rw [c12b0] | rw [c12b1] | (simp only [i64_w, i32_w]; rw [c12b0]) | skip)
        by_cases c13 : a1_4 = 0
        · rw [if_pos c13] at H
          have c13b0 : (a1_4 == 0) = true := beq_iff_eq.mpr c13
          have c13b1 : (a1_4 != 0) = false := bne_eq_false_iff_eq.mpr c13
          clear c13
          have H' := Aside0.mk H
          clear H
          have hnb14 := NB313_308.out
          have hnc14 := NB308_313.out
          have hcz15_0 : w8.cell? ⟨gb313, 0, none⟩ = some (.int .i64 0) := (blk_cell BK313.out 0).trans rfl
          have hcz15_1 : w8.cell? ⟨gb313, 1, none⟩ = some (.int .i64 0) := (blk_cell BK313.out 1).trans rfl
          have hcz15_2 : w8.cell? ⟨gb313, 2, none⟩ = some (.int .i64 0) := (blk_cell BK313.out 2).trans rfl
          have hfz15_0 := blk_frozen BK313.out 0
          have hfz15_1 := blk_frozen BK313.out 1
          have hfz15_2 := blk_frozen BK313.out 2
          have hcz16_0 : w8.cell? ⟨gb308, 0, none⟩ = some (.int .i64 a1_0) := (blk_cell BK308.out 0).trans rfl
          have hcz16_1 : w8.cell? ⟨gb308, 1, none⟩ = some (.int .i64 a1_1) := (blk_cell BK308.out 1).trans rfl
          have hcz16_2 : w8.cell? ⟨gb308, 2, none⟩ = some (.int .i64 a1_2) := (blk_cell BK308.out 2).trans rfl
          have hcz16_3 : w8.cell? ⟨gb308, 3, none⟩ = some (.string a1_3) := (blk_cell BK308.out 3).trans rfl
          have hcz16_4 : w8.cell? ⟨gb308, 4, none⟩ = some (.int .i64 a1_4) := (blk_cell BK308.out 4).trans rfl
          have hcz16_5 : w8.cell? ⟨gb308, 5, none⟩ = some (.int .i64 a1_5) := (blk_cell BK308.out 5).trans rfl
          have hfz16_0 := blk_frozen BK308.out 0
          have hfz16_1 := blk_frozen BK308.out 1
          have hfz16_2 := blk_frozen BK308.out 2
          have hfz16_3 := blk_frozen BK308.out 3
          have hfz16_4 := blk_frozen BK308.out 4
          have hfz16_5 := blk_frozen BK308.out 5
          go_wp2
          go_meet
          case rel => exact ⟨_, ((a1_5 != 0)), (by first | rfl | (simp; done) | (simp [*]; done)), H', ⟨by first | omega | exact Nat.le_refl _⟩, ⟨by (with_reducible repeat (first | refine blk_drewN ?_ _ | refine blk_drew ?_ | refine blk_alloc ?_ _)); refine blk_far ?_ NB308_313.out _; (with_reducible repeat (first | refine blk_drewN ?_ _ | refine blk_drew ?_ | refine blk_alloc ?_ _)); refine blk_far ?_ NB308_313.out _; (with_reducible repeat (first | refine blk_drewN ?_ _ | refine blk_drew ?_ | refine blk_alloc ?_ _)); refine blk_far ?_ NB308_313.out _; (with_reducible repeat (first | refine blk_drewN ?_ _ | refine blk_drew ?_ | refine blk_alloc ?_ _)); exact BK308.out⟩, ⟨by (with_reducible repeat (first | refine blk_drewN ?_ _ | refine blk_drew ?_ | refine blk_alloc ?_ _)); refine blk_put (cs := #[.int .i64 t309, .int .i64 t310, .int .i64 0]) ?_ 2 _ rfl; (with_reducible repeat (first | refine blk_drewN ?_ _ | refine blk_drew ?_ | refine blk_alloc ?_ _)); refine blk_put (cs := #[.int .i64 t309, .int .i64 0, .int .i64 0]) ?_ 1 _ rfl; (with_reducible repeat (first | refine blk_drewN ?_ _ | refine blk_drew ?_ | refine blk_alloc ?_ _)); refine blk_put (cs := #[.int .i64 0, .int .i64 0, .int .i64 0]) ?_ 0 _ rfl; (with_reducible repeat (first | refine blk_drewN ?_ _ | refine blk_drew ?_ | refine blk_alloc ?_ _)); exact BK313.out⟩, ⟨below_later HB.out⟩⟩
        · rw [if_neg c13] at H
          have c13b0 : (a1_4 == 0) = false := beq_eq_false_iff_ne.mpr c13
          have c13b1 : (a1_4 != 0) = true := bne_iff_ne.mpr c13
          have H' := Aside0.mk H
          clear H
          have hnb17 := NB313_308.out
          have hnc17 := NB308_313.out
          have hcz18_0 : w8.cell? ⟨gb313, 0, none⟩ = some (.int .i64 0) := (blk_cell BK313.out 0).trans rfl
          have hcz18_1 : w8.cell? ⟨gb313, 1, none⟩ = some (.int .i64 0) := (blk_cell BK313.out 1).trans rfl
          have hcz18_2 : w8.cell? ⟨gb313, 2, none⟩ = some (.int .i64 0) := (blk_cell BK313.out 2).trans rfl
          have hfz18_0 := blk_frozen BK313.out 0
          have hfz18_1 := blk_frozen BK313.out 1
          have hfz18_2 := blk_frozen BK313.out 2
          have hcz19_0 : w8.cell? ⟨gb308, 0, none⟩ = some (.int .i64 a1_0) := (blk_cell BK308.out 0).trans rfl
          have hcz19_1 : w8.cell? ⟨gb308, 1, none⟩ = some (.int .i64 a1_1) := (blk_cell BK308.out 1).trans rfl
          have hcz19_2 : w8.cell? ⟨gb308, 2, none⟩ = some (.int .i64 a1_2) := (blk_cell BK308.out 2).trans rfl
          have hcz19_3 : w8.cell? ⟨gb308, 3, none⟩ = some (.string a1_3) := (blk_cell BK308.out 3).trans rfl
          have hcz19_4 : w8.cell? ⟨gb308, 4, none⟩ = some (.int .i64 a1_4) := (blk_cell BK308.out 4).trans rfl
          have hcz19_5 : w8.cell? ⟨gb308, 5, none⟩ = some (.int .i64 a1_5) := (blk_cell BK308.out 5).trans rfl
          have hfz19_0 := blk_frozen BK308.out 0
          have hfz19_1 := blk_frozen BK308.out 1
          have hfz19_2 := blk_frozen BK308.out 2
          have hfz19_3 := blk_frozen BK308.out 3
          have hfz19_4 := blk_frozen BK308.out 4
          have hfz19_5 := blk_frozen BK308.out 5
          go_wp2
          go_meet
          case rel => exact ⟨_, (true), (by first | rfl | (simp; done) | (simp [*]; done)), H', ⟨by first | omega | exact Nat.le_refl _⟩, ⟨by (with_reducible repeat (first | refine blk_drewN ?_ _ | refine blk_drew ?_ | refine blk_alloc ?_ _)); refine blk_far ?_ NB308_313.out _; (with_reducible repeat (first | refine blk_drewN ?_ _ | refine blk_drew ?_ | refine blk_alloc ?_ _)); refine blk_far ?_ NB308_313.out _; (with_reducible repeat (first | refine blk_drewN ?_ _ | refine blk_drew ?_ | refine blk_alloc ?_ _)); refine blk_far ?_ NB308_313.out _; (with_reducible repeat (first | refine blk_drewN ?_ _ | refine blk_drew ?_ | refine blk_alloc ?_ _)); exact BK308.out⟩, ⟨by (with_reducible repeat (first | refine blk_drewN ?_ _ | refine blk_drew ?_ | refine blk_alloc ?_ _)); refine blk_put (cs := #[.int .i64 t309, .int .i64 t310, .int .i64 0]) ?_ 2 _ rfl; (with_reducible repeat (first | refine blk_drewN ?_ _ | refine blk_drew ?_ | refine blk_alloc ?_ _)); refine blk_put (cs := #[.int .i64 t309, .int .i64 0, .int .i64 0]) ?_ 1 _ rfl; (with_reducible repeat (first | refine blk_drewN ?_ _ | refine blk_drew ?_ | refine blk_alloc ?_ _)); refine blk_put (cs := #[.int .i64 0, .int .i64 0, .int .i64 0]) ?_ 0 _ rfl; (with_reducible repeat (first | refine blk_drewN ?_ _ | refine blk_drew ?_ | refine blk_alloc ?_ _)); exact BK313.out⟩, ⟨below_later HB.out⟩⟩
      · rw [if_neg c12] at H
        have c12b0 : (t310 == 0) = false := beq_eq_false_iff_ne.mpr c12
        have c12b1 : (t310 != 0) = true := bne_iff_ne.mpr c12
        (first | rw [c12b0] | rw [c12b1] | (simp only [i64_w, i32_w]; rw [c12b0]) | skip)
        have H' := Aside0.mk H
        clear H
        have hnb20 := NB313_308.out
        have hnc20 := NB308_313.out
        have hcz21_0 : w8.cell? ⟨gb313, 0, none⟩ = some (.int .i64 0) := (blk_cell BK313.out 0).trans rfl
        have hcz21_1 : w8.cell? ⟨gb313, 1, none⟩ = some (.int .i64 0) := (blk_cell BK313.out 1).trans rfl
        have hcz21_2 : w8.cell? ⟨gb313, 2, none⟩ = some (.int .i64 0) := (blk_cell BK313.out 2).trans rfl
        have hfz21_0 := blk_frozen BK313.out 0
        have hfz21_1 := blk_frozen BK313.out 1
        have hfz21_2 := blk_frozen BK313.out 2
        go_wp2
        go_meet
        case rel => exact ⟨_, (true), (by first | rfl | (simp; done) | (simp [*]; done)), H', ⟨by first | omega | exact Nat.le_refl _⟩, ⟨by (with_reducible repeat (first | refine blk_drewN ?_ _ | refine blk_drew ?_ | refine blk_alloc ?_ _)); refine blk_far ?_ NB308_313.out _; (with_reducible repeat (first | refine blk_drewN ?_ _ | refine blk_drew ?_ | refine blk_alloc ?_ _)); refine blk_far ?_ NB308_313.out _; (with_reducible repeat (first | refine blk_drewN ?_ _ | refine blk_drew ?_ | refine blk_alloc ?_ _)); refine blk_far ?_ NB308_313.out _; (with_reducible repeat (first | refine blk_drewN ?_ _ | refine blk_drew ?_ | refine blk_alloc ?_ _)); exact BK308.out⟩, ⟨by (with_reducible repeat (first | refine blk_drewN ?_ _ | refine blk_drew ?_ | refine blk_alloc ?_ _)); refine blk_put (cs := #[.int .i64 t309, .int .i64 t310, .int .i64 0]) ?_ 2 _ rfl; (with_reducible repeat (first | refine blk_drewN ?_ _ | refine blk_drew ?_ | refine blk_alloc ?_ _)); refine blk_put (cs := #[.int .i64 t309, .int .i64 0, .int .i64 0]) ?_ 1 _ rfl; (with_reducible repeat (first | refine blk_drewN ?_ _ | refine blk_drew ?_ | refine blk_alloc ?_ _)); refine blk_put (cs := #[.int .i64 0, .int .i64 0, .int .i64 0]) ?_ 0 _ rfl; (with_reducible repeat (first | refine blk_drewN ?_ _ | refine blk_drew ?_ | refine blk_alloc ?_ _)); exact BK313.out⟩, ⟨below_later HB.out⟩⟩
    · replace c11 := Bool.eq_false_iff.mpr c11
      subst c11
      have H1 : (impl_plainPred.j0 k true a1_0 a1_1 a1_2 a1_3 a1_4 a1_5 t309 t310 t311) = some r := by rw [if_neg (show ¬ (false = true) by decide)] at H; exact H
      clear H
      have H := H1
      clear H1
      have H' := Aside0.mk H
      clear H
      go_wp2
      go_meet
      case rel => exact ⟨_, (true), (by first | rfl | (simp; done) | (simp [*]; done)), H', ⟨by first | omega | exact Nat.le_refl _⟩, ⟨by (with_reducible repeat (first | refine blk_drewN ?_ _ | refine blk_drew ?_ | refine blk_alloc ?_ _)); refine blk_far ?_ NB308_313.out _; (with_reducible repeat (first | refine blk_drewN ?_ _ | refine blk_drew ?_ | refine blk_alloc ?_ _)); refine blk_far ?_ NB308_313.out _; (with_reducible repeat (first | refine blk_drewN ?_ _ | refine blk_drew ?_ | refine blk_alloc ?_ _)); refine blk_far ?_ NB308_313.out _; (with_reducible repeat (first | refine blk_drewN ?_ _ | refine blk_drew ?_ | refine blk_alloc ?_ _)); exact BK308.out⟩, ⟨by (with_reducible repeat (first | refine blk_drewN ?_ _ | refine blk_drew ?_ | refine blk_alloc ?_ _)); refine blk_put (cs := #[.int .i64 t309, .int .i64 t310, .int .i64 0]) ?_ 2 _ rfl; (with_reducible repeat (first | refine blk_drewN ?_ _ | refine blk_drew ?_ | refine blk_alloc ?_ _)); refine blk_put (cs := #[.int .i64 t309, .int .i64 0, .int .i64 0]) ?_ 1 _ rfl; (with_reducible repeat (first | refine blk_drewN ?_ _ | refine blk_drew ?_ | refine blk_alloc ?_ _)); refine blk_put (cs := #[.int .i64 0, .int .i64 0, .int .i64 0]) ?_ 0 _ rfl; (with_reducible repeat (first | refine blk_drewN ?_ _ | refine blk_drew ?_ | refine blk_alloc ?_ _)); exact BK313.out⟩, ⟨below_later HB.out⟩⟩
  case rest =>
    clear HC4
    try clear c1
    try clear c2
    try clear p2
    try clear c4
    try clear c8
    try clear c9
    try clear c11
    try clear c12
    try clear c12b0
    try clear c12b1
    try clear c13
    try clear c13b0
    try clear c13b1
    try clear c14
    try clear c17
    try clear c20
    try clear hcz10_0
    try clear hcz10_1
    try clear hcz10_2
    try clear hcz15_0
    try clear hcz15_1
    try clear hcz15_2
    try clear hcz16_0
    try clear hcz16_1
    try clear hcz16_2
    try clear hcz16_3
    try clear hcz16_4
    try clear hcz16_5
    try clear hcz18_0
    try clear hcz18_1
    try clear hcz18_2
    try clear hcz19_0
    try clear hcz19_1
    try clear hcz19_2
    try clear hcz19_3
    try clear hcz19_4
    try clear hcz19_5
    try clear hcz21_0
    try clear hcz21_1
    try clear hcz21_2
    try clear hcz6_0
    try clear hcz6_1
    try clear hcz6_2
    try clear hcz6_3
    try clear hcz6_4
    try clear hcz6_5
    try clear hfz10_0
    try clear hfz10_1
    try clear hfz10_2
    try clear hfz15_0
    try clear hfz15_1
    try clear hfz15_2
    try clear hfz16_0
    try clear hfz16_1
    try clear hfz16_2
    try clear hfz16_3
    try clear hfz16_4
    try clear hfz16_5
    try clear hfz18_0
    try clear hfz18_1
    try clear hfz18_2
    try clear hfz19_0
    try clear hfz19_1
    try clear hfz19_2
    try clear hfz19_3
    try clear hfz19_4
    try clear hfz19_5
    try clear hfz21_0
    try clear hfz21_1
    try clear hfz21_2
    try clear hfz6_0
    try clear hfz6_1
    try clear hfz6_2
    try clear hfz6_3
    try clear hfz6_4
    try clear hfz6_5
    obtain ⟨kq, x30_3, rfl, HA, HJ3, BK308, BK313, HB⟩ := hcut
    cases kq with
    | zero => exact absurd HA.out (by simp [impl_plainPred.j0])
    | succ kj3 =>
      have H := HA.out
      clear HA
      simp only [impl_plainPred.j0] at H
      by_cases c22 : x30_3 = true
      · subst c22
        have H1 : (some false) = some r := by rw [if_pos rfl] at H; exact H
        clear H
        have H := H1
        clear H1
        obtain rfl := Option.some.inj H
        go_wp2
        go_ret
        exact ⟨by first | rfl | (simp [errW_none, errW_some] <;> rfl) | (simp [*, errW_none, errW_some] <;> rfl), below_later HB.out⟩
      · replace c22 := Bool.eq_false_iff.mpr c22
        subst c22
        have H1 : (if a1_0 = 4 then (some (a1_2 == 0 && (a1_3.toList == ([] : List UInt8)))) else ((impl_ValOk.f t309 a1_2 a1_3).bind fun t314 => (some t314))) = some r := by rw [if_neg (show ¬ (false = true) by decide)] at H; exact H
        clear H
        have H := H1
        clear H1
        by_cases c23 : a1_0 = 4
        · rw [if_pos c23] at H
          have c23b0 : (a1_0 == 4) = true := beq_iff_eq.mpr c23
          have c23b1 : (a1_0 != 4) = false := bne_eq_false_iff_eq.mpr c23
          clear c23
          obtain rfl := Option.some.inj H
          have hnb24 := NB308_313.out
          have hnc24 := NB313_308.out
          have hcz25_0 : wc.cell? ⟨gb308, 0, none⟩ = some (.int .i64 a1_0) := (blk_cell BK308.out 0).trans rfl
          have hcz25_1 : wc.cell? ⟨gb308, 1, none⟩ = some (.int .i64 a1_1) := (blk_cell BK308.out 1).trans rfl
          have hcz25_2 : wc.cell? ⟨gb308, 2, none⟩ = some (.int .i64 a1_2) := (blk_cell BK308.out 2).trans rfl
          have hcz25_3 : wc.cell? ⟨gb308, 3, none⟩ = some (.string a1_3) := (blk_cell BK308.out 3).trans rfl
          have hcz25_4 : wc.cell? ⟨gb308, 4, none⟩ = some (.int .i64 a1_4) := (blk_cell BK308.out 4).trans rfl
          have hcz25_5 : wc.cell? ⟨gb308, 5, none⟩ = some (.int .i64 a1_5) := (blk_cell BK308.out 5).trans rfl
          have hfz25_0 := blk_frozen BK308.out 0
          have hfz25_1 := blk_frozen BK308.out 1
          have hfz25_2 := blk_frozen BK308.out 2
          have hfz25_3 := blk_frozen BK308.out 3
          have hfz25_4 := blk_frozen BK308.out 4
          have hfz25_5 := blk_frozen BK308.out 5
          go_wp2
          go_ret
          exact ⟨by first | rfl | (simp [errW_none, errW_some] <;> rfl) | (simp [*, errW_none, errW_some] <;> rfl), below_later HB.out⟩
        · rw [if_neg c23] at H
          have c23b0 : (a1_0 == 4) = false := beq_eq_false_iff_ne.mpr c23
          have c23b1 : (a1_0 != 4) = true := bne_iff_ne.mpr c23
          replace H := Option.bind_eq_some_iff.mp H
          obtain ⟨t314, A260, H⟩ := H
          replace H : (some t314) = some r := H
          have A26 := Aside0.mk A260
          clear A260
          obtain rfl := Option.some.inj H
          have hnb27 := NB308_313.out
          have hnc27 := NB313_308.out
          have hcz28_0 : wc.cell? ⟨gb308, 0, none⟩ = some (.int .i64 a1_0) := (blk_cell BK308.out 0).trans rfl
          have hcz28_1 : wc.cell? ⟨gb308, 1, none⟩ = some (.int .i64 a1_1) := (blk_cell BK308.out 1).trans rfl
          have hcz28_2 : wc.cell? ⟨gb308, 2, none⟩ = some (.int .i64 a1_2) := (blk_cell BK308.out 2).trans rfl
          have hcz28_3 : wc.cell? ⟨gb308, 3, none⟩ = some (.string a1_3) := (blk_cell BK308.out 3).trans rfl
          have hcz28_4 : wc.cell? ⟨gb308, 4, none⟩ = some (.int .i64 a1_4) := (blk_cell BK308.out 4).trans rfl
          have hcz28_5 : wc.cell? ⟨gb308, 5, none⟩ = some (.int .i64 a1_5) := (blk_cell BK308.out 5).trans rfl
          have hfz28_0 := blk_frozen BK308.out 0
          have hfz28_1 := blk_frozen BK308.out 1
          have hfz28_2 := blk_frozen BK308.out 2
          have hfz28_3 := blk_frozen BK308.out 3
          have hfz28_4 := blk_frozen BK308.out 4
          have hfz28_5 := blk_frozen BK308.out 5
          have hcz29_0 : wc.cell? ⟨gb313, 0, none⟩ = some (.int .i64 t309) := (blk_cell BK313.out 0).trans rfl
          have hcz29_1 : wc.cell? ⟨gb313, 1, none⟩ = some (.int .i64 t310) := (blk_cell BK313.out 1).trans rfl
          have hcz29_2 : wc.cell? ⟨gb313, 2, none⟩ = some (.int .i64 t311) := (blk_cell BK313.out 2).trans rfl
          have hfz29_0 := blk_frozen BK313.out 0
          have hfz29_1 := blk_frozen BK313.out 1
          have hfz29_2 := blk_frozen BK313.out 2
          go_wp2_with (first | ((with_reducible refine gate_callee (f := 73) rfl ?_); refine goesL_ (some 42) rfl rfl Try.func73 (by kernel_rfl) rfl #[.int .i64 t309, .agg #[.int .i64 a1_2, .string a1_3]] rfl (by (try simp only [List.map_toArray, List.map_cons, List.map_nil]); first | done | rfl | (simp only [List.length_drop, List.length_take]; rfl)) ?_; (with_reducible refine (impl_ValOk.calls t309 a1_2 a1_3 t314 _ A26.out).mono ?_); rintro e w30 ⟨rfl, hb⟩; refine ⟨_, rfl, ?_⟩; have n0_ := Aside0.mk (blk_below (blk_later BK308.out) hb); have n1_ := Aside0.mk (blk_below (blk_later BK313.out) hb); have n2_ := Aside0.mk (below_step (below_later HB.out) hb); clear BK308; clear BK313; clear HB; have BK308 := n0_; have BK313 := n1_; have HB := n2_; clear n0_ n1_ n2_; (try clear hb); (try clear hb2); (try clear hk); (try clear hi)))
          go_ret
          exact ⟨by first | rfl | (simp [errW_none, errW_some] <;> rfl) | (simp [*, errW_none, errW_some] <;> rfl), below_later HB.out⟩

/-! ### impl_isPair: function 48 -/
def impl_isPair.f (a0 : Int) : Option (Bool) := if a0 = 5 then (some true) else (some (a0 == 6))
set_option maxHeartbeats 8000000 in
set_option maxRecDepth 100000 in
theorem impl_isPair.calls (a0 : Int) (r : Bool) (w : World) (h : impl_isPair.f a0 = some r) :
    Calls Try.prog 48 #[.int .i64 a0] w fun e w' => e = .returned (.bool r) ∧ Drawn0 w w' := by
  have H : (if a0 = 5 then (some true) else (some (a0 == 6))) = some r := h
  clear h
  by_cases c2 : a0 = 5
  · rw [if_pos c2] at H
    have c2b0 : (a0 == 5) = true := beq_iff_eq.mpr c2
    have c2b1 : (a0 != 5) = false := bne_eq_false_iff_eq.mpr c2
    clear c2
    obtain rfl := Option.some.inj H
    go_enter Try.func48, Try.ntmps48
    go_wp2
    go_ret
    exact ⟨by first | rfl | (simp; done) | (simp [*]; done), by repeat (first | exact Drawn0.refl _ | apply Drawn0.step)⟩
  · rw [if_neg c2] at H
    have c2b0 : (a0 == 5) = false := beq_eq_false_iff_ne.mpr c2
    have c2b1 : (a0 != 5) = true := bne_iff_ne.mpr c2
    obtain rfl := Option.some.inj H
    go_enter Try.func48, Try.ntmps48
    go_wp2
    go_ret
    exact ⟨by first | rfl | (simp; done) | (simp [*]; done), by repeat (first | exact Drawn0.refl _ | apply Drawn0.step)⟩

/-! ### impl_PredOk: function 20 -/
mutual
def impl_PredOk.j0 : Nat → List (S73) → List (S71) → Bool → Option (Bool)
 | 0, _, _, _ => none
 | k + 1, x0, x1, x16 => if x16 = true then (some false) else (if 0 ≤ (x1.length : Int) then (if ((x1.length : Int) : Int).toNat ≤ 35184372088832 then (impl_PredOk.l0 k x0 x1 (List.replicate ((x1.length : Int) : Int).toNat 0) x1 (x1.length : Int) 0) else (none)) else (none))
def impl_PredOk.l0 : Nat → List (S73) → List (S71) → List Int → List (S71) → Int → Int → Option (Bool)
 | 0, _, _, _, _, _, _ => none
 | k + 1, x0, x1, x5, x20, x21, x22 => if x22 < x21 then (if 0 ≤ x22 then (if x22 < (x20.length : Int) then (if x22 < (x5.length : Int) then ((some (x5.set (x22 : Int).toNat x22 : List Int)).bind fun y323 => ((impl_within.f ((rd_T71 x20 x22).f0) 1 4).bind fun t324 => (if t324 = true then ((impl_plainPred.f k x0 ((rd_T71 x20 x22).f0) ((rd_T71 x20 x22).f1) ((rd_T71 x20 x22).f2.f0) ((rd_T71 x20 x22).f2.f1) ((rd_T71 x20 x22).f3) ((rd_T71 x20 x22).f4)).bind fun t325 => (if t325 = true then (impl_PredOk.l0 k x0 x1 y323 x20 x21 (wrap64 (x22 + 1))) else (some false))) else ((impl_isPair.f ((rd_T71 x20 x22).f0)).bind fun t326 => (if t326 = true then (if x22 = 0 then (impl_PredOk.j2 k x0 x1 y323 x22 x20 x21 x22 true ((rd_T71 x20 x22).f0) ((rd_T71 x20 x22).f1) ((rd_T71 x20 x22).f2.f0) ((rd_T71 x20 x22).f2.f1) ((rd_T71 x20 x22).f3) ((rd_T71 x20 x22).f4)) else (if 0 ≤ (wrap64 (x22 - 1)) then (if (wrap64 (x22 - 1)) < (x5.length : Int) then (if (rd y323 (wrap64 (x22 - 1))) = 0 then (impl_PredOk.j2 k x0 x1 y323 x22 x20 x21 x22 true ((rd_T71 x20 x22).f0) ((rd_T71 x20 x22).f1) ((rd_T71 x20 x22).f2.f0) ((rd_T71 x20 x22).f2.f1) ((rd_T71 x20 x22).f3) ((rd_T71 x20 x22).f4)) else (impl_PredOk.j2 k x0 x1 y323 x22 x20 x21 x22 (!(((rd_T71 x20 x22).f1) == 0) || ((!(((rd_T71 x20 x22).f2.f0) == 0) || (!((((rd_T71 x20 x22).f2.f1).toList) == ([] : List UInt8)))) || (!(((rd_T71 x20 x22).f3) == (wrap64 ((rd y323 (wrap64 (x22 - 1))) - 1))) || (!(((rd_T71 x20 x22).f4) == (wrap64 (x22 - 1))))))) ((rd_T71 x20 x22).f0) ((rd_T71 x20 x22).f1) ((rd_T71 x20 x22).f2.f0) ((rd_T71 x20 x22).f2.f1) ((rd_T71 x20 x22).f3) ((rd_T71 x20 x22).f4))) else (none)) else (none))) else (if ((rd_T71 x20 x22).f0) = 7 then (if x22 = 0 then (some false) else (if (!(((rd_T71 x20 x22).f0) == 7) || (!(((rd_T71 x20 x22).f1) == 0) || ((!(((rd_T71 x20 x22).f2.f0) == 0) || (!((((rd_T71 x20 x22).f2.f1).toList) == ([] : List UInt8)))) || (!(((rd_T71 x20 x22).f3) == (wrap64 (x22 - 1))) || (!(((rd_T71 x20 x22).f4) == 0)))))) = true then (some false) else (if 0 ≤ ((rd_T71 x20 x22).f3) then (if ((rd_T71 x20 x22).f3) < (x5.length : Int) then (impl_PredOk.l0 k x0 x1 (y323.set (x22 : Int).toNat (rd y323 ((rd_T71 x20 x22).f3))) x20 x21 (wrap64 (x22 + 1))) else (none)) else (none)))) else (some false))))))) else (none)) else (none)) else (none)) else (if 0 ≤ (wrap64 ((x1.length : Int) - 1)) then (if (wrap64 ((x1.length : Int) - 1)) < (x5.length : Int) then (some ((rd x5 (wrap64 ((x1.length : Int) - 1))) == 0)) else (none)) else (none))
def impl_PredOk.j2 : Nat → List (S73) → List (S71) → List Int → Int → List (S71) → Int → Int → Bool → Int → Int → Int → ByteArray → Int → Int → Option (Bool)
 | 0, _, _, _, _, _, _, _, _, _, _, _, _, _, _ => none
 | k + 1, x0, x1, x5, x6, x20, x21, x22, x67, x323000, x323001, x323002, x323003, x323004, x323005 => if x67 = true then (some false) else (if 0 ≤ x323004 then (if x323004 < (x5.length : Int) then (if 0 ≤ x6 then (if x6 < (x5.length : Int) then (impl_PredOk.l0 k x0 x1 (x5.set (x6 : Int).toNat (rd x5 x323004)) x20 x21 (wrap64 (x22 + 1))) else (none)) else (none)) else (none)) else (none))
end
def impl_PredOk.f (k : Nat) (l0 : List (S73)) (l1 : List (S71)) : Option (Bool) := (impl_SchemaOk.f k l0).bind fun t315 => (if t315 = true then ((impl_within.f (l1.length : Int) 1 31).bind fun t316 => (impl_PredOk.j0 k l0 l1 (!t316))) else (impl_PredOk.j0 k l0 l1 true))
theorem impl_PredOk.mono_l : ∀ k, (∀ y0 y1 y2, LeO (impl_PredOk.j0 k y0 y1 y2) (impl_PredOk.j0 (k + 1) y0 y1 y2)) ∧ (∀ y0 y1 y2 y3 y4 y5, LeO (impl_PredOk.l0 k y0 y1 y2 y3 y4 y5) (impl_PredOk.l0 (k + 1) y0 y1 y2 y3 y4 y5)) ∧ (∀ y0 y1 y2 y3 y4 y5 y6 y7 y8 y9 y10 y11 y12 y13, LeO (impl_PredOk.j2 k y0 y1 y2 y3 y4 y5 y6 y7 y8 y9 y10 y11 y12 y13) (impl_PredOk.j2 (k + 1) y0 y1 y2 y3 y4 y5 y6 y7 y8 y9 y10 y11 y12 y13))
 | 0 => ⟨fun _ _ _ r h => by simp [impl_PredOk.j0] at h, fun _ _ _ _ _ _ r h => by simp [impl_PredOk.l0] at h, fun _ _ _ _ _ _ _ _ _ _ _ _ _ _ r h => by simp [impl_PredOk.j2] at h⟩
 | k + 1 => by
  obtain ⟨ih0, ih1, ih2⟩ := impl_PredOk.mono_l k
  refine ⟨?_, ?_, ?_⟩
  ·
   intro y0 y1 y2
   unfold impl_PredOk.j0
   repeat' first
   | (with_reducible exact ih0 _ _ _)
   | (with_reducible exact ih1 _ _ _ _ _ _)
   | (with_reducible exact ih2 _ _ _ _ _ _ _ _ _ _ _ _ _ _)
   | (with_reducible exact impl_SchemaOk.mono _ _)
   | (with_reducible exact impl_plainPred.mono _ _ _ _ _ _ _ _)
   | (with_reducible exact LeO.refl _)
   | (with_reducible exact LeO.none _)
   | (with_reducible refine LeO.ite ?_ ?_)
   | (with_reducible refine LeO.bind ?_ (fun _ => ?_))
   | exact ih0 _ _ _
   | exact ih1 _ _ _ _ _ _
   | exact ih2 _ _ _ _ _ _ _ _ _ _ _ _ _ _
   | exact impl_SchemaOk.mono _ _
   | exact impl_plainPred.mono _ _ _ _ _ _ _ _
   | exact LeO.none _
   | refine LeO.ite ?_ ?_
   | refine LeO.bind ?_ (fun _ => ?_)
  ·
   intro y0 y1 y2 y3 y4 y5
   unfold impl_PredOk.l0
   repeat' first
   | (with_reducible exact ih0 _ _ _)
   | (with_reducible exact ih1 _ _ _ _ _ _)
   | (with_reducible exact ih2 _ _ _ _ _ _ _ _ _ _ _ _ _ _)
   | (with_reducible exact impl_SchemaOk.mono _ _)
   | (with_reducible exact impl_plainPred.mono _ _ _ _ _ _ _ _)
   | (with_reducible exact LeO.refl _)
   | (with_reducible exact LeO.none _)
   | (with_reducible refine LeO.ite ?_ ?_)
   | (with_reducible refine LeO.bind ?_ (fun _ => ?_))
   | exact ih0 _ _ _
   | exact ih1 _ _ _ _ _ _
   | exact ih2 _ _ _ _ _ _ _ _ _ _ _ _ _ _
   | exact impl_SchemaOk.mono _ _
   | exact impl_plainPred.mono _ _ _ _ _ _ _ _
   | exact LeO.none _
   | refine LeO.ite ?_ ?_
   | refine LeO.bind ?_ (fun _ => ?_)
  ·
   intro y0 y1 y2 y3 y4 y5 y6 y7 y8 y9 y10 y11 y12 y13
   unfold impl_PredOk.j2
   repeat' first
   | (with_reducible exact ih0 _ _ _)
   | (with_reducible exact ih1 _ _ _ _ _ _)
   | (with_reducible exact ih2 _ _ _ _ _ _ _ _ _ _ _ _ _ _)
   | (with_reducible exact impl_SchemaOk.mono _ _)
   | (with_reducible exact impl_plainPred.mono _ _ _ _ _ _ _ _)
   | (with_reducible exact LeO.refl _)
   | (with_reducible exact LeO.none _)
   | (with_reducible refine LeO.ite ?_ ?_)
   | (with_reducible refine LeO.bind ?_ (fun _ => ?_))
   | exact ih0 _ _ _
   | exact ih1 _ _ _ _ _ _
   | exact ih2 _ _ _ _ _ _ _ _ _ _ _ _ _ _
   | exact impl_SchemaOk.mono _ _
   | exact impl_plainPred.mono _ _ _ _ _ _ _ _
   | exact LeO.none _
   | refine LeO.ite ?_ ?_
   | refine LeO.bind ?_ (fun _ => ?_)
theorem impl_PredOk.mono : ∀ a0 a1 k, LeO (impl_PredOk.f k a0 a1) (impl_PredOk.f (k + 1) a0 a1) := by
 intro a0 a1 k
 obtain ⟨ih0, ih1, ih2⟩ := impl_PredOk.mono_l k
 unfold impl_PredOk.f
 repeat' first
   | (with_reducible exact ih0 _ _ _)
   | (with_reducible exact ih1 _ _ _ _ _ _)
   | (with_reducible exact ih2 _ _ _ _ _ _ _ _ _ _ _ _ _ _)
   | (with_reducible exact impl_SchemaOk.mono _ _)
   | (with_reducible exact impl_plainPred.mono _ _ _ _ _ _ _ _)
   | (with_reducible exact LeO.refl _)
   | (with_reducible exact LeO.none _)
   | (with_reducible refine LeO.ite ?_ ?_)
   | (with_reducible refine LeO.bind ?_ (fun _ => ?_))
   | exact ih0 _ _ _
   | exact ih1 _ _ _ _ _ _
   | exact ih2 _ _ _ _ _ _ _ _ _ _ _ _ _ _
   | exact impl_SchemaOk.mono _ _
   | exact impl_plainPred.mono _ _ _ _ _ _ _ _
   | exact LeO.none _
   | refine LeO.ite ?_ ?_
   | refine LeO.bind ?_ (fun _ => ?_)

end Go.Proofs.Ytnbbhfpfjbfnnaa.PFnExactPredOk
