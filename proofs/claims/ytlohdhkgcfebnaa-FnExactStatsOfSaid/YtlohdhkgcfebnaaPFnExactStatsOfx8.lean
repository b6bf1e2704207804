/- The machine's side of FnExactStatsOf, written by wip/tools/hyb.py of this repo: each Go function as a plain Lean function, and the proof that the call comes to just its answer. No condition. -/
import Derived.Test.YtlohdhkgcfebnaaPFnExactStatsOfx0
import Derived.Test.YtlohdhkgcfebnaaPFnExactStatsOfx6
import Derived.Test.YtlohdhkgcfebnaaPFnExactStatsOfx7
namespace Go.Proofs.Ytlohdhkgcfebnaa.PFnExactStatsOf
open Go.RowKit Go.Proofs.YtlohdhkgcfebnaaW.PrintWords Go.Proofs.YtlohdhkgcfebnaaW.PrintLast Go.Proofs.YtlohdhkgcfebnaaW.PrintMore
attribute [local go_sem] max2_int min2_int max_two min_two max_three min_three max_four min_four   -- for this text's walks alone
set_option linter.unusedVariables false
set_option linter.unusedSimpArgs false

/-! ### impl_StatsOf: function 64 -/
mutual
def impl_StatsOf.j0 : Nat → List (S127) → Bool → Int → Int → Int → Option (Int × Bool × Int × ByteArray × Int × ByteArray × Bool)
  | 0, _, _, _, _, _ => none
  | k + 1, x1, x17, x192000, x192001, x192002 => if x17 = true then (some (0, false, 0, (⟨#[]⟩ : ByteArray), 0, (⟨#[]⟩ : ByteArray), false)) else (impl_StatsOf.l0 k x1 (x1.length : Int) 0 x192000 x192001 x192002 0 false 0 (⟨#[]⟩ : ByteArray) 0 (⟨#[]⟩ : ByteArray))
def impl_StatsOf.l0 : Nat → List (S127) → Int → Int → Int → Int → Int → Int → Bool → Int → ByteArray → Int → ByteArray → Option (Int × Bool × Int × ByteArray × Int × ByteArray × Bool)
  | 0, _, _, _, _, _, _, _, _, _, _, _, _ => none
  | k + 1, x20, x21, x22, x192000, x192001, x192002, x196000, x196001, x196002, x196003, x196004, x196005 => if x22 < x21 then (if 0 ≤ x22 then (if x22 < (x20.length : Int) then (if ((rd_T127 x20 x22).f1) = x192002 then (if x196001 = true then ((impl_ValLess.f k x192000 ((rd_T127 x20 x22).f2.f0) ((rd_T127 x20 x22).f2.f1) x196002 x196003).bind fun t198 => (impl_StatsOf.j2 k x20 x21 x22 t198 x192000 x192001 x192002 x196000 x196001 x196002 x196003 x196004 x196005 ((rd_T127 x20 x22).f0) ((rd_T127 x20 x22).f1) ((rd_T127 x20 x22).f2.f0) ((rd_T127 x20 x22).f2.f1))) else (impl_StatsOf.j2 k x20 x21 x22 true x192000 x192001 x192002 x196000 x196001 x196002 x196003 x196004 x196005 ((rd_T127 x20 x22).f0) ((rd_T127 x20 x22).f1) ((rd_T127 x20 x22).f2.f0) ((rd_T127 x20 x22).f2.f1))) else (impl_StatsOf.l0 k x20 x21 (wrap64 (x22 + 1)) x192000 x192001 x192002 (wrap64 (x196000 + 1)) x196001 x196002 x196003 x196004 x196005)) else (none)) else (none)) else (some (x196000, x196001, x196002, x196003, x196004, x196005, true))
def impl_StatsOf.j2 : Nat → List (S127) → Int → Int → Bool → Int → Int → Int → Int → Bool → Int → ByteArray → Int → ByteArray → Int → Int → Int → ByteArray → Option (Int × Bool × Int × ByteArray × Int × ByteArray × Bool)
  | 0, _, _, _, _, _, _, _, _, _, _, _, _, _, _, _, _, _ => none
  | k + 1, x20, x21, x22, x46, x192000, x192001, x192002, x196000, x196001, x196002, x196003, x196004, x196005, x198000, x198001, x198002, x198003 => if x46 = true then (if x196001 = true then ((impl_ValLess.f k x192000 x196004 x196005 x198002 x198003).bind fun t199 => (if t199 = true then (impl_StatsOf.l0 k x20 x21 (wrap64 (x22 + 1)) x192000 x192001 x192002 x196000 true x198002 x198003 x198002 x198003) else (impl_StatsOf.l0 k x20 x21 (wrap64 (x22 + 1)) x192000 x192001 x192002 x196000 true x198002 x198003 x196004 x196005))) else (impl_StatsOf.l0 k x20 x21 (wrap64 (x22 + 1)) x192000 x192001 x192002 x196000 true x198002 x198003 x198002 x198003)) else (if x196001 = true then ((impl_ValLess.f k x192000 x196004 x196005 x198002 x198003).bind fun t200 => (if t200 = true then (impl_StatsOf.l0 k x20 x21 (wrap64 (x22 + 1)) x192000 x192001 x192002 x196000 true x196002 x196003 x198002 x198003) else (impl_StatsOf.l0 k x20 x21 (wrap64 (x22 + 1)) x192000 x192001 x192002 x196000 true x196002 x196003 x196004 x196005))) else (impl_StatsOf.l0 k x20 x21 (wrap64 (x22 + 1)) x192000 x192001 x192002 x196000 true x196002 x196003 x198002 x198003))
end
def impl_StatsOf.f (k : Nat) (a0_0 : Int) (a0_1 : Int) (a0_2 : Int) (l1 : List (S127)) : Option (Int × Bool × Int × ByteArray × Int × ByteArray × Bool) := (impl_LeafOk.f a0_0 a0_1 a0_2).bind fun t193 => (if t193 = true then ((impl_triplesRight.f k a0_0 a0_1 a0_2 l1).bind fun t194 => (impl_StatsOf.j0 k l1 (!t194) a0_0 a0_1 a0_2)) else (impl_StatsOf.j0 k l1 true a0_0 a0_1 a0_2))
theorem impl_StatsOf.mono_l : ∀ k, (∀ y0 y1 y2 y3 y4, LeO (impl_StatsOf.j0 k y0 y1 y2 y3 y4) (impl_StatsOf.j0 (k + 1) y0 y1 y2 y3 y4)) ∧ (∀ y0 y1 y2 y3 y4 y5 y6 y7 y8 y9 y10 y11, LeO (impl_StatsOf.l0 k y0 y1 y2 y3 y4 y5 y6 y7 y8 y9 y10 y11) (impl_StatsOf.l0 (k + 1) y0 y1 y2 y3 y4 y5 y6 y7 y8 y9 y10 y11)) ∧ (∀ y0 y1 y2 y3 y4 y5 y6 y7 y8 y9 y10 y11 y12 y13 y14 y15 y16, LeO (impl_StatsOf.j2 k y0 y1 y2 y3 y4 y5 y6 y7 y8 y9 y10 y11 y12 y13 y14 y15 y16) (impl_StatsOf.j2 (k + 1) y0 y1 y2 y3 y4 y5 y6 y7 y8 y9 y10 y11 y12 y13 y14 y15 y16))
  | 0 => ⟨fun _ _ _ _ _ r h => by simp [impl_StatsOf.j0] at h, fun _ _ _ _ _ _ _ _ _ _ _ _ r h => by simp [impl_StatsOf.l0] at h, fun _ _ _ _ _ _ _ _ _ _ _ _ _ _ _ _ _ r h => by simp [impl_StatsOf.j2] at h⟩
  | k + 1 => by
    obtain ⟨ih0, ih1, ih2⟩ := impl_StatsOf.mono_l k
    refine ⟨?_, ?_, ?_⟩
    · intro y0 y1 y2 y3 y4
      unfold impl_StatsOf.j0
      repeat' first
      | (with_reducible exact ih0 _ _ _ _ _)
      | (with_reducible exact ih1 _ _ _ _ _ _ _ _ _ _ _ _)
      | (with_reducible exact ih2 _ _ _ _ _ _ _ _ _ _ _ _ _ _ _ _ _)
      | (with_reducible exact impl_ValLess.mono _ _ _ _ _ _)
      | (with_reducible exact impl_triplesRight.mono _ _ _ _ _)
      | (with_reducible exact LeO.refl _)
      | (with_reducible exact LeO.none _)
      | (with_reducible refine LeO.ite ?_ ?_)
      | (with_reducible refine LeO.bind ?_ (fun _ => ?_))
      | exact ih0 _ _ _ _ _
      | exact ih1 _ _ _ _ _ _ _ _ _ _ _ _
      | exact ih2 _ _ _ _ _ _ _ _ _ _ _ _ _ _ _ _ _
      | exact impl_ValLess.mono _ _ _ _ _ _
      | exact impl_triplesRight.mono _ _ _ _ _
      | exact LeO.none _
      | refine LeO.ite ?_ ?_
      | refine LeO.bind ?_ (fun _ => ?_)
    · intro y0 y1 y2 y3 y4 y5 y6 y7 y8 y9 y10 y11
      unfold impl_StatsOf.l0
      repeat' first
      | (with_reducible exact ih0 _ _ _ _ _)
      | (with_reducible exact ih1 _ _ _ _ _ _ _ _ _ _ _ _)
      | (with_reducible exact ih2 _ _ _ _ _ _ _ _ _ _ _ _ _ _ _ _ _)
      | (with_reducible exact impl_ValLess.mono _ _ _ _ _ _)
      | (with_reducible exact impl_triplesRight.mono _ _ _ _ _)
      | (with_reducible exact LeO.refl _)
      | (with_reducible exact LeO.none _)
      | (with_reducible refine LeO.ite ?_ ?_)
      | (with_reducible refine LeO.bind ?_ (fun _ => ?_))
      | exact ih0 _ _ _ _ _
      | exact ih1 _ _ _ _ _ _ _ _ _ _ _ _
      | exact ih2 _ _ _ _ _ _ _ _ _ _ _ _ _ _ _ _ _
      | exact impl_ValLess.mono _ _ _ _ _ _
      | exact impl_triplesRight.mono _ _ _ _ _
      | exact LeO.none _
      | refine LeO.ite ?_ ?_
      | refine LeO.bind ?_ (fun _ => ?_)
    · intro y0 y1 y2 y3 y4 y5 y6 y7 y8 y9 y10 y11 y12 y13 y14 y15 y16
      unfold impl_StatsOf.j2
      repeat' first
      | (with_reducible exact ih0 _ _ _ _ _)
      | (with_reducible exact ih1 _ _ _ _ _ _ _ _ _ _ _ _)
      | (with_reducible exact ih2 _ _ _ _ _ _ _ _ _ _ _ _ _ _ _ _ _)
      | (with_reducible exact impl_ValLess.mono _ _ _ _ _ _)
      | (with_reducible exact impl_triplesRight.mono _ _ _ _ _)
      | (with_reducible exact LeO.refl _)
      | (with_reducible exact LeO.none _)
      | (with_reducible refine LeO.ite ?_ ?_)
      | (with_reducible refine LeO.bind ?_ (fun _ => ?_))
      | exact ih0 _ _ _ _ _
      | exact ih1 _ _ _ _ _ _ _ _ _ _ _ _
      | exact ih2 _ _ _ _ _ _ _ _ _ _ _ _ _ _ _ _ _
      | exact impl_ValLess.mono _ _ _ _ _ _
      | exact impl_triplesRight.mono _ _ _ _ _
      | exact LeO.none _
      | refine LeO.ite ?_ ?_
      | refine LeO.bind ?_ (fun _ => ?_)
theorem impl_StatsOf.mono : ∀ a0 a1 a2 a3 k, LeO (impl_StatsOf.f k a0 a1 a2 a3) (impl_StatsOf.f (k + 1) a0 a1 a2 a3) := by
  intro a0 a1 a2 a3 k
  obtain ⟨ih0, ih1, ih2⟩ := impl_StatsOf.mono_l k
  unfold impl_StatsOf.f
  repeat' first
      | (with_reducible exact ih0 _ _ _ _ _)
      | (with_reducible exact ih1 _ _ _ _ _ _ _ _ _ _ _ _)
      | (with_reducible exact ih2 _ _ _ _ _ _ _ _ _ _ _ _ _ _ _ _ _)
      | (with_reducible exact impl_ValLess.mono _ _ _ _ _ _)
      | (with_reducible exact impl_triplesRight.mono _ _ _ _ _)
      | (with_reducible exact LeO.refl _)
      | (with_reducible exact LeO.none _)
      | (with_reducible refine LeO.ite ?_ ?_)
      | (with_reducible refine LeO.bind ?_ (fun _ => ?_))
      | exact ih0 _ _ _ _ _
      | exact ih1 _ _ _ _ _ _ _ _ _ _ _ _
      | exact ih2 _ _ _ _ _ _ _ _ _ _ _ _ _ _ _ _ _
      | exact impl_ValLess.mono _ _ _ _ _ _
      | exact impl_triplesRight.mono _ _ _ _ _
      | exact LeO.none _
      | refine LeO.ite ?_ ?_
      | refine LeO.bind ?_ (fun _ => ?_)
set_option maxHeartbeats 8000000 in
set_option maxRecDepth 100000 in
theorem impl_StatsOf.calls (k : Nat) (a0_0 : Int) (a0_1 : Int) (a0_2 : Int) (A1 : Option Addr) (c1 : Nat) (l1 : List (S127)) (r1 : Int) (r2 : Bool) (r3 : Int) (r4 : ByteArray) (r5 : Int) (r6 : ByteArray) (r7 : Bool) (w : World) (hr1 : Kd.C k127 w A1 l1.length l1) (hc1 : l1.length ≤ c1) (h : impl_StatsOf.f k a0_0 a0_1 a0_2 l1 = some (r1, r2, r3, r4, r5, r6, r7)) :
    Calls Try.prog 64 #[.agg #[.int .i64 a0_0, .int .i64 a0_1, .int .i64 a0_2], .slice A1 l1.length c1] w fun e w' => e = .returned (.tuple #[.agg #[.int .i64 r1, .bool r2, .int .i64 r3, .string r4, .int .i64 r5, .string r6], .bool r7]) ∧ Below w.heap.size w w' := by
  have hu88 := Try.underlying88
  have hu85 := Try.underlying85
  have hu127 := Try.underlying127
  have hu83 := Try.underlying83
  have HR1 := Aside0.mk hr1
  have HC1 := Aside0.mk hc1
  clear hr1 hc1
  have HB := Aside0.mk (Below.refl w.heap.size w)
  have H : ((impl_LeafOk.f a0_0 a0_1 a0_2).bind fun t193 => (if t193 = true then ((impl_triplesRight.f k a0_0 a0_1 a0_2 l1).bind fun t194 => (impl_StatsOf.j0 k l1 (!t194) a0_0 a0_1 a0_2)) else (impl_StatsOf.j0 k l1 true a0_0 a0_1 a0_2))) = some (r1, r2, r3, r4, r5, r6, r7) := h
  clear h
  have HC3 := Aside0.mk H
  clear H
  go_enter Try.func64, Try.ntmps64
  go_upto_region 1 with (first | ((with_reducible refine gate_dst (N := 2) rfl ?_); refine box_event ?hg (N := 2) ?hd (cs := #[.int .i64 a0_0, .int .i64 a0_1, .int .i64 a0_2]) (t := 88) ?hr ?_; (case hd => rfl); (case hg => rfl); (case hr => first | (go_simp; done) | (go_simp; rfl)); intro gb191 hg w4 hbox hb; have n0_ := Aside0.mk (below_step (by repeat (first | (with_reducible first | exact HB.out | apply below_alloc | apply pw_below_drewN | apply below_drew1) | exact HB.out)) hb); have n1_ := Aside0.mk (hbox); have n2_ := Aside0.mk ((by rw [hg]; exact (below_size (by repeat (first | (with_reducible first | exact HB.out | apply below_alloc | apply pw_below_drewN | apply below_drew1) | exact HB.out))) : w.heap.size ≤ gb191)); have n3_ := Aside0.mk ((by rw [hg]; exact (below_size (by repeat (first | (with_reducible first | exact HB.out | apply below_alloc | apply pw_below_drewN | apply below_drew1) | exact HB.out))) : w.heap.size ≤ gb191)); clear HB; have HB := n0_; have BK191 := n1_; have GW191 := n2_; have GE191 := n3_; clear n0_ n1_ n2_ n3_; clear hb hbox hg) | ((with_reducible refine gate_dst (N := 4) rfl ?_); refine box_event ?hg (N := 4) ?hd (cs := #[.int .i64 0, .bool false, .int .i64 0, .string (⟨#[]⟩ : ByteArray), .int .i64 0, .string (⟨#[]⟩ : ByteArray)]) (t := 85) ?hr ?_; (case hd => rfl); (case hg => rfl); (case hr => first | (go_simp; done) | (go_simp; rfl)); intro gb192 hg w5 hbox hb; have n0_ := Aside0.mk (blk_below (g := gb191) (o := .cells #[.int .i64 a0_0, .int .i64 a0_1, .int .i64 a0_2] 88 (0, 0)) (by (with_reducible repeat (first | refine blk_drewN ?_ _ | refine blk_drew ?_ | refine blk_alloc ?_ _)); exact BK191.out) hb); have n1_ := Aside0.mk (below_step (by repeat (first | (with_reducible first | exact HB.out | apply below_alloc | apply pw_below_drewN | apply below_drew1 | refine below_set ?_ GE191.out) | exact HB.out)) hb); have n2_ := Aside0.mk (hbox); have n3_ := Aside0.mk ((by rw [hg]; exact (below_size (by repeat (first | (with_reducible first | exact HB.out | apply below_alloc | apply pw_below_drewN | apply below_drew1 | refine below_set ?_ GE191.out) | exact HB.out))) : w.heap.size ≤ gb192)); have n4_ := Aside0.mk ((by rw [hg]; exact (below_size (by repeat (first | (with_reducible first | exact HB.out | apply below_alloc | apply pw_below_drewN | apply below_drew1 | refine below_set ?_ GE191.out) | exact HB.out))) : w.heap.size ≤ gb192)); have n5_ := Aside0.mk ((by rw [hg]; exact Nat.ne_of_lt (blk_lt (g := gb191) (o := .cells #[.int .i64 a0_0, .int .i64 a0_1, .int .i64 a0_2] 88 (0, 0)) (by (with_reducible repeat (first | refine blk_drewN ?_ _ | refine blk_drew ?_ | refine blk_alloc ?_ _)); exact BK191.out)) : gb191 ≠ gb192)); have n6_ := Aside0.mk ((by rw [hg]; exact Nat.ne_of_gt (blk_lt (g := gb191) (o := .cells #[.int .i64 a0_0, .int .i64 a0_1, .int .i64 a0_2] 88 (0, 0)) (by (with_reducible repeat (first | refine blk_drewN ?_ _ | refine blk_drew ?_ | refine blk_alloc ?_ _)); exact BK191.out)) : gb192 ≠ gb191)); clear BK191; clear HB; have BK191 := n0_; have HB := n1_; have BK192 := n2_; have GW192 := n3_; have GE192 := n4_; have NB191_192 := n5_; have NB192_191 := n6_; clear n0_ n1_ n2_ n3_ n4_ n5_ n6_; clear hb hbox hg))
  (try simp only [Act.put, List.setIfInBounds_toArray, List.set_cons_zero, List.set_cons_succ])
  go_cut [17] (fun v17 wc => ∃ (kq : Nat) (x17_2 : Bool), v17 = .bool x17_2 ∧ Aside0 (impl_StatsOf.j0 kq l1 x17_2 a0_0 a0_1 a0_2 = some (r1, r2, r3, r4, r5, r6, r7)) ∧ Aside0 (kq ≤ k) ∧ Aside0 (wc.heap[gb191]? = some (.cells #[.int .i64 a0_0, .int .i64 a0_1, .int .i64 a0_2] 88 (0, 0))) ∧ Aside0 (wc.heap[gb192]? = some (.cells #[.int .i64 0, .bool false, .int .i64 0, .string (⟨#[]⟩ : ByteArray), .int .i64 0, .string (⟨#[]⟩ : ByteArray)] 85 (0, 0))) ∧ Aside0 (Below w.heap.size w wc))
  case first =>
    have H := HC3.out
    clear HC3
    replace H := Option.bind_eq_some_iff.mp H
    obtain ⟨t193, A60, H⟩ := H
    replace H : (if t193 = true then ((impl_triplesRight.f k a0_0 a0_1 a0_2 l1).bind fun t194 => (impl_StatsOf.j0 k l1 (!t194) a0_0 a0_1 a0_2)) else (impl_StatsOf.j0 k l1 true a0_0 a0_1 a0_2)) = some (r1, r2, r3, r4, r5, r6, r7) := H
    have A6 := Aside0.mk A60
    clear A60
    by_cases c7 : t193 = true
    · subst c7
      have H1 : ((impl_triplesRight.f k a0_0 a0_1 a0_2 l1).bind fun t194 => (impl_StatsOf.j0 k l1 (!t194) a0_0 a0_1 a0_2)) = some (r1, r2, r3, r4, r5, r6, r7) := by rw [if_pos rfl] at H; exact H
      clear H
      have H := H1
      clear H1
      replace H := Option.bind_eq_some_iff.mp H
      obtain ⟨t194, A80, H⟩ := H
      replace H : (impl_StatsOf.j0 k l1 (!t194) a0_0 a0_1 a0_2) = some (r1, r2, r3, r4, r5, r6, r7) := H
      have A8 := Aside0.mk A80
      clear A80
      have H' := Aside0.mk H
      clear H
      have hnb9 := NB191_192.out
      have hnc9 := NB192_191.out
      have hcz10_0 : w5.cell? ⟨gb191, 0, none⟩ = some (.int .i64 a0_0) := (blk_cell BK191.out 0).trans rfl
      have hcz10_1 : w5.cell? ⟨gb191, 1, none⟩ = some (.int .i64 a0_1) := (blk_cell BK191.out 1).trans rfl
      have hcz10_2 : w5.cell? ⟨gb191, 2, none⟩ = some (.int .i64 a0_2) := (blk_cell BK191.out 2).trans rfl
      have hfz10_0 := blk_frozen BK191.out 0
      have hfz10_1 := blk_frozen BK191.out 1
      have hfz10_2 := blk_frozen BK191.out 2
      go_wp2_with (first | ((with_reducible refine gate_callee (f := 129) rfl ?_); refine goesL_ (some 10) rfl rfl Try.func129 (by kernel_rfl) rfl #[.agg #[.int .i64 a0_0, .int .i64 a0_1, .int .i64 a0_2]] rfl (by (try simp only [List.map_toArray, List.map_cons, List.map_nil]); first | done | rfl | (simp only [List.length_drop, List.length_take]; rfl)) ?_; (with_reducible refine (impl_LeafOk.calls a0_0 a0_1 a0_2 true _ A6.out).mono ?_); rintro e w11 ⟨rfl, hb⟩; refine ⟨_, rfl, ?_⟩; have n0_ := Aside0.mk (blk_below (g := gb191) (o := .cells #[.int .i64 a0_0, .int .i64 a0_1, .int .i64 a0_2] 88 (0, 0)) (by (with_reducible repeat (first | refine blk_drewN ?_ _ | refine blk_drew ?_ | refine blk_alloc ?_ _)); exact BK191.out) hb); have n1_ := Aside0.mk (blk_below (g := gb192) (o := .cells #[.int .i64 0, .bool false, .int .i64 0, .string (⟨#[]⟩ : ByteArray), .int .i64 0, .string (⟨#[]⟩ : ByteArray)] 85 (0, 0)) (by (with_reducible repeat (first | refine blk_drewN ?_ _ | refine blk_drew ?_ | refine blk_alloc ?_ _)); exact BK192.out) hb); have n2_ := Aside0.mk (below_step (by repeat (first | (with_reducible first | exact HB.out | apply below_alloc | apply pw_below_drewN | apply below_drew1 | refine below_set ?_ GE191.out | refine below_set ?_ GE192.out) | exact HB.out)) hb); clear BK191; clear BK192; clear HB; have BK191 := n0_; have BK192 := n1_; have HB := n2_; clear n0_ n1_ n2_; (try clear hb); (try clear hb2); (try clear hk); (try clear hi); have hcz12_0 : w11.cell? ⟨gb191, 0, none⟩ = some (.int .i64 a0_0) := (blk_cell BK191.out 0).trans rfl; have hcz12_1 : w11.cell? ⟨gb191, 1, none⟩ = some (.int .i64 a0_1) := (blk_cell BK191.out 1).trans rfl; have hcz12_2 : w11.cell? ⟨gb191, 2, none⟩ = some (.int .i64 a0_2) := (blk_cell BK191.out 2).trans rfl; have hfz12_0 := blk_frozen BK191.out 0; have hfz12_1 := blk_frozen BK191.out 1; have hfz12_2 := blk_frozen BK191.out 2) | (go_at_call 130; (with_reducible refine (impl_triplesRight.calls k a0_0 a0_1 a0_2 _ _ l1 t194 _ ?side1 ?side2 A8.out).mono ?_); (case side1 => repeat (first | exact (Kd.C_below HR1.out HB.out) | (with_reducible refine Kd.C_alloc ?_ _) | (with_reducible refine Kd.C_drewN ?_ _) | (with_reducible refine Kd.C_drew ?_))); (case side2 => exact HC1.out); rintro e w13 ⟨rfl, hb⟩; have n0_ := Aside0.mk (blk_below (g := gb191) (o := .cells #[.int .i64 a0_0, .int .i64 a0_1, .int .i64 a0_2] 88 (0, 0)) (by (with_reducible repeat (first | refine blk_drewN ?_ _ | refine blk_drew ?_ | refine blk_alloc ?_ _)); exact BK191.out) hb); have n1_ := Aside0.mk (blk_below (g := gb192) (o := .cells #[.int .i64 0, .bool false, .int .i64 0, .string (⟨#[]⟩ : ByteArray), .int .i64 0, .string (⟨#[]⟩ : ByteArray)] 85 (0, 0)) (by (with_reducible repeat (first | refine blk_drewN ?_ _ | refine blk_drew ?_ | refine blk_alloc ?_ _)); exact BK192.out) hb); have n2_ := Aside0.mk (below_step (by repeat (first | (with_reducible first | exact HB.out | apply below_alloc | apply pw_below_drewN | apply below_drew1 | refine below_set ?_ GE191.out | refine below_set ?_ GE192.out) | exact HB.out)) hb); clear BK191; clear BK192; clear HB; have BK191 := n0_; have BK192 := n1_; have HB := n2_; clear n0_ n1_ n2_; (try clear hb); (try clear hb2); (try clear hk); (try clear hi)))
      go_meet
      case rel => exact ⟨_, (!t194), (by first | rfl | (simp; done) | (simp [*]; done)), H', ⟨by first | omega | exact Nat.le_refl _⟩, ⟨by (with_reducible repeat (first | refine blk_drewN ?_ _ | refine blk_drew ?_ | refine blk_alloc ?_ _)); exact BK191.out⟩, ⟨by (with_reducible repeat (first | refine blk_drewN ?_ _ | refine blk_drew ?_ | refine blk_alloc ?_ _)); exact BK192.out⟩, ⟨by repeat (first | (with_reducible first | exact HB.out | apply below_alloc | apply pw_below_drewN | apply below_drew1 | refine below_set ?_ GE191.out | refine below_set ?_ GE192.out) | exact HB.out)⟩⟩
    · replace c7 := Bool.eq_false_iff.mpr c7
      subst c7
      have H1 : (impl_StatsOf.j0 k l1 true a0_0 a0_1 a0_2) = some (r1, r2, r3, r4, r5, r6, r7) := by rw [if_neg (show ¬ (false = true) by decide)] at H; exact H
      clear H
      have H := H1
      clear H1
      have H' := Aside0.mk H
      clear H
      have hnb14 := NB191_192.out
      have hnc14 := NB192_191.out
      have hcz15_0 : w5.cell? ⟨gb191, 0, none⟩ = some (.int .i64 a0_0) := (blk_cell BK191.out 0).trans rfl
      have hcz15_1 : w5.cell? ⟨gb191, 1, none⟩ = some (.int .i64 a0_1) := (blk_cell BK191.out 1).trans rfl
      have hcz15_2 : w5.cell? ⟨gb191, 2, none⟩ = some (.int .i64 a0_2) := (blk_cell BK191.out 2).trans rfl
      have hfz15_0 := blk_frozen BK191.out 0
      have hfz15_1 := blk_frozen BK191.out 1
      have hfz15_2 := blk_frozen BK191.out 2
      go_wp2_with (first | ((with_reducible refine gate_callee (f := 129) rfl ?_); refine goesL_ (some 10) rfl rfl Try.func129 (by kernel_rfl) rfl #[.agg #[.int .i64 a0_0, .int .i64 a0_1, .int .i64 a0_2]] rfl (by (try simp only [List.map_toArray, List.map_cons, List.map_nil]); first | done | rfl | (simp only [List.length_drop, List.length_take]; rfl)) ?_; (with_reducible refine (impl_LeafOk.calls a0_0 a0_1 a0_2 false _ A6.out).mono ?_); rintro e w16 ⟨rfl, hb⟩; refine ⟨_, rfl, ?_⟩; have n0_ := Aside0.mk (blk_below (g := gb191) (o := .cells #[.int .i64 a0_0, .int .i64 a0_1, .int .i64 a0_2] 88 (0, 0)) (by (with_reducible repeat (first | refine blk_drewN ?_ _ | refine blk_drew ?_ | refine blk_alloc ?_ _)); exact BK191.out) hb); have n1_ := Aside0.mk (blk_below (g := gb192) (o := .cells #[.int .i64 0, .bool false, .int .i64 0, .string (⟨#[]⟩ : ByteArray), .int .i64 0, .string (⟨#[]⟩ : ByteArray)] 85 (0, 0)) (by (with_reducible repeat (first | refine blk_drewN ?_ _ | refine blk_drew ?_ | refine blk_alloc ?_ _)); exact BK192.out) hb); have n2_ := Aside0.mk (below_step (by repeat (first | (with_reducible first | exact HB.out | apply below_alloc | apply pw_below_drewN | apply below_drew1 | refine below_set ?_ GE191.out | refine below_set ?_ GE192.out) | exact HB.out)) hb); clear BK191; clear BK192; clear HB; have BK191 := n0_; have BK192 := n1_; have HB := n2_; clear n0_ n1_ n2_; (try clear hb); (try clear hb2); (try clear hk); (try clear hi)))
      go_meet
      case rel => exact ⟨_, (true), (by first | rfl | (simp; done) | (simp [*]; done)), H', ⟨by first | omega | exact Nat.le_refl _⟩, ⟨by (with_reducible repeat (first | refine blk_drewN ?_ _ | refine blk_drew ?_ | refine blk_alloc ?_ _)); exact BK191.out⟩, ⟨by (with_reducible repeat (first | refine blk_drewN ?_ _ | refine blk_drew ?_ | refine blk_alloc ?_ _)); exact BK192.out⟩, ⟨by repeat (first | (with_reducible first | exact HB.out | apply below_alloc | apply pw_below_drewN | apply below_drew1 | refine below_set ?_ GE191.out | refine below_set ?_ GE192.out) | exact HB.out)⟩⟩
  case rest =>
    clear HC3
    try clear c1
    try clear p2
    try clear c6
    try clear c7
    try clear c9
    try clear c12
    try clear c14
    try clear hcz10_0
    try clear hcz10_1
    try clear hcz10_2
    try clear hcz12_0
    try clear hcz12_1
    try clear hcz12_2
    try clear hcz15_0
    try clear hcz15_1
    try clear hcz15_2
    try clear hfz10_0
    try clear hfz10_1
    try clear hfz10_2
    try clear hfz12_0
    try clear hfz12_1
    try clear hfz12_2
    try clear hfz15_0
    try clear hfz15_1
    try clear hfz15_2
    obtain ⟨kq, x17_2, rfl, HA, HJ2, BK191, BK192, HB⟩ := hcut
    cases kq with
    | zero => exact absurd HA.out (by simp [impl_StatsOf.j0])
    | succ kj2 =>
      have H := HA.out
      clear HA
      simp only [impl_StatsOf.j0] at H
      by_cases c17 : x17_2 = true
      · subst c17
        have H1 : (some (0, false, 0, (⟨#[]⟩ : ByteArray), 0, (⟨#[]⟩ : ByteArray), false)) = some (r1, r2, r3, r4, r5, r6, r7) := by rw [if_pos rfl] at H; exact H
        clear H
        have H := H1
        clear H1
        simp only [Option.some.injEq, Prod.mk.injEq] at H
        obtain ⟨rfl, rfl, rfl, rfl, rfl, rfl, rfl⟩ := H
        have hnb18 := NB192_191.out
        have hnc18 := NB191_192.out
        have hcz19_0 : wc.cell? ⟨gb192, 0, none⟩ = some (.int .i64 0) := (blk_cell BK192.out 0).trans rfl
        have hcz19_1 : wc.cell? ⟨gb192, 1, none⟩ = some (.bool false) := (blk_cell BK192.out 1).trans rfl
        have hcz19_2 : wc.cell? ⟨gb192, 2, none⟩ = some (.int .i64 0) := (blk_cell BK192.out 2).trans rfl
        have hcz19_3 : wc.cell? ⟨gb192, 3, none⟩ = some (.string (⟨#[]⟩ : ByteArray)) := (blk_cell BK192.out 3).trans rfl
        have hcz19_4 : wc.cell? ⟨gb192, 4, none⟩ = some (.int .i64 0) := (blk_cell BK192.out 4).trans rfl
        have hcz19_5 : wc.cell? ⟨gb192, 5, none⟩ = some (.string (⟨#[]⟩ : ByteArray)) := (blk_cell BK192.out 5).trans rfl
        have hfz19_0 := blk_frozen BK192.out 0
        have hfz19_1 := blk_frozen BK192.out 1
        have hfz19_2 := blk_frozen BK192.out 2
        have hfz19_3 := blk_frozen BK192.out 3
        have hfz19_4 := blk_frozen BK192.out 4
        have hfz19_5 := blk_frozen BK192.out 5
        go_wp2
        refine bodyPost_ret (results_ct rfl _ _ gb192 85 #[.int .i64 0, .bool false, .int .i64 0, .string (⟨#[]⟩ : ByteArray), .int .i64 0, .string (⟨#[]⟩ : ByteArray)] (0, 0) _ rfl (by (with_reducible repeat (first | refine blk_drewN ?_ _ | refine blk_drew ?_ | refine blk_alloc ?_ _)); refine blk_put (cs := #[.int .i64 0, .bool false, .int .i64 0, .string (⟨#[]⟩ : ByteArray), .int .i64 0, .string (⟨#[]⟩ : ByteArray)]) ?_ 5 _ rfl; (with_reducible repeat (first | refine blk_drewN ?_ _ | refine blk_drew ?_ | refine blk_alloc ?_ _)); refine blk_put (cs := #[.int .i64 0, .bool false, .int .i64 0, .string (⟨#[]⟩ : ByteArray), .int .i64 0, .string (⟨#[]⟩ : ByteArray)]) ?_ 4 _ rfl; (with_reducible repeat (first | refine blk_drewN ?_ _ | refine blk_drew ?_ | refine blk_alloc ?_ _)); refine blk_put (cs := #[.int .i64 0, .bool false, .int .i64 0, .string (⟨#[]⟩ : ByteArray), .int .i64 0, .string (⟨#[]⟩ : ByteArray)]) ?_ 3 _ rfl; (with_reducible repeat (first | refine blk_drewN ?_ _ | refine blk_drew ?_ | refine blk_alloc ?_ _)); refine blk_put (cs := #[.int .i64 0, .bool false, .int .i64 0, .string (⟨#[]⟩ : ByteArray), .int .i64 0, .string (⟨#[]⟩ : ByteArray)]) ?_ 2 _ rfl; (with_reducible repeat (first | refine blk_drewN ?_ _ | refine blk_drew ?_ | refine blk_alloc ?_ _)); refine blk_put (cs := #[.int .i64 0, .bool false, .int .i64 0, .string (⟨#[]⟩ : ByteArray), .int .i64 0, .string (⟨#[]⟩ : ByteArray)]) ?_ 1 _ rfl; (with_reducible repeat (first | refine blk_drewN ?_ _ | refine blk_drew ?_ | refine blk_alloc ?_ _)); refine blk_put (cs := #[.int .i64 0, .bool false, .int .i64 0, .string (⟨#[]⟩ : ByteArray), .int .i64 0, .string (⟨#[]⟩ : ByteArray)]) ?_ 0 _ rfl; (with_reducible repeat (first | refine blk_drewN ?_ _ | refine blk_drew ?_ | refine blk_alloc ?_ _)); exact BK192.out) Try.underlying85 rfl (by kernel_rfl)) rfl ?_
        exact ⟨by first | rfl | (simp [errW_none, errW_some] <;> rfl) | (simp [*, errW_none, errW_some] <;> rfl), by repeat (first | (with_reducible first | exact HB.out | apply below_alloc | apply pw_below_drewN | apply below_drew1 | refine below_set ?_ GE191.out | refine below_set ?_ GE192.out) | exact HB.out)⟩
      · replace c17 := Bool.eq_false_iff.mpr c17
        subst c17
        have H1 : (impl_StatsOf.l0 kj2 l1 (l1.length : Int) 0 a0_0 a0_1 a0_2 0 false 0 (⟨#[]⟩ : ByteArray) 0 (⟨#[]⟩ : ByteArray)) = some (r1, r2, r3, r4, r5, r6, r7) := by rw [if_neg (show ¬ (false = true) by decide)] at H; exact H
        clear H
        have H := H1
        clear H1
        have H' := Aside0.mk H
        clear H
        go_wp2_with (first | ((with_reducible refine gate_dst (N := 6) rfl ?_); refine box_event ?hg (N := 6) ?hd (cs := #[.int .i64 0, .bool false, .int .i64 0, .string (⟨#[]⟩ : ByteArray), .int .i64 0, .string (⟨#[]⟩ : ByteArray)]) (t := 85) ?hr ?_; (case hd => rfl); (case hg => rfl); (case hr => first | (go_simp; done) | (go_simp; rfl)); intro gb195 hg w20 hbox hb; have n0_ := Aside0.mk (blk_below (g := gb191) (o := .cells #[.int .i64 a0_0, .int .i64 a0_1, .int .i64 a0_2] 88 (0, 0)) (by (with_reducible repeat (first | refine blk_drewN ?_ _ | refine blk_drew ?_ | refine blk_alloc ?_ _)); exact BK191.out) hb); have n1_ := Aside0.mk (blk_below (g := gb192) (o := .cells #[.int .i64 0, .bool false, .int .i64 0, .string (⟨#[]⟩ : ByteArray), .int .i64 0, .string (⟨#[]⟩ : ByteArray)] 85 (0, 0)) (by (with_reducible repeat (first | refine blk_drewN ?_ _ | refine blk_drew ?_ | refine blk_alloc ?_ _)); exact BK192.out) hb); have n2_ := Aside0.mk (below_step (by repeat (first | (with_reducible first | exact HB.out | apply below_alloc | apply pw_below_drewN | apply below_drew1 | refine below_set ?_ GE191.out | refine below_set ?_ GE192.out) | exact HB.out)) hb); have n3_ := Aside0.mk (hbox); have n4_ := Aside0.mk ((by rw [hg]; exact (below_size (by repeat (first | (with_reducible first | exact HB.out | apply below_alloc | apply pw_below_drewN | apply below_drew1 | refine below_set ?_ GE191.out | refine below_set ?_ GE192.out) | exact HB.out))) : w.heap.size ≤ gb195)); have n5_ := Aside0.mk ((by rw [hg]; exact (below_size (by repeat (first | (with_reducible first | exact HB.out | apply below_alloc | apply pw_below_drewN | apply below_drew1 | refine below_set ?_ GE191.out | refine below_set ?_ GE192.out) | exact HB.out))) : w.heap.size ≤ gb195)); have n6_ := Aside0.mk ((by rw [hg]; exact Nat.ne_of_lt (blk_lt (g := gb191) (o := .cells #[.int .i64 a0_0, .int .i64 a0_1, .int .i64 a0_2] 88 (0, 0)) (by (with_reducible repeat (first | refine blk_drewN ?_ _ | refine blk_drew ?_ | refine blk_alloc ?_ _)); exact BK191.out)) : gb191 ≠ gb195)); have n7_ := Aside0.mk ((by rw [hg]; exact Nat.ne_of_gt (blk_lt (g := gb191) (o := .cells #[.int .i64 a0_0, .int .i64 a0_1, .int .i64 a0_2] 88 (0, 0)) (by (with_reducible repeat (first | refine blk_drewN ?_ _ | refine blk_drew ?_ | refine blk_alloc ?_ _)); exact BK191.out)) : gb195 ≠ gb191)); have n8_ := Aside0.mk ((by rw [hg]; exact Nat.ne_of_lt (blk_lt (g := gb192) (o := .cells #[.int .i64 0, .bool false, .int .i64 0, .string (⟨#[]⟩ : ByteArray), .int .i64 0, .string (⟨#[]⟩ : ByteArray)] 85 (0, 0)) (by (with_reducible repeat (first | refine blk_drewN ?_ _ | refine blk_drew ?_ | refine blk_alloc ?_ _)); exact BK192.out)) : gb192 ≠ gb195)); have n9_ := Aside0.mk ((by rw [hg]; exact Nat.ne_of_gt (blk_lt (g := gb192) (o := .cells #[.int .i64 0, .bool false, .int .i64 0, .string (⟨#[]⟩ : ByteArray), .int .i64 0, .string (⟨#[]⟩ : ByteArray)] 85 (0, 0)) (by (with_reducible repeat (first | refine blk_drewN ?_ _ | refine blk_drew ?_ | refine blk_alloc ?_ _)); exact BK192.out)) : gb195 ≠ gb192)); clear BK191; clear BK192; clear HB; have BK191 := n0_; have BK192 := n1_; have HB := n2_; have BK195 := n3_; have GW195 := n4_; have GE195 := n5_; have NB191_195 := n6_; have NB195_191 := n7_; have NB192_195 := n8_; have NB195_192 := n9_; clear n0_ n1_ n2_ n3_ n4_ n5_ n6_ n7_ n8_ n9_; clear hb hbox hg; have hnb21 := NB195_191.out; have hnc21 := NB191_195.out; have hnb22 := NB195_192.out; have hnc22 := NB192_195.out; have hcz23_0 : w20.cell? ⟨gb195, 0, none⟩ = some (.int .i64 0) := (blk_cell BK195.out 0).trans rfl; have hcz23_1 : w20.cell? ⟨gb195, 1, none⟩ = some (.bool false) := (blk_cell BK195.out 1).trans rfl; have hcz23_2 : w20.cell? ⟨gb195, 2, none⟩ = some (.int .i64 0) := (blk_cell BK195.out 2).trans rfl; have hcz23_3 : w20.cell? ⟨gb195, 3, none⟩ = some (.string (⟨#[]⟩ : ByteArray)) := (blk_cell BK195.out 3).trans rfl; have hcz23_4 : w20.cell? ⟨gb195, 4, none⟩ = some (.int .i64 0) := (blk_cell BK195.out 4).trans rfl; have hcz23_5 : w20.cell? ⟨gb195, 5, none⟩ = some (.string (⟨#[]⟩ : ByteArray)) := (blk_cell BK195.out 5).trans rfl; have hfz23_0 := blk_frozen BK195.out 0; have hfz23_1 := blk_frozen BK195.out 1; have hfz23_2 := blk_frozen BK195.out 2; have hfz23_3 := blk_frozen BK195.out 3; have hfz23_4 := blk_frozen BK195.out 4; have hfz23_5 := blk_frozen BK195.out 5))
        go_loopg [22] kj2 (fun kq v22 w' => ∃ (x22_2 : Int) (x196000_2 : Int) (x196001_2 : Bool) (x196002_2 : Int) (x196003_2 : ByteArray) (x196004_2 : Int) (x196005_2 : ByteArray), v22 = .int .i64 x22_2 ∧ Aside0 (impl_StatsOf.l0 kq l1 (l1.length : Int) x22_2 a0_0 a0_1 a0_2 x196000_2 x196001_2 x196002_2 x196003_2 x196004_2 x196005_2 = some (r1, r2, r3, r4, r5, r6, r7)) ∧ Aside0 (kq ≤ kj2) ∧ Aside0 (w'.heap[gb191]? = some (.cells #[.int .i64 a0_0, .int .i64 a0_1, .int .i64 a0_2] 88 (0, 0))) ∧ Aside0 (w'.heap[gb192]? = some (.cells #[.int .i64 0, .bool false, .int .i64 0, .string (⟨#[]⟩ : ByteArray), .int .i64 0, .string (⟨#[]⟩ : ByteArray)] 85 (0, 0))) ∧ Aside0 (w'.heap[gb195]? = some (.cells #[.int .i64 x196000_2, .bool x196001_2, .int .i64 x196002_2, .string x196003_2, .int .i64 x196004_2, .string x196005_2] 85 (0, 0))) ∧ Aside0 (Below w.heap.size w w'))
        case atStart => exact ⟨(0), (0), (false), (0), ((⟨#[]⟩ : ByteArray)), (0), ((⟨#[]⟩ : ByteArray)), (by first | rfl | (simp; done) | (simp [*]; done)), H', ⟨Nat.le_refl _⟩, ⟨by (with_reducible repeat (first | refine blk_drewN ?_ _ | refine blk_drew ?_ | refine blk_alloc ?_ _)); refine blk_far ?_ NB191_195.out _; (with_reducible repeat (first | refine blk_drewN ?_ _ | refine blk_drew ?_ | refine blk_alloc ?_ _)); refine blk_far ?_ NB191_195.out _; (with_reducible repeat (first | refine blk_drewN ?_ _ | refine blk_drew ?_ | refine blk_alloc ?_ _)); refine blk_far ?_ NB191_195.out _; (with_reducible repeat (first | refine blk_drewN ?_ _ | refine blk_drew ?_ | refine blk_alloc ?_ _)); refine blk_far ?_ NB191_195.out _; (with_reducible repeat (first | refine blk_drewN ?_ _ | refine blk_drew ?_ | refine blk_alloc ?_ _)); refine blk_far ?_ NB191_195.out _; (with_reducible repeat (first | refine blk_drewN ?_ _ | refine blk_drew ?_ | refine blk_alloc ?_ _)); refine blk_far ?_ NB191_195.out _; (with_reducible repeat (first | refine blk_drewN ?_ _ | refine blk_drew ?_ | refine blk_alloc ?_ _)); exact BK191.out⟩, ⟨by (with_reducible repeat (first | refine blk_drewN ?_ _ | refine blk_drew ?_ | refine blk_alloc ?_ _)); refine blk_far ?_ NB192_195.out _; (with_reducible repeat (first | refine blk_drewN ?_ _ | refine blk_drew ?_ | refine blk_alloc ?_ _)); refine blk_far ?_ NB192_195.out _; (with_reducible repeat (first | refine blk_drewN ?_ _ | refine blk_drew ?_ | refine blk_alloc ?_ _)); refine blk_far ?_ NB192_195.out _; (with_reducible repeat (first | refine blk_drewN ?_ _ | refine blk_drew ?_ | refine blk_alloc ?_ _)); refine blk_far ?_ NB192_195.out _; (with_reducible repeat (first | refine blk_drewN ?_ _ | refine blk_drew ?_ | refine blk_alloc ?_ _)); refine blk_far ?_ NB192_195.out _; (with_reducible repeat (first | refine blk_drewN ?_ _ | refine blk_drew ?_ | refine blk_alloc ?_ _)); refine blk_far ?_ NB192_195.out _; (with_reducible repeat (first | refine blk_drewN ?_ _ | refine blk_drew ?_ | refine blk_alloc ?_ _)); exact BK192.out⟩, ⟨by (with_reducible repeat (first | refine blk_drewN ?_ _ | refine blk_drew ?_ | refine blk_alloc ?_ _)); refine blk_put (cs := #[.int .i64 0, .bool false, .int .i64 0, .string (⟨#[]⟩ : ByteArray), .int .i64 0, .string (⟨#[]⟩ : ByteArray)]) ?_ 5 _ rfl; (with_reducible repeat (first | refine blk_drewN ?_ _ | refine blk_drew ?_ | refine blk_alloc ?_ _)); refine blk_put (cs := #[.int .i64 0, .bool false, .int .i64 0, .string (⟨#[]⟩ : ByteArray), .int .i64 0, .string (⟨#[]⟩ : ByteArray)]) ?_ 4 _ rfl; (with_reducible repeat (first | refine blk_drewN ?_ _ | refine blk_drew ?_ | refine blk_alloc ?_ _)); refine blk_put (cs := #[.int .i64 0, .bool false, .int .i64 0, .string (⟨#[]⟩ : ByteArray), .int .i64 0, .string (⟨#[]⟩ : ByteArray)]) ?_ 3 _ rfl; (with_reducible repeat (first | refine blk_drewN ?_ _ | refine blk_drew ?_ | refine blk_alloc ?_ _)); refine blk_put (cs := #[.int .i64 0, .bool false, .int .i64 0, .string (⟨#[]⟩ : ByteArray), .int .i64 0, .string (⟨#[]⟩ : ByteArray)]) ?_ 2 _ rfl; (with_reducible repeat (first | refine blk_drewN ?_ _ | refine blk_drew ?_ | refine blk_alloc ?_ _)); refine blk_put (cs := #[.int .i64 0, .bool false, .int .i64 0, .string (⟨#[]⟩ : ByteArray), .int .i64 0, .string (⟨#[]⟩ : ByteArray)]) ?_ 1 _ rfl; (with_reducible repeat (first | refine blk_drewN ?_ _ | refine blk_drew ?_ | refine blk_alloc ?_ _)); refine blk_put (cs := #[.int .i64 0, .bool false, .int .i64 0, .string (⟨#[]⟩ : ByteArray), .int .i64 0, .string (⟨#[]⟩ : ByteArray)]) ?_ 0 _ rfl; (with_reducible repeat (first | refine blk_drewN ?_ _ | refine blk_drew ?_ | refine blk_alloc ?_ _)); exact BK195.out⟩, ⟨by repeat (first | (with_reducible first | exact HB.out | apply below_alloc | apply pw_below_drewN | apply below_drew1 | refine below_set ?_ GE191.out | refine below_set ?_ GE192.out | refine below_set ?_ GE195.out) | exact HB.out)⟩⟩
        case round =>
          clear H'
          try clear c1
          try clear c2
          try clear p2
          try clear c6
          try clear c7
          try clear c9
          try clear c12
          try clear c14
          try clear c17
          try clear c18
          try clear c21
          try clear c22
          try clear hcz10_0
          try clear hcz10_1
          try clear hcz10_2
          try clear hcz12_0
          try clear hcz12_1
          try clear hcz12_2
          try clear hcz15_0
          try clear hcz15_1
          try clear hcz15_2
          try clear hcz19_0
          try clear hcz19_1
          try clear hcz19_2
          try clear hcz19_3
          try clear hcz19_4
          try clear hcz19_5
          try clear hcz23_0
          try clear hcz23_1
          try clear hcz23_2
          try clear hcz23_3
          try clear hcz23_4
          try clear hcz23_5
          try clear hfz10_0
          try clear hfz10_1
          try clear hfz10_2
          try clear hfz12_0
          try clear hfz12_1
          try clear hfz12_2
          try clear hfz15_0
          try clear hfz15_1
          try clear hfz15_2
          try clear hfz19_0
          try clear hfz19_1
          try clear hfz19_2
          try clear hfz19_3
          try clear hfz19_4
          try clear hfz19_5
          try clear hfz23_0
          try clear hfz23_1
          try clear hfz23_2
          try clear hfz23_3
          try clear hfz23_4
          try clear hfz23_5
          try clear p2
          obtain ⟨x22_2, x196000_2, x196001_2, x196002_2, x196003_2, x196004_2, x196005_2, rfl, HA, HK2, BK191, BK192, BK195, HB⟩ := hrel
          cases gk with
          | zero => exact absurd HA.out (by simp [impl_StatsOf.l0])
          | succ k2 =>
            have H := HA.out
            clear HA
            simp only [impl_StatsOf.l0] at H
            by_cases c24 : x22_2 < (l1.length : Int)
            · rw [if_pos c24] at H
              have c24b0 : decide (x22_2 < (l1.length : Int)) = true := decide_eq_true c24
              clear c24
              by_cases c25 : 0 ≤ x22_2
              · rw [if_pos c25] at H
                have c25b0 : decide (0 ≤ x22_2) = true := decide_eq_true c25
                clear c25
                by_cases c26 : x22_2 < (l1.length : Int)
                · rw [if_pos c26] at H
                  have c26b0 : decide (x22_2 < (l1.length : Int)) = true := decide_eq_true c26
                  clear c26
                  by_cases c27 : ((rd_T127 l1 x22_2).f1) = a0_2
                  · rw [if_pos c27] at H
                    have c27b0 : (((rd_T127 l1 x22_2).f1) == a0_2) = true := beq_iff_eq.mpr c27
                    have c27b1 : (((rd_T127 l1 x22_2).f1) != a0_2) = false := bne_eq_false_iff_eq.mpr c27
                    clear c27
                    have HC28 := Aside0.mk H
                    clear H
                    have p196 : 0 ≤ (x22_2 : Int) := of_decide_eq_true (by first | (with_reducible assumption) | assumption)
                    have q196 : x22_2 < (l1.length : Int) := of_decide_eq_true (by first | (with_reducible assumption) | assumption)
                    obtain ⟨ad196, e196, hx196_0, hx196_1, hx196_2, hx196_3⟩ := at_T127 HR1.out x22_2 p196 q196
                    cases e196
                    replace hx196_0 := (HB.out.cell (World.block_lt_of_cell? w _ hx196_0)).trans hx196_0
                    replace hx196_1 := (HB.out.cell (World.block_lt_of_cell? w _ hx196_1)).trans hx196_1
                    replace hx196_2 := (HB.out.cell (World.block_lt_of_cell? w _ hx196_2)).trans hx196_2
                    replace hx196_3 := (HB.out.cell (World.block_lt_of_cell? w _ hx196_3)).trans hx196_3
                    replace p196 := eq_true p196
                    replace q196 := eq_true q196
                    go_upto_region 9 with (first | ((with_reducible refine gate_dst (N := 8) rfl ?_); refine box_event ?hg (N := 8) ?hd (cs := #[.int .i64 0, .int .i64 0, .int .i64 0, .string (⟨#[]⟩ : ByteArray)]) (t := 127) ?hr ?_; (case hd => rfl); (case hg => rfl); (case hr => first | (go_simp; done) | (go_simp; rfl)); intro gb197 hg w29 hbox hb; have n0_ := Aside0.mk (blk_below (g := gb191) (o := .cells #[.int .i64 a0_0, .int .i64 a0_1, .int .i64 a0_2] 88 (0, 0)) (by (with_reducible repeat (first | refine blk_drewN ?_ _ | refine blk_drew ?_ | refine blk_alloc ?_ _)); exact BK191.out) hb); have n1_ := Aside0.mk (blk_below (g := gb192) (o := .cells #[.int .i64 0, .bool false, .int .i64 0, .string (⟨#[]⟩ : ByteArray), .int .i64 0, .string (⟨#[]⟩ : ByteArray)] 85 (0, 0)) (by (with_reducible repeat (first | refine blk_drewN ?_ _ | refine blk_drew ?_ | refine blk_alloc ?_ _)); exact BK192.out) hb); have n2_ := Aside0.mk (blk_below (g := gb195) (o := .cells #[.int .i64 x196000_2, .bool x196001_2, .int .i64 x196002_2, .string x196003_2, .int .i64 x196004_2, .string x196005_2] 85 (0, 0)) (by (with_reducible repeat (first | refine blk_drewN ?_ _ | refine blk_drew ?_ | refine blk_alloc ?_ _)); exact BK195.out) hb); have n3_ := Aside0.mk (below_step (by repeat (first | (with_reducible first | exact HB.out | apply below_alloc | apply pw_below_drewN | apply below_drew1 | refine below_set ?_ GE191.out | refine below_set ?_ GE192.out | refine below_set ?_ GE195.out) | exact HB.out)) hb); have n4_ := Aside0.mk (hbox); have n5_ := Aside0.mk ((by rw [hg]; exact (below_size (by repeat (first | (with_reducible first | exact HB.out | apply below_alloc | apply pw_below_drewN | apply below_drew1 | refine below_set ?_ GE191.out | refine below_set ?_ GE192.out | refine below_set ?_ GE195.out) | exact HB.out))) : w.heap.size ≤ gb197)); have n6_ := Aside0.mk ((by rw [hg]; exact (below_size (by repeat (first | (with_reducible first | exact HB.out | apply below_alloc | apply pw_below_drewN | apply below_drew1 | refine below_set ?_ GE191.out | refine below_set ?_ GE192.out | refine below_set ?_ GE195.out) | exact HB.out))) : w.heap.size ≤ gb197)); have n7_ := Aside0.mk ((by rw [hg]; exact Nat.ne_of_lt (blk_lt (g := gb191) (o := .cells #[.int .i64 a0_0, .int .i64 a0_1, .int .i64 a0_2] 88 (0, 0)) (by (with_reducible repeat (first | refine blk_drewN ?_ _ | refine blk_drew ?_ | refine blk_alloc ?_ _)); exact BK191.out)) : gb191 ≠ gb197)); have n8_ := Aside0.mk ((by rw [hg]; exact Nat.ne_of_gt (blk_lt (g := gb191) (o := .cells #[.int .i64 a0_0, .int .i64 a0_1, .int .i64 a0_2] 88 (0, 0)) (by (with_reducible repeat (first | refine blk_drewN ?_ _ | refine blk_drew ?_ | refine blk_alloc ?_ _)); exact BK191.out)) : gb197 ≠ gb191)); have n9_ := Aside0.mk ((by rw [hg]; exact Nat.ne_of_lt (blk_lt (g := gb192) (o := .cells #[.int .i64 0, .bool false, .int .i64 0, .string (⟨#[]⟩ : ByteArray), .int .i64 0, .string (⟨#[]⟩ : ByteArray)] 85 (0, 0)) (by (with_reducible repeat (first | refine blk_drewN ?_ _ | refine blk_drew ?_ | refine blk_alloc ?_ _)); exact BK192.out)) : gb192 ≠ gb197)); have n10_ := Aside0.mk ((by rw [hg]; exact Nat.ne_of_gt (blk_lt (g := gb192) (o := .cells #[.int .i64 0, .bool false, .int .i64 0, .string (⟨#[]⟩ : ByteArray), .int .i64 0, .string (⟨#[]⟩ : ByteArray)] 85 (0, 0)) (by (with_reducible repeat (first | refine blk_drewN ?_ _ | refine blk_drew ?_ | refine blk_alloc ?_ _)); exact BK192.out)) : gb197 ≠ gb192)); have n11_ := Aside0.mk ((by rw [hg]; exact Nat.ne_of_lt (blk_lt (g := gb195) (o := .cells #[.int .i64 x196000_2, .bool x196001_2, .int .i64 x196002_2, .string x196003_2, .int .i64 x196004_2, .string x196005_2] 85 (0, 0)) (by (with_reducible repeat (first | refine blk_drewN ?_ _ | refine blk_drew ?_ | refine blk_alloc ?_ _)); exact BK195.out)) : gb195 ≠ gb197)); have n12_ := Aside0.mk ((by rw [hg]; exact Nat.ne_of_gt (blk_lt (g := gb195) (o := .cells #[.int .i64 x196000_2, .bool x196001_2, .int .i64 x196002_2, .string x196003_2, .int .i64 x196004_2, .string x196005_2] 85 (0, 0)) (by (with_reducible repeat (first | refine blk_drewN ?_ _ | refine blk_drew ?_ | refine blk_alloc ?_ _)); exact BK195.out)) : gb197 ≠ gb195)); clear BK191; clear BK192; clear BK195; clear HB; have BK191 := n0_; have BK192 := n1_; have BK195 := n2_; have HB := n3_; have BK197 := n4_; have GW197 := n5_; have GE197 := n6_; have NB191_197 := n7_; have NB197_191 := n8_; have NB192_197 := n9_; have NB197_192 := n10_; have NB195_197 := n11_; have NB197_195 := n12_; clear n0_ n1_ n2_ n3_ n4_ n5_ n6_ n7_ n8_ n9_ n10_ n11_ n12_; clear hb hbox hg; have hnb30 := NB197_191.out; have hnc30 := NB191_197.out; have hnb31 := NB197_192.out; have hnc31 := NB192_197.out; have hnb32 := NB197_195.out; have hnc32 := NB195_197.out; have hcz33_0 : w29.cell? ⟨gb197, 0, none⟩ = some (.int .i64 0) := (blk_cell BK197.out 0).trans rfl; have hcz33_1 : w29.cell? ⟨gb197, 1, none⟩ = some (.int .i64 0) := (blk_cell BK197.out 1).trans rfl; have hcz33_2 : w29.cell? ⟨gb197, 2, none⟩ = some (.int .i64 0) := (blk_cell BK197.out 2).trans rfl; have hcz33_3 : w29.cell? ⟨gb197, 3, none⟩ = some (.string (⟨#[]⟩ : ByteArray)) := (blk_cell BK197.out 3).trans rfl; have hfz33_0 := blk_frozen BK197.out 0; have hfz33_1 := blk_frozen BK197.out 1; have hfz33_2 := blk_frozen BK197.out 2; have hfz33_3 := blk_frozen BK197.out 3; have hnb34 := NB191_192.out; have hnc34 := NB192_191.out; have hnb35 := NB191_195.out; have hnc35 := NB195_191.out; have hcz36_0 : w29.cell? ⟨gb191, 0, none⟩ = some (.int .i64 a0_0) := (blk_cell BK191.out 0).trans rfl; have hcz36_1 : w29.cell? ⟨gb191, 1, none⟩ = some (.int .i64 a0_1) := (blk_cell BK191.out 1).trans rfl; have hcz36_2 : w29.cell? ⟨gb191, 2, none⟩ = some (.int .i64 a0_2) := (blk_cell BK191.out 2).trans rfl; have hfz36_0 := blk_frozen BK191.out 0; have hfz36_1 := blk_frozen BK191.out 1; have hfz36_2 := blk_frozen BK191.out 2))
                    (try simp only [Act.put, List.setIfInBounds_toArray, List.set_cons_zero, List.set_cons_succ])
                    go_cut [46] (fun v46 wc => ∃ (kq : Nat) (x46_27 : Bool), v46 = .bool x46_27 ∧ Aside0 (impl_StatsOf.j2 kq l1 (l1.length : Int) x22_2 x46_27 a0_0 a0_1 a0_2 x196000_2 x196001_2 x196002_2 x196003_2 x196004_2 x196005_2 ((rd_T127 l1 x22_2).f0) ((rd_T127 l1 x22_2).f1) ((rd_T127 l1 x22_2).f2.f0) ((rd_T127 l1 x22_2).f2.f1) = some (r1, r2, r3, r4, r5, r6, r7)) ∧ Aside0 (kq ≤ k2) ∧ Aside0 (wc.heap[gb191]? = some (.cells #[.int .i64 a0_0, .int .i64 a0_1, .int .i64 a0_2] 88 (0, 0))) ∧ Aside0 (wc.heap[gb192]? = some (.cells #[.int .i64 0, .bool false, .int .i64 0, .string (⟨#[]⟩ : ByteArray), .int .i64 0, .string (⟨#[]⟩ : ByteArray)] 85 (0, 0))) ∧ Aside0 (wc.heap[gb195]? = some (.cells #[.int .i64 x196000_2, .bool x196001_2, .int .i64 x196002_2, .string x196003_2, .int .i64 x196004_2, .string x196005_2] 85 (0, 0))) ∧ Aside0 (wc.heap[gb197]? = some (.cells #[.int .i64 ((rd_T127 l1 x22_2).f0), .int .i64 ((rd_T127 l1 x22_2).f1), .int .i64 ((rd_T127 l1 x22_2).f2.f0), .string ((rd_T127 l1 x22_2).f2.f1)] 127 (0, 0))) ∧ Aside0 (Below w.heap.size w wc))
                    case first =>
                      have H := HC28.out
                      clear HC28
                      by_cases c37 : x196001_2 = true
                      · subst c37
                        have H1 : ((impl_ValLess.f k2 a0_0 ((rd_T127 l1 x22_2).f2.f0) ((rd_T127 l1 x22_2).f2.f1) x196002_2 x196003_2).bind fun t198 => (impl_StatsOf.j2 k2 l1 (l1.length : Int) x22_2 t198 a0_0 a0_1 a0_2 x196000_2 true x196002_2 x196003_2 x196004_2 x196005_2 ((rd_T127 l1 x22_2).f0) ((rd_T127 l1 x22_2).f1) ((rd_T127 l1 x22_2).f2.f0) ((rd_T127 l1 x22_2).f2.f1))) = some (r1, r2, r3, r4, r5, r6, r7) := by rw [if_pos rfl] at H; exact H
                        clear H
                        have H := H1
                        clear H1
                        replace H := Option.bind_eq_some_iff.mp H
                        obtain ⟨t198, A380, H⟩ := H
                        replace H : (impl_StatsOf.j2 k2 l1 (l1.length : Int) x22_2 t198 a0_0 a0_1 a0_2 x196000_2 true x196002_2 x196003_2 x196004_2 x196005_2 ((rd_T127 l1 x22_2).f0) ((rd_T127 l1 x22_2).f1) ((rd_T127 l1 x22_2).f2.f0) ((rd_T127 l1 x22_2).f2.f1)) = some (r1, r2, r3, r4, r5, r6, r7) := H
                        have A38 := Aside0.mk A380
                        clear A380
                        have H' := Aside0.mk H
                        clear H
                        have hnb39 := NB195_191.out
                        have hnc39 := NB191_195.out
                        have hnb40 := NB195_192.out
                        have hnc40 := NB192_195.out
                        have hnb41 := NB195_197.out
                        have hnc41 := NB197_195.out
                        have hcz42_0 : w29.cell? ⟨gb195, 0, none⟩ = some (.int .i64 x196000_2) := (blk_cell BK195.out 0).trans rfl
                        have hcz42_1 : w29.cell? ⟨gb195, 1, none⟩ = some (.bool true) := (blk_cell BK195.out 1).trans rfl
                        have hcz42_2 : w29.cell? ⟨gb195, 2, none⟩ = some (.int .i64 x196002_2) := (blk_cell BK195.out 2).trans rfl
                        have hcz42_3 : w29.cell? ⟨gb195, 3, none⟩ = some (.string x196003_2) := (blk_cell BK195.out 3).trans rfl
                        have hcz42_4 : w29.cell? ⟨gb195, 4, none⟩ = some (.int .i64 x196004_2) := (blk_cell BK195.out 4).trans rfl
                        have hcz42_5 : w29.cell? ⟨gb195, 5, none⟩ = some (.string x196005_2) := (blk_cell BK195.out 5).trans rfl
                        have hfz42_0 := blk_frozen BK195.out 0
                        have hfz42_1 := blk_frozen BK195.out 1
                        have hfz42_2 := blk_frozen BK195.out 2
                        have hfz42_3 := blk_frozen BK195.out 3
                        have hfz42_4 := blk_frozen BK195.out 4
                        have hfz42_5 := blk_frozen BK195.out 5
                        have hnb43 := NB191_192.out
                        have hnc43 := NB192_191.out
                        have hnb44 := NB191_197.out
                        have hnc44 := NB197_191.out
                        have hcz45_0 : w29.cell? ⟨gb191, 0, none⟩ = some (.int .i64 a0_0) := (blk_cell BK191.out 0).trans rfl
                        have hcz45_1 : w29.cell? ⟨gb191, 1, none⟩ = some (.int .i64 a0_1) := (blk_cell BK191.out 1).trans rfl
                        have hcz45_2 : w29.cell? ⟨gb191, 2, none⟩ = some (.int .i64 a0_2) := (blk_cell BK191.out 2).trans rfl
                        have hfz45_0 := blk_frozen BK191.out 0
                        have hfz45_1 := blk_frozen BK191.out 1
                        have hfz45_2 := blk_frozen BK191.out 2
                        have hnb46 := NB197_192.out
                        have hnc46 := NB192_197.out
                        have hcz47_0 : w29.cell? ⟨gb197, 0, none⟩ = some (.int .i64 0) := (blk_cell BK197.out 0).trans rfl
                        have hcz47_1 : w29.cell? ⟨gb197, 1, none⟩ = some (.int .i64 0) := (blk_cell BK197.out 1).trans rfl
                        have hcz47_2 : w29.cell? ⟨gb197, 2, none⟩ = some (.int .i64 0) := (blk_cell BK197.out 2).trans rfl
                        have hcz47_3 : w29.cell? ⟨gb197, 3, none⟩ = some (.string (⟨#[]⟩ : ByteArray)) := (blk_cell BK197.out 3).trans rfl
                        have hfz47_0 := blk_frozen BK197.out 0
                        have hfz47_1 := blk_frozen BK197.out 1
                        have hfz47_2 := blk_frozen BK197.out 2
                        have hfz47_3 := blk_frozen BK197.out 3
                        go_wp2_with (first | (go_at_call 131; (with_reducible refine (impl_ValLess.calls k2 a0_0 ((rd_T127 l1 x22_2).f2.f0) ((rd_T127 l1 x22_2).f2.f1) x196002_2 x196003_2 t198 _ A38.out).mono ?_); rintro e w48 ⟨rfl, hb⟩; have n0_ := Aside0.mk (blk_below (g := gb191) (o := .cells #[.int .i64 a0_0, .int .i64 a0_1, .int .i64 a0_2] 88 (0, 0)) (by (with_reducible repeat (first | refine blk_drewN ?_ _ | refine blk_drew ?_ | refine blk_alloc ?_ _)); refine blk_far ?_ NB191_197.out _; (with_reducible repeat (first | refine blk_drewN ?_ _ | refine blk_drew ?_ | refine blk_alloc ?_ _)); refine blk_far ?_ NB191_197.out _; (with_reducible repeat (first | refine blk_drewN ?_ _ | refine blk_drew ?_ | refine blk_alloc ?_ _)); refine blk_far ?_ NB191_197.out _; (with_reducible repeat (first | refine blk_drewN ?_ _ | refine blk_drew ?_ | refine blk_alloc ?_ _)); refine blk_far ?_ NB191_197.out _; (with_reducible repeat (first | refine blk_drewN ?_ _ | refine blk_drew ?_ | refine blk_alloc ?_ _)); exact BK191.out) hb); have n1_ := Aside0.mk (blk_below (g := gb192) (o := .cells #[.int .i64 0, .bool false, .int .i64 0, .string (⟨#[]⟩ : ByteArray), .int .i64 0, .string (⟨#[]⟩ : ByteArray)] 85 (0, 0)) (by (with_reducible repeat (first | refine blk_drewN ?_ _ | refine blk_drew ?_ | refine blk_alloc ?_ _)); refine blk_far ?_ NB192_197.out _; (with_reducible repeat (first | refine blk_drewN ?_ _ | refine blk_drew ?_ | refine blk_alloc ?_ _)); refine blk_far ?_ NB192_197.out _; (with_reducible repeat (first | refine blk_drewN ?_ _ | refine blk_drew ?_ | refine blk_alloc ?_ _)); refine blk_far ?_ NB192_197.out _; (with_reducible repeat (first | refine blk_drewN ?_ _ | refine blk_drew ?_ | refine blk_alloc ?_ _)); refine blk_far ?_ NB192_197.out _; (with_reducible repeat (first | refine blk_drewN ?_ _ | refine blk_drew ?_ | refine blk_alloc ?_ _)); exact BK192.out) hb); have n2_ := Aside0.mk (blk_below (g := gb195) (o := .cells #[.int .i64 x196000_2, .bool true, .int .i64 x196002_2, .string x196003_2, .int .i64 x196004_2, .string x196005_2] 85 (0, 0)) (by (with_reducible repeat (first | refine blk_drewN ?_ _ | refine blk_drew ?_ | refine blk_alloc ?_ _)); refine blk_far ?_ NB195_197.out _; (with_reducible repeat (first | refine blk_drewN ?_ _ | refine blk_drew ?_ | refine blk_alloc ?_ _)); refine blk_far ?_ NB195_197.out _; (with_reducible repeat (first | refine blk_drewN ?_ _ | refine blk_drew ?_ | refine blk_alloc ?_ _)); refine blk_far ?_ NB195_197.out _; (with_reducible repeat (first | refine blk_drewN ?_ _ | refine blk_drew ?_ | refine blk_alloc ?_ _)); refine blk_far ?_ NB195_197.out _; (with_reducible repeat (first | refine blk_drewN ?_ _ | refine blk_drew ?_ | refine blk_alloc ?_ _)); exact BK195.out) hb); have n3_ := Aside0.mk (blk_below (g := gb197) (o := .cells #[.int .i64 ((rd_T127 l1 x22_2).f0), .int .i64 ((rd_T127 l1 x22_2).f1), .int .i64 ((rd_T127 l1 x22_2).f2.f0), .string ((rd_T127 l1 x22_2).f2.f1)] 127 (0, 0)) (by (with_reducible repeat (first | refine blk_drewN ?_ _ | refine blk_drew ?_ | refine blk_alloc ?_ _)); refine blk_put (cs := #[.int .i64 ((rd_T127 l1 x22_2).f0), .int .i64 ((rd_T127 l1 x22_2).f1), .int .i64 ((rd_T127 l1 x22_2).f2.f0), .string (⟨#[]⟩ : ByteArray)]) ?_ 3 _ rfl; (with_reducible repeat (first | refine blk_drewN ?_ _ | refine blk_drew ?_ | refine blk_alloc ?_ _)); refine blk_put (cs := #[.int .i64 ((rd_T127 l1 x22_2).f0), .int .i64 ((rd_T127 l1 x22_2).f1), .int .i64 0, .string (⟨#[]⟩ : ByteArray)]) ?_ 2 _ rfl; (with_reducible repeat (first | refine blk_drewN ?_ _ | refine blk_drew ?_ | refine blk_alloc ?_ _)); refine blk_put (cs := #[.int .i64 ((rd_T127 l1 x22_2).f0), .int .i64 0, .int .i64 0, .string (⟨#[]⟩ : ByteArray)]) ?_ 1 _ rfl; (with_reducible repeat (first | refine blk_drewN ?_ _ | refine blk_drew ?_ | refine blk_alloc ?_ _)); refine blk_put (cs := #[.int .i64 0, .int .i64 0, .int .i64 0, .string (⟨#[]⟩ : ByteArray)]) ?_ 0 _ rfl; (with_reducible repeat (first | refine blk_drewN ?_ _ | refine blk_drew ?_ | refine blk_alloc ?_ _)); exact BK197.out) hb); have n4_ := Aside0.mk (below_step (by repeat (first | (with_reducible first | exact HB.out | apply below_alloc | apply pw_below_drewN | apply below_drew1 | refine below_set ?_ GE191.out | refine below_set ?_ GE192.out | refine below_set ?_ GE195.out | refine below_set ?_ GE197.out) | exact HB.out)) hb); clear BK191; clear BK192; clear BK195; clear BK197; clear HB; have BK191 := n0_; have BK192 := n1_; have BK195 := n2_; have BK197 := n3_; have HB := n4_; clear n0_ n1_ n2_ n3_ n4_; (try clear hb); (try clear hb2); (try clear hk); (try clear hi)))
                        go_meet
                        case rel => exact ⟨_, (t198), (by first | rfl | (simp; done) | (simp [*]; done)), H', ⟨by have := HJ2.out; have := HK2.out; first | omega | exact Nat.le_refl _⟩, ⟨by (with_reducible repeat (first | refine blk_drewN ?_ _ | refine blk_drew ?_ | refine blk_alloc ?_ _)); exact BK191.out⟩, ⟨by (with_reducible repeat (first | refine blk_drewN ?_ _ | refine blk_drew ?_ | refine blk_alloc ?_ _)); exact BK192.out⟩, ⟨by (with_reducible repeat (first | refine blk_drewN ?_ _ | refine blk_drew ?_ | refine blk_alloc ?_ _)); exact BK195.out⟩, ⟨by (with_reducible repeat (first | refine blk_drewN ?_ _ | refine blk_drew ?_ | refine blk_alloc ?_ _)); exact BK197.out⟩, ⟨by repeat (first | (with_reducible first | exact HB.out | apply below_alloc | apply pw_below_drewN | apply below_drew1 | refine below_set ?_ GE191.out | refine below_set ?_ GE192.out | refine below_set ?_ GE195.out | refine below_set ?_ GE197.out) | exact HB.out)⟩⟩
                      · replace c37 := Bool.eq_false_iff.mpr c37
                        subst c37
                        have H1 : (impl_StatsOf.j2 k2 l1 (l1.length : Int) x22_2 true a0_0 a0_1 a0_2 x196000_2 false x196002_2 x196003_2 x196004_2 x196005_2 ((rd_T127 l1 x22_2).f0) ((rd_T127 l1 x22_2).f1) ((rd_T127 l1 x22_2).f2.f0) ((rd_T127 l1 x22_2).f2.f1)) = some (r1, r2, r3, r4, r5, r6, r7) := by rw [if_neg (show ¬ (false = true) by decide)] at H; exact H
                        clear H
                        have H := H1
                        clear H1
                        have H' := Aside0.mk H
                        clear H
                        have hnb49 := NB195_191.out
                        have hnc49 := NB191_195.out
                        have hnb50 := NB195_192.out
                        have hnc50 := NB192_195.out
                        have hnb51 := NB195_197.out
                        have hnc51 := NB197_195.out
                        have hcz52_0 : w29.cell? ⟨gb195, 0, none⟩ = some (.int .i64 x196000_2) := (blk_cell BK195.out 0).trans rfl
                        have hcz52_1 : w29.cell? ⟨gb195, 1, none⟩ = some (.bool false) := (blk_cell BK195.out 1).trans rfl
                        have hcz52_2 : w29.cell? ⟨gb195, 2, none⟩ = some (.int .i64 x196002_2) := (blk_cell BK195.out 2).trans rfl
                        have hcz52_3 : w29.cell? ⟨gb195, 3, none⟩ = some (.string x196003_2) := (blk_cell BK195.out 3).trans rfl
                        have hcz52_4 : w29.cell? ⟨gb195, 4, none⟩ = some (.int .i64 x196004_2) := (blk_cell BK195.out 4).trans rfl
                        have hcz52_5 : w29.cell? ⟨gb195, 5, none⟩ = some (.string x196005_2) := (blk_cell BK195.out 5).trans rfl
                        have hfz52_0 := blk_frozen BK195.out 0
                        have hfz52_1 := blk_frozen BK195.out 1
                        have hfz52_2 := blk_frozen BK195.out 2
                        have hfz52_3 := blk_frozen BK195.out 3
                        have hfz52_4 := blk_frozen BK195.out 4
                        have hfz52_5 := blk_frozen BK195.out 5
                        go_wp2
                        go_meet
                        case rel => exact ⟨_, (true), (by first | rfl | (simp; done) | (simp [*]; done)), H', ⟨by have := HJ2.out; have := HK2.out; first | omega | exact Nat.le_refl _⟩, ⟨by (with_reducible repeat (first | refine blk_drewN ?_ _ | refine blk_drew ?_ | refine blk_alloc ?_ _)); refine blk_far ?_ NB191_197.out _; (with_reducible repeat (first | refine blk_drewN ?_ _ | refine blk_drew ?_ | refine blk_alloc ?_ _)); refine blk_far ?_ NB191_197.out _; (with_reducible repeat (first | refine blk_drewN ?_ _ | refine blk_drew ?_ | refine blk_alloc ?_ _)); refine blk_far ?_ NB191_197.out _; (with_reducible repeat (first | refine blk_drewN ?_ _ | refine blk_drew ?_ | refine blk_alloc ?_ _)); refine blk_far ?_ NB191_197.out _; (with_reducible repeat (first | refine blk_drewN ?_ _ | refine blk_drew ?_ | refine blk_alloc ?_ _)); exact BK191.out⟩, ⟨by (with_reducible repeat (first | refine blk_drewN ?_ _ | refine blk_drew ?_ | refine blk_alloc ?_ _)); refine blk_far ?_ NB192_197.out _; (with_reducible repeat (first | refine blk_drewN ?_ _ | refine blk_drew ?_ | refine blk_alloc ?_ _)); refine blk_far ?_ NB192_197.out _; (with_reducible repeat (first | refine blk_drewN ?_ _ | refine blk_drew ?_ | refine blk_alloc ?_ _)); refine blk_far ?_ NB192_197.out _; (with_reducible repeat (first | refine blk_drewN ?_ _ | refine blk_drew ?_ | refine blk_alloc ?_ _)); refine blk_far ?_ NB192_197.out _; (with_reducible repeat (first | refine blk_drewN ?_ _ | refine blk_drew ?_ | refine blk_alloc ?_ _)); exact BK192.out⟩, ⟨by (with_reducible repeat (first | refine blk_drewN ?_ _ | refine blk_drew ?_ | refine blk_alloc ?_ _)); refine blk_far ?_ NB195_197.out _; (with_reducible repeat (first | refine blk_drewN ?_ _ | refine blk_drew ?_ | refine blk_alloc ?_ _)); refine blk_far ?_ NB195_197.out _; (with_reducible repeat (first | refine blk_drewN ?_ _ | refine blk_drew ?_ | refine blk_alloc ?_ _)); refine blk_far ?_ NB195_197.out _; (with_reducible repeat (first | refine blk_drewN ?_ _ | refine blk_drew ?_ | refine blk_alloc ?_ _)); refine blk_far ?_ NB195_197.out _; (with_reducible repeat (first | refine blk_drewN ?_ _ | refine blk_drew ?_ | refine blk_alloc ?_ _)); exact BK195.out⟩, ⟨by (with_reducible repeat (first | refine blk_drewN ?_ _ | refine blk_drew ?_ | refine blk_alloc ?_ _)); refine blk_put (cs := #[.int .i64 ((rd_T127 l1 x22_2).f0), .int .i64 ((rd_T127 l1 x22_2).f1), .int .i64 ((rd_T127 l1 x22_2).f2.f0), .string (⟨#[]⟩ : ByteArray)]) ?_ 3 _ rfl; (with_reducible repeat (first | refine blk_drewN ?_ _ | refine blk_drew ?_ | refine blk_alloc ?_ _)); refine blk_put (cs := #[.int .i64 ((rd_T127 l1 x22_2).f0), .int .i64 ((rd_T127 l1 x22_2).f1), .int .i64 0, .string (⟨#[]⟩ : ByteArray)]) ?_ 2 _ rfl; (with_reducible repeat (first | refine blk_drewN ?_ _ | refine blk_drew ?_ | refine blk_alloc ?_ _)); refine blk_put (cs := #[.int .i64 ((rd_T127 l1 x22_2).f0), .int .i64 0, .int .i64 0, .string (⟨#[]⟩ : ByteArray)]) ?_ 1 _ rfl; (with_reducible repeat (first | refine blk_drewN ?_ _ | refine blk_drew ?_ | refine blk_alloc ?_ _)); refine blk_put (cs := #[.int .i64 0, .int .i64 0, .int .i64 0, .string (⟨#[]⟩ : ByteArray)]) ?_ 0 _ rfl; (with_reducible repeat (first | refine blk_drewN ?_ _ | refine blk_drew ?_ | refine blk_alloc ?_ _)); exact BK197.out⟩, ⟨by repeat (first | (with_reducible first | exact HB.out | apply below_alloc | apply pw_below_drewN | apply below_drew1 | refine below_set ?_ GE191.out | refine below_set ?_ GE192.out | refine below_set ?_ GE195.out | refine below_set ?_ GE197.out) | exact HB.out)⟩⟩
                    case rest =>
                      clear HC28
                      try clear c1
                      try clear p1
                      try clear q1
                      try clear hx1
                      try clear c2
                      try clear p2
                      try clear c3
                      try clear c4
                      try clear c5
                      try clear c6
                      try clear c7
                      try clear c9
                      try clear c12
                      try clear c14
                      try clear c17
                      try clear c18
                      try clear p19
                      try clear q19
                      try clear hx19
                      try clear c21
                      try clear c22
                      try clear c24
                      try clear c24b0
                      try clear c25
                      try clear c25b0
                      try clear c26
                      try clear c26b0
                      try clear c27
                      try clear c27b0
                      try clear c27b1
                      try clear c30
                      try clear c31
                      try clear c32
                      try clear c34
                      try clear c35
                      try clear c37
                      try clear c39
                      try clear c40
                      try clear c41
                      try clear c43
                      try clear c44
                      try clear c46
                      try clear c49
                      try clear c50
                      try clear c51
                      try clear hcz10_0
                      try clear hcz10_1
                      try clear hcz10_2
                      try clear hcz12_0
                      try clear hcz12_1
                      try clear hcz12_2
                      try clear hcz15_0
                      try clear hcz15_1
                      try clear hcz15_2
                      try clear hcz19_0
                      try clear hcz19_1
                      try clear hcz19_2
                      try clear hcz19_3
                      try clear hcz19_4
                      try clear hcz19_5
                      try clear hcz23_0
                      try clear hcz23_1
                      try clear hcz23_2
                      try clear hcz23_3
                      try clear hcz23_4
                      try clear hcz23_5
                      try clear hcz33_0
                      try clear hcz33_1
                      try clear hcz33_2
                      try clear hcz33_3
                      try clear hcz36_0
                      try clear hcz36_1
                      try clear hcz36_2
                      try clear hcz42_0
                      try clear hcz42_1
                      try clear hcz42_2
                      try clear hcz42_3
                      try clear hcz42_4
                      try clear hcz42_5
                      try clear hcz45_0
                      try clear hcz45_1
                      try clear hcz45_2
                      try clear hcz47_0
                      try clear hcz47_1
                      try clear hcz47_2
                      try clear hcz47_3
                      try clear hcz52_0
                      try clear hcz52_1
                      try clear hcz52_2
                      try clear hcz52_3
                      try clear hcz52_4
                      try clear hcz52_5
                      try clear hfz10_0
                      try clear hfz10_1
                      try clear hfz10_2
                      try clear hfz12_0
                      try clear hfz12_1
                      try clear hfz12_2
                      try clear hfz15_0
                      try clear hfz15_1
                      try clear hfz15_2
                      try clear hfz19_0
                      try clear hfz19_1
                      try clear hfz19_2
                      try clear hfz19_3
                      try clear hfz19_4
                      try clear hfz19_5
                      try clear hfz23_0
                      try clear hfz23_1
                      try clear hfz23_2
                      try clear hfz23_3
                      try clear hfz23_4
                      try clear hfz23_5
                      try clear hfz33_0
                      try clear hfz33_1
                      try clear hfz33_2
                      try clear hfz33_3
                      try clear hfz36_0
                      try clear hfz36_1
                      try clear hfz36_2
                      try clear hfz42_0
                      try clear hfz42_1
                      try clear hfz42_2
                      try clear hfz42_3
                      try clear hfz42_4
                      try clear hfz42_5
                      try clear hfz45_0
                      try clear hfz45_1
                      try clear hfz45_2
                      try clear hfz47_0
                      try clear hfz47_1
                      try clear hfz47_2
                      try clear hfz47_3
                      try clear hfz52_0
                      try clear hfz52_1
                      try clear hfz52_2
                      try clear hfz52_3
                      try clear hfz52_4
                      try clear hfz52_5
                      try clear hx196_0
                      try clear hx196_1
                      try clear hx196_2
                      try clear hx196_3
                      try clear p196
                      try clear p2
                      try clear q196
                      obtain ⟨kq, x46_27, rfl, HA, HJ27, BK191, BK192, BK195, BK197, HB⟩ := hcut
                      cases kq with
                      | zero => exact absurd HA.out (by simp [impl_StatsOf.j2])
                      | succ kj27 =>
                        have H := HA.out
                        clear HA
                        simp only [impl_StatsOf.j2] at H
                        by_cases c53 : x46_27 = true
                        · subst c53
                          have H1 : (if x196001_2 = true then ((impl_ValLess.f kj27 a0_0 x196004_2 x196005_2 ((rd_T127 l1 x22_2).f2.f0) ((rd_T127 l1 x22_2).f2.f1)).bind fun t199 => (if t199 = true then (impl_StatsOf.l0 kj27 l1 (l1.length : Int) (wrap64 (x22_2 + 1)) a0_0 a0_1 a0_2 x196000_2 true ((rd_T127 l1 x22_2).f2.f0) ((rd_T127 l1 x22_2).f2.f1) ((rd_T127 l1 x22_2).f2.f0) ((rd_T127 l1 x22_2).f2.f1)) else (impl_StatsOf.l0 kj27 l1 (l1.length : Int) (wrap64 (x22_2 + 1)) a0_0 a0_1 a0_2 x196000_2 true ((rd_T127 l1 x22_2).f2.f0) ((rd_T127 l1 x22_2).f2.f1) x196004_2 x196005_2))) else (impl_StatsOf.l0 kj27 l1 (l1.length : Int) (wrap64 (x22_2 + 1)) a0_0 a0_1 a0_2 x196000_2 true ((rd_T127 l1 x22_2).f2.f0) ((rd_T127 l1 x22_2).f2.f1) ((rd_T127 l1 x22_2).f2.f0) ((rd_T127 l1 x22_2).f2.f1))) = some (r1, r2, r3, r4, r5, r6, r7) := by rw [if_pos rfl] at H; exact H
                          clear H
                          have H := H1
                          clear H1
                          by_cases c54 : x196001_2 = true
                          · subst c54
                            have H1 : ((impl_ValLess.f kj27 a0_0 x196004_2 x196005_2 ((rd_T127 l1 x22_2).f2.f0) ((rd_T127 l1 x22_2).f2.f1)).bind fun t199 => (if t199 = true then (impl_StatsOf.l0 kj27 l1 (l1.length : Int) (wrap64 (x22_2 + 1)) a0_0 a0_1 a0_2 x196000_2 true ((rd_T127 l1 x22_2).f2.f0) ((rd_T127 l1 x22_2).f2.f1) ((rd_T127 l1 x22_2).f2.f0) ((rd_T127 l1 x22_2).f2.f1)) else (impl_StatsOf.l0 kj27 l1 (l1.length : Int) (wrap64 (x22_2 + 1)) a0_0 a0_1 a0_2 x196000_2 true ((rd_T127 l1 x22_2).f2.f0) ((rd_T127 l1 x22_2).f2.f1) x196004_2 x196005_2))) = some (r1, r2, r3, r4, r5, r6, r7) := by rw [if_pos rfl] at H; exact H
                            clear H
                            have H := H1
                            clear H1
                            replace H := Option.bind_eq_some_iff.mp H
                            obtain ⟨t199, A550, H⟩ := H
                            replace H : (if t199 = true then (impl_StatsOf.l0 kj27 l1 (l1.length : Int) (wrap64 (x22_2 + 1)) a0_0 a0_1 a0_2 x196000_2 true ((rd_T127 l1 x22_2).f2.f0) ((rd_T127 l1 x22_2).f2.f1) ((rd_T127 l1 x22_2).f2.f0) ((rd_T127 l1 x22_2).f2.f1)) else (impl_StatsOf.l0 kj27 l1 (l1.length : Int) (wrap64 (x22_2 + 1)) a0_0 a0_1 a0_2 x196000_2 true ((rd_T127 l1 x22_2).f2.f0) ((rd_T127 l1 x22_2).f2.f1) x196004_2 x196005_2)) = some (r1, r2, r3, r4, r5, r6, r7) := H
                            have A55 := Aside0.mk A550
                            clear A550
                            by_cases c56 : t199 = true
                            · subst c56
                              have H1 : (impl_StatsOf.l0 kj27 l1 (l1.length : Int) (wrap64 (x22_2 + 1)) a0_0 a0_1 a0_2 x196000_2 true ((rd_T127 l1 x22_2).f2.f0) ((rd_T127 l1 x22_2).f2.f1) ((rd_T127 l1 x22_2).f2.f0) ((rd_T127 l1 x22_2).f2.f1)) = some (r1, r2, r3, r4, r5, r6, r7) := by rw [if_pos rfl] at H; exact H
                              clear H
                              have H := H1
                              clear H1
                              have H' := Aside0.mk H
                              clear H
                              have hnb57 := NB197_191.out
                              have hnc57 := NB191_197.out
                              have hnb58 := NB197_192.out
                              have hnc58 := NB192_197.out
                              have hnb59 := NB197_195.out
                              have hnc59 := NB195_197.out
                              have hcz60_0 : wc.cell? ⟨gb197, 0, none⟩ = some (.int .i64 ((rd_T127 l1 x22_2).f0)) := (blk_cell BK197.out 0).trans rfl
                              have hcz60_1 : wc.cell? ⟨gb197, 1, none⟩ = some (.int .i64 ((rd_T127 l1 x22_2).f1)) := (blk_cell BK197.out 1).trans rfl
                              have hcz60_2 : wc.cell? ⟨gb197, 2, none⟩ = some (.int .i64 ((rd_T127 l1 x22_2).f2.f0)) := (blk_cell BK197.out 2).trans rfl
                              have hcz60_3 : wc.cell? ⟨gb197, 3, none⟩ = some (.string ((rd_T127 l1 x22_2).f2.f1)) := (blk_cell BK197.out 3).trans rfl
                              have hfz60_0 := blk_frozen BK197.out 0
                              have hfz60_1 := blk_frozen BK197.out 1
                              have hfz60_2 := blk_frozen BK197.out 2
                              have hfz60_3 := blk_frozen BK197.out 3
                              have hnb61 := NB195_191.out
                              have hnc61 := NB191_195.out
                              have hnb62 := NB195_192.out
                              have hnc62 := NB192_195.out
                              have hcz63_0 : wc.cell? ⟨gb195, 0, none⟩ = some (.int .i64 x196000_2) := (blk_cell BK195.out 0).trans rfl
                              have hcz63_1 : wc.cell? ⟨gb195, 1, none⟩ = some (.bool true) := (blk_cell BK195.out 1).trans rfl
                              have hcz63_2 : wc.cell? ⟨gb195, 2, none⟩ = some (.int .i64 x196002_2) := (blk_cell BK195.out 2).trans rfl
                              have hcz63_3 : wc.cell? ⟨gb195, 3, none⟩ = some (.string x196003_2) := (blk_cell BK195.out 3).trans rfl
                              have hcz63_4 : wc.cell? ⟨gb195, 4, none⟩ = some (.int .i64 x196004_2) := (blk_cell BK195.out 4).trans rfl
                              have hcz63_5 : wc.cell? ⟨gb195, 5, none⟩ = some (.string x196005_2) := (blk_cell BK195.out 5).trans rfl
                              have hfz63_0 := blk_frozen BK195.out 0
                              have hfz63_1 := blk_frozen BK195.out 1
                              have hfz63_2 := blk_frozen BK195.out 2
                              have hfz63_3 := blk_frozen BK195.out 3
                              have hfz63_4 := blk_frozen BK195.out 4
                              have hfz63_5 := blk_frozen BK195.out 5
                              have hnb64 := NB191_192.out
                              have hnc64 := NB192_191.out
                              have hcz65_0 : wc.cell? ⟨gb191, 0, none⟩ = some (.int .i64 a0_0) := (blk_cell BK191.out 0).trans rfl
                              have hcz65_1 : wc.cell? ⟨gb191, 1, none⟩ = some (.int .i64 a0_1) := (blk_cell BK191.out 1).trans rfl
                              have hcz65_2 : wc.cell? ⟨gb191, 2, none⟩ = some (.int .i64 a0_2) := (blk_cell BK191.out 2).trans rfl
                              have hfz65_0 := blk_frozen BK191.out 0
                              have hfz65_1 := blk_frozen BK191.out 1
                              have hfz65_2 := blk_frozen BK191.out 2
                              go_wp2_with (first | (go_at_call 131; (with_reducible refine (impl_ValLess.calls kj27 a0_0 x196004_2 x196005_2 ((rd_T127 l1 x22_2).f2.f0) ((rd_T127 l1 x22_2).f2.f1) true _ A55.out).mono ?_); rintro e w66 ⟨rfl, hb⟩; have n0_ := Aside0.mk (blk_below (g := gb191) (o := .cells #[.int .i64 a0_0, .int .i64 a0_1, .int .i64 a0_2] 88 (0, 0)) (by (with_reducible repeat (first | refine blk_drewN ?_ _ | refine blk_drew ?_ | refine blk_alloc ?_ _)); refine blk_far ?_ NB191_195.out _; (with_reducible repeat (first | refine blk_drewN ?_ _ | refine blk_drew ?_ | refine blk_alloc ?_ _)); refine blk_far ?_ NB191_195.out _; (with_reducible repeat (first | refine blk_drewN ?_ _ | refine blk_drew ?_ | refine blk_alloc ?_ _)); exact BK191.out) hb); have n1_ := Aside0.mk (blk_below (g := gb192) (o := .cells #[.int .i64 0, .bool false, .int .i64 0, .string (⟨#[]⟩ : ByteArray), .int .i64 0, .string (⟨#[]⟩ : ByteArray)] 85 (0, 0)) (by (with_reducible repeat (first | refine blk_drewN ?_ _ | refine blk_drew ?_ | refine blk_alloc ?_ _)); refine blk_far ?_ NB192_195.out _; (with_reducible repeat (first | refine blk_drewN ?_ _ | refine blk_drew ?_ | refine blk_alloc ?_ _)); refine blk_far ?_ NB192_195.out _; (with_reducible repeat (first | refine blk_drewN ?_ _ | refine blk_drew ?_ | refine blk_alloc ?_ _)); exact BK192.out) hb); have n2_ := Aside0.mk (blk_below (g := gb195) (o := .cells #[.int .i64 x196000_2, .bool true, .int .i64 ((rd_T127 l1 x22_2).f2.f0), .string ((rd_T127 l1 x22_2).f2.f1), .int .i64 x196004_2, .string x196005_2] 85 (0, 0)) (by (with_reducible repeat (first | refine blk_drewN ?_ _ | refine blk_drew ?_ | refine blk_alloc ?_ _)); refine blk_put (cs := #[.int .i64 x196000_2, .bool true, .int .i64 ((rd_T127 l1 x22_2).f2.f0), .string x196003_2, .int .i64 x196004_2, .string x196005_2]) ?_ 3 _ rfl; (with_reducible repeat (first | refine blk_drewN ?_ _ | refine blk_drew ?_ | refine blk_alloc ?_ _)); refine blk_put (cs := #[.int .i64 x196000_2, .bool true, .int .i64 x196002_2, .string x196003_2, .int .i64 x196004_2, .string x196005_2]) ?_ 2 _ rfl; (with_reducible repeat (first | refine blk_drewN ?_ _ | refine blk_drew ?_ | refine blk_alloc ?_ _)); exact BK195.out) hb); have n3_ := Aside0.mk (blk_below (g := gb197) (o := .cells #[.int .i64 ((rd_T127 l1 x22_2).f0), .int .i64 ((rd_T127 l1 x22_2).f1), .int .i64 ((rd_T127 l1 x22_2).f2.f0), .string ((rd_T127 l1 x22_2).f2.f1)] 127 (0, 0)) (by (with_reducible repeat (first | refine blk_drewN ?_ _ | refine blk_drew ?_ | refine blk_alloc ?_ _)); refine blk_far ?_ NB197_195.out _; (with_reducible repeat (first | refine blk_drewN ?_ _ | refine blk_drew ?_ | refine blk_alloc ?_ _)); refine blk_far ?_ NB197_195.out _; (with_reducible repeat (first | refine blk_drewN ?_ _ | refine blk_drew ?_ | refine blk_alloc ?_ _)); exact BK197.out) hb); have n4_ := Aside0.mk (below_step (by repeat (first | (with_reducible first | exact HB.out | apply below_alloc | apply pw_below_drewN | apply below_drew1 | refine below_set ?_ GE191.out | refine below_set ?_ GE192.out | refine below_set ?_ GE195.out | refine below_set ?_ GE197.out) | exact HB.out)) hb); clear BK191; clear BK192; clear BK195; clear BK197; clear HB; have BK191 := n0_; have BK192 := n1_; have BK195 := n2_; have BK197 := n3_; have HB := n4_; clear n0_ n1_ n2_ n3_ n4_; (try clear hb); (try clear hb2); (try clear hk); (try clear hi); have hcz67_0 : w66.cell? ⟨gb197, 0, none⟩ = some (.int .i64 ((rd_T127 l1 x22_2).f0)) := (blk_cell BK197.out 0).trans rfl; have hcz67_1 : w66.cell? ⟨gb197, 1, none⟩ = some (.int .i64 ((rd_T127 l1 x22_2).f1)) := (blk_cell BK197.out 1).trans rfl; have hcz67_2 : w66.cell? ⟨gb197, 2, none⟩ = some (.int .i64 ((rd_T127 l1 x22_2).f2.f0)) := (blk_cell BK197.out 2).trans rfl; have hcz67_3 : w66.cell? ⟨gb197, 3, none⟩ = some (.string ((rd_T127 l1 x22_2).f2.f1)) := (blk_cell BK197.out 3).trans rfl; have hfz67_0 := blk_frozen BK197.out 0; have hfz67_1 := blk_frozen BK197.out 1; have hfz67_2 := blk_frozen BK197.out 2; have hfz67_3 := blk_frozen BK197.out 3; have hcz68_0 : w66.cell? ⟨gb195, 0, none⟩ = some (.int .i64 x196000_2) := (blk_cell BK195.out 0).trans rfl; have hcz68_1 : w66.cell? ⟨gb195, 1, none⟩ = some (.bool true) := (blk_cell BK195.out 1).trans rfl; have hcz68_2 : w66.cell? ⟨gb195, 2, none⟩ = some (.int .i64 ((rd_T127 l1 x22_2).f2.f0)) := (blk_cell BK195.out 2).trans rfl; have hcz68_3 : w66.cell? ⟨gb195, 3, none⟩ = some (.string ((rd_T127 l1 x22_2).f2.f1)) := (blk_cell BK195.out 3).trans rfl; have hcz68_4 : w66.cell? ⟨gb195, 4, none⟩ = some (.int .i64 x196004_2) := (blk_cell BK195.out 4).trans rfl; have hcz68_5 : w66.cell? ⟨gb195, 5, none⟩ = some (.string x196005_2) := (blk_cell BK195.out 5).trans rfl; have hfz68_0 := blk_frozen BK195.out 0; have hfz68_1 := blk_frozen BK195.out 1; have hfz68_2 := blk_frozen BK195.out 2; have hfz68_3 := blk_frozen BK195.out 3; have hfz68_4 := blk_frozen BK195.out 4; have hfz68_5 := blk_frozen BK195.out 5))
                              go_roundg kj27
                              case measure => have := HJ2.out; have := HK2.out; have := HJ27.out; omega
                              case rel => exact ⟨(wrap64 (x22_2 + 1)), (x196000_2), (true), (((rd_T127 l1 x22_2).f2.f0)), (((rd_T127 l1 x22_2).f2.f1)), (((rd_T127 l1 x22_2).f2.f0)), (((rd_T127 l1 x22_2).f2.f1)), (by first | rfl | (simp; done) | (simp [*]; done)), H', ⟨by have := HJ2.out; have := HK2.out; have := HJ27.out; omega⟩, ⟨by (with_reducible repeat (first | refine blk_drewN ?_ _ | refine blk_drew ?_ | refine blk_alloc ?_ _)); refine blk_far ?_ NB191_195.out _; (with_reducible repeat (first | refine blk_drewN ?_ _ | refine blk_drew ?_ | refine blk_alloc ?_ _)); refine blk_far ?_ NB191_195.out _; (with_reducible repeat (first | refine blk_drewN ?_ _ | refine blk_drew ?_ | refine blk_alloc ?_ _)); refine blk_far ?_ NB191_195.out _; (with_reducible repeat (first | refine blk_drewN ?_ _ | refine blk_drew ?_ | refine blk_alloc ?_ _)); exact BK191.out⟩, ⟨by (with_reducible repeat (first | refine blk_drewN ?_ _ | refine blk_drew ?_ | refine blk_alloc ?_ _)); refine blk_far ?_ NB192_195.out _; (with_reducible repeat (first | refine blk_drewN ?_ _ | refine blk_drew ?_ | refine blk_alloc ?_ _)); refine blk_far ?_ NB192_195.out _; (with_reducible repeat (first | refine blk_drewN ?_ _ | refine blk_drew ?_ | refine blk_alloc ?_ _)); refine blk_far ?_ NB192_195.out _; (with_reducible repeat (first | refine blk_drewN ?_ _ | refine blk_drew ?_ | refine blk_alloc ?_ _)); exact BK192.out⟩, ⟨by (with_reducible repeat (first | refine blk_drewN ?_ _ | refine blk_drew ?_ | refine blk_alloc ?_ _)); refine blk_put (cs := #[.int .i64 x196000_2, .bool true, .int .i64 ((rd_T127 l1 x22_2).f2.f0), .string ((rd_T127 l1 x22_2).f2.f1), .int .i64 ((rd_T127 l1 x22_2).f2.f0), .string ((rd_T127 l1 x22_2).f2.f1)]) ?_ 1 _ rfl; (with_reducible repeat (first | refine blk_drewN ?_ _ | refine blk_drew ?_ | refine blk_alloc ?_ _)); refine blk_put (cs := #[.int .i64 x196000_2, .bool true, .int .i64 ((rd_T127 l1 x22_2).f2.f0), .string ((rd_T127 l1 x22_2).f2.f1), .int .i64 ((rd_T127 l1 x22_2).f2.f0), .string x196005_2]) ?_ 5 _ rfl; (with_reducible repeat (first | refine blk_drewN ?_ _ | refine blk_drew ?_ | refine blk_alloc ?_ _)); refine blk_put (cs := #[.int .i64 x196000_2, .bool true, .int .i64 ((rd_T127 l1 x22_2).f2.f0), .string ((rd_T127 l1 x22_2).f2.f1), .int .i64 x196004_2, .string x196005_2]) ?_ 4 _ rfl; (with_reducible repeat (first | refine blk_drewN ?_ _ | refine blk_drew ?_ | refine blk_alloc ?_ _)); exact BK195.out⟩, ⟨by repeat (first | (with_reducible first | exact HB.out | apply below_alloc | apply pw_below_drewN | apply below_drew1 | refine below_set ?_ GE191.out | refine below_set ?_ GE192.out | refine below_set ?_ GE195.out | refine below_set ?_ GE197.out) | exact HB.out)⟩⟩
                            · replace c56 := Bool.eq_false_iff.mpr c56
                              subst c56
                              have H1 : (impl_StatsOf.l0 kj27 l1 (l1.length : Int) (wrap64 (x22_2 + 1)) a0_0 a0_1 a0_2 x196000_2 true ((rd_T127 l1 x22_2).f2.f0) ((rd_T127 l1 x22_2).f2.f1) x196004_2 x196005_2) = some (r1, r2, r3, r4, r5, r6, r7) := by rw [if_neg (show ¬ (false = true) by decide)] at H; exact H
                              clear H
                              have H := H1
                              clear H1
                              have H' := Aside0.mk H
                              clear H
                              have hnb69 := NB197_191.out
                              have hnc69 := NB191_197.out
                              have hnb70 := NB197_192.out
                              have hnc70 := NB192_197.out
                              have hnb71 := NB197_195.out
                              have hnc71 := NB195_197.out
                              have hcz72_0 : wc.cell? ⟨gb197, 0, none⟩ = some (.int .i64 ((rd_T127 l1 x22_2).f0)) := (blk_cell BK197.out 0).trans rfl
                              have hcz72_1 : wc.cell? ⟨gb197, 1, none⟩ = some (.int .i64 ((rd_T127 l1 x22_2).f1)) := (blk_cell BK197.out 1).trans rfl
                              have hcz72_2 : wc.cell? ⟨gb197, 2, none⟩ = some (.int .i64 ((rd_T127 l1 x22_2).f2.f0)) := (blk_cell BK197.out 2).trans rfl
                              have hcz72_3 : wc.cell? ⟨gb197, 3, none⟩ = some (.string ((rd_T127 l1 x22_2).f2.f1)) := (blk_cell BK197.out 3).trans rfl
                              have hfz72_0 := blk_frozen BK197.out 0
                              have hfz72_1 := blk_frozen BK197.out 1
                              have hfz72_2 := blk_frozen BK197.out 2
                              have hfz72_3 := blk_frozen BK197.out 3
                              have hnb73 := NB195_191.out
                              have hnc73 := NB191_195.out
                              have hnb74 := NB195_192.out
                              have hnc74 := NB192_195.out
                              have hcz75_0 : wc.cell? ⟨gb195, 0, none⟩ = some (.int .i64 x196000_2) := (blk_cell BK195.out 0).trans rfl
                              have hcz75_1 : wc.cell? ⟨gb195, 1, none⟩ = some (.bool true) := (blk_cell BK195.out 1).trans rfl
                              have hcz75_2 : wc.cell? ⟨gb195, 2, none⟩ = some (.int .i64 x196002_2) := (blk_cell BK195.out 2).trans rfl
                              have hcz75_3 : wc.cell? ⟨gb195, 3, none⟩ = some (.string x196003_2) := (blk_cell BK195.out 3).trans rfl
                              have hcz75_4 : wc.cell? ⟨gb195, 4, none⟩ = some (.int .i64 x196004_2) := (blk_cell BK195.out 4).trans rfl
                              have hcz75_5 : wc.cell? ⟨gb195, 5, none⟩ = some (.string x196005_2) := (blk_cell BK195.out 5).trans rfl
                              have hfz75_0 := blk_frozen BK195.out 0
                              have hfz75_1 := blk_frozen BK195.out 1
                              have hfz75_2 := blk_frozen BK195.out 2
                              have hfz75_3 := blk_frozen BK195.out 3
                              have hfz75_4 := blk_frozen BK195.out 4
                              have hfz75_5 := blk_frozen BK195.out 5
                              have hnb76 := NB191_192.out
                              have hnc76 := NB192_191.out
                              have hcz77_0 : wc.cell? ⟨gb191, 0, none⟩ = some (.int .i64 a0_0) := (blk_cell BK191.out 0).trans rfl
                              have hcz77_1 : wc.cell? ⟨gb191, 1, none⟩ = some (.int .i64 a0_1) := (blk_cell BK191.out 1).trans rfl
                              have hcz77_2 : wc.cell? ⟨gb191, 2, none⟩ = some (.int .i64 a0_2) := (blk_cell BK191.out 2).trans rfl
                              have hfz77_0 := blk_frozen BK191.out 0
                              have hfz77_1 := blk_frozen BK191.out 1
                              have hfz77_2 := blk_frozen BK191.out 2
                              go_wp2_with (first | (go_at_call 131; (with_reducible refine (impl_ValLess.calls kj27 a0_0 x196004_2 x196005_2 ((rd_T127 l1 x22_2).f2.f0) ((rd_T127 l1 x22_2).f2.f1) false _ A55.out).mono ?_); rintro e w78 ⟨rfl, hb⟩; have n0_ := Aside0.mk (blk_below (g := gb191) (o := .cells #[.int .i64 a0_0, .int .i64 a0_1, .int .i64 a0_2] 88 (0, 0)) (by (with_reducible repeat (first | refine blk_drewN ?_ _ | refine blk_drew ?_ | refine blk_alloc ?_ _)); refine blk_far ?_ NB191_195.out _; (with_reducible repeat (first | refine blk_drewN ?_ _ | refine blk_drew ?_ | refine blk_alloc ?_ _)); refine blk_far ?_ NB191_195.out _; (with_reducible repeat (first | refine blk_drewN ?_ _ | refine blk_drew ?_ | refine blk_alloc ?_ _)); exact BK191.out) hb); have n1_ := Aside0.mk (blk_below (g := gb192) (o := .cells #[.int .i64 0, .bool false, .int .i64 0, .string (⟨#[]⟩ : ByteArray), .int .i64 0, .string (⟨#[]⟩ : ByteArray)] 85 (0, 0)) (by (with_reducible repeat (first | refine blk_drewN ?_ _ | refine blk_drew ?_ | refine blk_alloc ?_ _)); refine blk_far ?_ NB192_195.out _; (with_reducible repeat (first | refine blk_drewN ?_ _ | refine blk_drew ?_ | refine blk_alloc ?_ _)); refine blk_far ?_ NB192_195.out _; (with_reducible repeat (first | refine blk_drewN ?_ _ | refine blk_drew ?_ | refine blk_alloc ?_ _)); exact BK192.out) hb); have n2_ := Aside0.mk (blk_below (g := gb195) (o := .cells #[.int .i64 x196000_2, .bool true, .int .i64 ((rd_T127 l1 x22_2).f2.f0), .string ((rd_T127 l1 x22_2).f2.f1), .int .i64 x196004_2, .string x196005_2] 85 (0, 0)) (by (with_reducible repeat (first | refine blk_drewN ?_ _ | refine blk_drew ?_ | refine blk_alloc ?_ _)); refine blk_put (cs := #[.int .i64 x196000_2, .bool true, .int .i64 ((rd_T127 l1 x22_2).f2.f0), .string x196003_2, .int .i64 x196004_2, .string x196005_2]) ?_ 3 _ rfl; (with_reducible repeat (first | refine blk_drewN ?_ _ | refine blk_drew ?_ | refine blk_alloc ?_ _)); refine blk_put (cs := #[.int .i64 x196000_2, .bool true, .int .i64 x196002_2, .string x196003_2, .int .i64 x196004_2, .string x196005_2]) ?_ 2 _ rfl; (with_reducible repeat (first | refine blk_drewN ?_ _ | refine blk_drew ?_ | refine blk_alloc ?_ _)); exact BK195.out) hb); have n3_ := Aside0.mk (blk_below (g := gb197) (o := .cells #[.int .i64 ((rd_T127 l1 x22_2).f0), .int .i64 ((rd_T127 l1 x22_2).f1), .int .i64 ((rd_T127 l1 x22_2).f2.f0), .string ((rd_T127 l1 x22_2).f2.f1)] 127 (0, 0)) (by (with_reducible repeat (first | refine blk_drewN ?_ _ | refine blk_drew ?_ | refine blk_alloc ?_ _)); refine blk_far ?_ NB197_195.out _; (with_reducible repeat (first | refine blk_drewN ?_ _ | refine blk_drew ?_ | refine blk_alloc ?_ _)); refine blk_far ?_ NB197_195.out _; (with_reducible repeat (first | refine blk_drewN ?_ _ | refine blk_drew ?_ | refine blk_alloc ?_ _)); exact BK197.out) hb); have n4_ := Aside0.mk (below_step (by repeat (first | (with_reducible first | exact HB.out | apply below_alloc | apply pw_below_drewN | apply below_drew1 | refine below_set ?_ GE191.out | refine below_set ?_ GE192.out | refine below_set ?_ GE195.out | refine below_set ?_ GE197.out) | exact HB.out)) hb); clear BK191; clear BK192; clear BK195; clear BK197; clear HB; have BK191 := n0_; have BK192 := n1_; have BK195 := n2_; have BK197 := n3_; have HB := n4_; clear n0_ n1_ n2_ n3_ n4_; (try clear hb); (try clear hb2); (try clear hk); (try clear hi); have hcz79_0 : w78.cell? ⟨gb195, 0, none⟩ = some (.int .i64 x196000_2) := (blk_cell BK195.out 0).trans rfl; have hcz79_1 : w78.cell? ⟨gb195, 1, none⟩ = some (.bool true) := (blk_cell BK195.out 1).trans rfl; have hcz79_2 : w78.cell? ⟨gb195, 2, none⟩ = some (.int .i64 ((rd_T127 l1 x22_2).f2.f0)) := (blk_cell BK195.out 2).trans rfl; have hcz79_3 : w78.cell? ⟨gb195, 3, none⟩ = some (.string ((rd_T127 l1 x22_2).f2.f1)) := (blk_cell BK195.out 3).trans rfl; have hcz79_4 : w78.cell? ⟨gb195, 4, none⟩ = some (.int .i64 x196004_2) := (blk_cell BK195.out 4).trans rfl; have hcz79_5 : w78.cell? ⟨gb195, 5, none⟩ = some (.string x196005_2) := (blk_cell BK195.out 5).trans rfl; have hfz79_0 := blk_frozen BK195.out 0; have hfz79_1 := blk_frozen BK195.out 1; have hfz79_2 := blk_frozen BK195.out 2; have hfz79_3 := blk_frozen BK195.out 3; have hfz79_4 := blk_frozen BK195.out 4; have hfz79_5 := blk_frozen BK195.out 5))
                              go_roundg kj27
                              case measure => have := HJ2.out; have := HK2.out; have := HJ27.out; omega
                              case rel => exact ⟨(wrap64 (x22_2 + 1)), (x196000_2), (true), (((rd_T127 l1 x22_2).f2.f0)), (((rd_T127 l1 x22_2).f2.f1)), (x196004_2), (x196005_2), (by first | rfl | (simp; done) | (simp [*]; done)), H', ⟨by have := HJ2.out; have := HK2.out; have := HJ27.out; omega⟩, ⟨by (with_reducible repeat (first | refine blk_drewN ?_ _ | refine blk_drew ?_ | refine blk_alloc ?_ _)); refine blk_far ?_ NB191_195.out _; (with_reducible repeat (first | refine blk_drewN ?_ _ | refine blk_drew ?_ | refine blk_alloc ?_ _)); exact BK191.out⟩, ⟨by (with_reducible repeat (first | refine blk_drewN ?_ _ | refine blk_drew ?_ | refine blk_alloc ?_ _)); refine blk_far ?_ NB192_195.out _; (with_reducible repeat (first | refine blk_drewN ?_ _ | refine blk_drew ?_ | refine blk_alloc ?_ _)); exact BK192.out⟩, ⟨by (with_reducible repeat (first | refine blk_drewN ?_ _ | refine blk_drew ?_ | refine blk_alloc ?_ _)); refine blk_put (cs := #[.int .i64 x196000_2, .bool true, .int .i64 ((rd_T127 l1 x22_2).f2.f0), .string ((rd_T127 l1 x22_2).f2.f1), .int .i64 x196004_2, .string x196005_2]) ?_ 1 _ rfl; (with_reducible repeat (first | refine blk_drewN ?_ _ | refine blk_drew ?_ | refine blk_alloc ?_ _)); exact BK195.out⟩, ⟨by repeat (first | (with_reducible first | exact HB.out | apply below_alloc | apply pw_below_drewN | apply below_drew1 | refine below_set ?_ GE191.out | refine below_set ?_ GE192.out | refine below_set ?_ GE195.out | refine below_set ?_ GE197.out) | exact HB.out)⟩⟩
                          · replace c54 := Bool.eq_false_iff.mpr c54
                            subst c54
                            have H1 : (impl_StatsOf.l0 kj27 l1 (l1.length : Int) (wrap64 (x22_2 + 1)) a0_0 a0_1 a0_2 x196000_2 true ((rd_T127 l1 x22_2).f2.f0) ((rd_T127 l1 x22_2).f2.f1) ((rd_T127 l1 x22_2).f2.f0) ((rd_T127 l1 x22_2).f2.f1)) = some (r1, r2, r3, r4, r5, r6, r7) := by rw [if_neg (show ¬ (false = true) by decide)] at H; exact H
                            clear H
                            have H := H1
                            clear H1
                            have H' := Aside0.mk H
                            clear H
                            have hnb80 := NB197_191.out
                            have hnc80 := NB191_197.out
                            have hnb81 := NB197_192.out
                            have hnc81 := NB192_197.out
                            have hnb82 := NB197_195.out
                            have hnc82 := NB195_197.out
                            have hcz83_0 : wc.cell? ⟨gb197, 0, none⟩ = some (.int .i64 ((rd_T127 l1 x22_2).f0)) := (blk_cell BK197.out 0).trans rfl
                            have hcz83_1 : wc.cell? ⟨gb197, 1, none⟩ = some (.int .i64 ((rd_T127 l1 x22_2).f1)) := (blk_cell BK197.out 1).trans rfl
                            have hcz83_2 : wc.cell? ⟨gb197, 2, none⟩ = some (.int .i64 ((rd_T127 l1 x22_2).f2.f0)) := (blk_cell BK197.out 2).trans rfl
                            have hcz83_3 : wc.cell? ⟨gb197, 3, none⟩ = some (.string ((rd_T127 l1 x22_2).f2.f1)) := (blk_cell BK197.out 3).trans rfl
                            have hfz83_0 := blk_frozen BK197.out 0
                            have hfz83_1 := blk_frozen BK197.out 1
                            have hfz83_2 := blk_frozen BK197.out 2
                            have hfz83_3 := blk_frozen BK197.out 3
                            have hnb84 := NB195_191.out
                            have hnc84 := NB191_195.out
                            have hnb85 := NB195_192.out
                            have hnc85 := NB192_195.out
                            have hcz86_0 : wc.cell? ⟨gb195, 0, none⟩ = some (.int .i64 x196000_2) := (blk_cell BK195.out 0).trans rfl
                            have hcz86_1 : wc.cell? ⟨gb195, 1, none⟩ = some (.bool false) := (blk_cell BK195.out 1).trans rfl
                            have hcz86_2 : wc.cell? ⟨gb195, 2, none⟩ = some (.int .i64 x196002_2) := (blk_cell BK195.out 2).trans rfl
                            have hcz86_3 : wc.cell? ⟨gb195, 3, none⟩ = some (.string x196003_2) := (blk_cell BK195.out 3).trans rfl
                            have hcz86_4 : wc.cell? ⟨gb195, 4, none⟩ = some (.int .i64 x196004_2) := (blk_cell BK195.out 4).trans rfl
                            have hcz86_5 : wc.cell? ⟨gb195, 5, none⟩ = some (.string x196005_2) := (blk_cell BK195.out 5).trans rfl
                            have hfz86_0 := blk_frozen BK195.out 0
                            have hfz86_1 := blk_frozen BK195.out 1
                            have hfz86_2 := blk_frozen BK195.out 2
                            have hfz86_3 := blk_frozen BK195.out 3
                            have hfz86_4 := blk_frozen BK195.out 4
                            have hfz86_5 := blk_frozen BK195.out 5
                            go_wp2
                            go_roundg kj27
                            case measure => have := HJ2.out; have := HK2.out; have := HJ27.out; omega
                            case rel => exact ⟨(wrap64 (x22_2 + 1)), (x196000_2), (true), (((rd_T127 l1 x22_2).f2.f0)), (((rd_T127 l1 x22_2).f2.f1)), (((rd_T127 l1 x22_2).f2.f0)), (((rd_T127 l1 x22_2).f2.f1)), (by first | rfl | (simp; done) | (simp [*]; done)), H', ⟨by have := HJ2.out; have := HK2.out; have := HJ27.out; omega⟩, ⟨by (with_reducible repeat (first | refine blk_drewN ?_ _ | refine blk_drew ?_ | refine blk_alloc ?_ _)); refine blk_far ?_ NB191_195.out _; (with_reducible repeat (first | refine blk_drewN ?_ _ | refine blk_drew ?_ | refine blk_alloc ?_ _)); refine blk_far ?_ NB191_195.out _; (with_reducible repeat (first | refine blk_drewN ?_ _ | refine blk_drew ?_ | refine blk_alloc ?_ _)); refine blk_far ?_ NB191_195.out _; (with_reducible repeat (first | refine blk_drewN ?_ _ | refine blk_drew ?_ | refine blk_alloc ?_ _)); refine blk_far ?_ NB191_195.out _; (with_reducible repeat (first | refine blk_drewN ?_ _ | refine blk_drew ?_ | refine blk_alloc ?_ _)); refine blk_far ?_ NB191_195.out _; (with_reducible repeat (first | refine blk_drewN ?_ _ | refine blk_drew ?_ | refine blk_alloc ?_ _)); exact BK191.out⟩, ⟨by (with_reducible repeat (first | refine blk_drewN ?_ _ | refine blk_drew ?_ | refine blk_alloc ?_ _)); refine blk_far ?_ NB192_195.out _; (with_reducible repeat (first | refine blk_drewN ?_ _ | refine blk_drew ?_ | refine blk_alloc ?_ _)); refine blk_far ?_ NB192_195.out _; (with_reducible repeat (first | refine blk_drewN ?_ _ | refine blk_drew ?_ | refine blk_alloc ?_ _)); refine blk_far ?_ NB192_195.out _; (with_reducible repeat (first | refine blk_drewN ?_ _ | refine blk_drew ?_ | refine blk_alloc ?_ _)); refine blk_far ?_ NB192_195.out _; (with_reducible repeat (first | refine blk_drewN ?_ _ | refine blk_drew ?_ | refine blk_alloc ?_ _)); refine blk_far ?_ NB192_195.out _; (with_reducible repeat (first | refine blk_drewN ?_ _ | refine blk_drew ?_ | refine blk_alloc ?_ _)); exact BK192.out⟩, ⟨by (with_reducible repeat (first | refine blk_drewN ?_ _ | refine blk_drew ?_ | refine blk_alloc ?_ _)); refine blk_put (cs := #[.int .i64 x196000_2, .bool false, .int .i64 ((rd_T127 l1 x22_2).f2.f0), .string ((rd_T127 l1 x22_2).f2.f1), .int .i64 ((rd_T127 l1 x22_2).f2.f0), .string ((rd_T127 l1 x22_2).f2.f1)]) ?_ 1 _ rfl; (with_reducible repeat (first | refine blk_drewN ?_ _ | refine blk_drew ?_ | refine blk_alloc ?_ _)); refine blk_put (cs := #[.int .i64 x196000_2, .bool false, .int .i64 ((rd_T127 l1 x22_2).f2.f0), .string ((rd_T127 l1 x22_2).f2.f1), .int .i64 ((rd_T127 l1 x22_2).f2.f0), .string x196005_2]) ?_ 5 _ rfl; (with_reducible repeat (first | refine blk_drewN ?_ _ | refine blk_drew ?_ | refine blk_alloc ?_ _)); refine blk_put (cs := #[.int .i64 x196000_2, .bool false, .int .i64 ((rd_T127 l1 x22_2).f2.f0), .string ((rd_T127 l1 x22_2).f2.f1), .int .i64 x196004_2, .string x196005_2]) ?_ 4 _ rfl; (with_reducible repeat (first | refine blk_drewN ?_ _ | refine blk_drew ?_ | refine blk_alloc ?_ _)); refine blk_put (cs := #[.int .i64 x196000_2, .bool false, .int .i64 ((rd_T127 l1 x22_2).f2.f0), .string x196003_2, .int .i64 x196004_2, .string x196005_2]) ?_ 3 _ rfl; (with_reducible repeat (first | refine blk_drewN ?_ _ | refine blk_drew ?_ | refine blk_alloc ?_ _)); refine blk_put (cs := #[.int .i64 x196000_2, .bool false, .int .i64 x196002_2, .string x196003_2, .int .i64 x196004_2, .string x196005_2]) ?_ 2 _ rfl; (with_reducible repeat (first | refine blk_drewN ?_ _ | refine blk_drew ?_ | refine blk_alloc ?_ _)); exact BK195.out⟩, ⟨by repeat (first | (with_reducible first | exact HB.out | apply below_alloc | apply pw_below_drewN | apply below_drew1 | refine below_set ?_ GE191.out | refine below_set ?_ GE192.out | refine below_set ?_ GE195.out | refine below_set ?_ GE197.out) | exact HB.out)⟩⟩
                        · replace c53 := Bool.eq_false_iff.mpr c53
                          subst c53
                          have H1 : (if x196001_2 = true then ((impl_ValLess.f kj27 a0_0 x196004_2 x196005_2 ((rd_T127 l1 x22_2).f2.f0) ((rd_T127 l1 x22_2).f2.f1)).bind fun t200 => (if t200 = true then (impl_StatsOf.l0 kj27 l1 (l1.length : Int) (wrap64 (x22_2 + 1)) a0_0 a0_1 a0_2 x196000_2 true x196002_2 x196003_2 ((rd_T127 l1 x22_2).f2.f0) ((rd_T127 l1 x22_2).f2.f1)) else (impl_StatsOf.l0 kj27 l1 (l1.length : Int) (wrap64 (x22_2 + 1)) a0_0 a0_1 a0_2 x196000_2 true x196002_2 x196003_2 x196004_2 x196005_2))) else (impl_StatsOf.l0 kj27 l1 (l1.length : Int) (wrap64 (x22_2 + 1)) a0_0 a0_1 a0_2 x196000_2 true x196002_2 x196003_2 ((rd_T127 l1 x22_2).f2.f0) ((rd_T127 l1 x22_2).f2.f1))) = some (r1, r2, r3, r4, r5, r6, r7) := by rw [if_neg (show ¬ (false = true) by decide)] at H; exact H
                          clear H
                          have H := H1
                          clear H1
                          by_cases c87 : x196001_2 = true
                          · subst c87
                            have H1 : ((impl_ValLess.f kj27 a0_0 x196004_2 x196005_2 ((rd_T127 l1 x22_2).f2.f0) ((rd_T127 l1 x22_2).f2.f1)).bind fun t200 => (if t200 = true then (impl_StatsOf.l0 kj27 l1 (l1.length : Int) (wrap64 (x22_2 + 1)) a0_0 a0_1 a0_2 x196000_2 true x196002_2 x196003_2 ((rd_T127 l1 x22_2).f2.f0) ((rd_T127 l1 x22_2).f2.f1)) else (impl_StatsOf.l0 kj27 l1 (l1.length : Int) (wrap64 (x22_2 + 1)) a0_0 a0_1 a0_2 x196000_2 true x196002_2 x196003_2 x196004_2 x196005_2))) = some (r1, r2, r3, r4, r5, r6, r7) := by rw [if_pos rfl] at H; exact H
                            clear H
                            have H := H1
                            clear H1
                            replace H := Option.bind_eq_some_iff.mp H
                            obtain ⟨t200, A880, H⟩ := H
                            replace H : (if t200 = true then (impl_StatsOf.l0 kj27 l1 (l1.length : Int) (wrap64 (x22_2 + 1)) a0_0 a0_1 a0_2 x196000_2 true x196002_2 x196003_2 ((rd_T127 l1 x22_2).f2.f0) ((rd_T127 l1 x22_2).f2.f1)) else (impl_StatsOf.l0 kj27 l1 (l1.length : Int) (wrap64 (x22_2 + 1)) a0_0 a0_1 a0_2 x196000_2 true x196002_2 x196003_2 x196004_2 x196005_2)) = some (r1, r2, r3, r4, r5, r6, r7) := H
                            have A88 := Aside0.mk A880
                            clear A880
                            by_cases c89 : t200 = true
                            · subst c89
                              have H1 : (impl_StatsOf.l0 kj27 l1 (l1.length : Int) (wrap64 (x22_2 + 1)) a0_0 a0_1 a0_2 x196000_2 true x196002_2 x196003_2 ((rd_T127 l1 x22_2).f2.f0) ((rd_T127 l1 x22_2).f2.f1)) = some (r1, r2, r3, r4, r5, r6, r7) := by rw [if_pos rfl] at H; exact H
                              clear H
                              have H := H1
                              clear H1
                              have H' := Aside0.mk H
                              clear H
                              have hnb90 := NB195_191.out
                              have hnc90 := NB191_195.out
                              have hnb91 := NB195_192.out
                              have hnc91 := NB192_195.out
                              have hnb92 := NB195_197.out
                              have hnc92 := NB197_195.out
                              have hcz93_0 : wc.cell? ⟨gb195, 0, none⟩ = some (.int .i64 x196000_2) := (blk_cell BK195.out 0).trans rfl
                              have hcz93_1 : wc.cell? ⟨gb195, 1, none⟩ = some (.bool true) := (blk_cell BK195.out 1).trans rfl
                              have hcz93_2 : wc.cell? ⟨gb195, 2, none⟩ = some (.int .i64 x196002_2) := (blk_cell BK195.out 2).trans rfl
                              have hcz93_3 : wc.cell? ⟨gb195, 3, none⟩ = some (.string x196003_2) := (blk_cell BK195.out 3).trans rfl
                              have hcz93_4 : wc.cell? ⟨gb195, 4, none⟩ = some (.int .i64 x196004_2) := (blk_cell BK195.out 4).trans rfl
                              have hcz93_5 : wc.cell? ⟨gb195, 5, none⟩ = some (.string x196005_2) := (blk_cell BK195.out 5).trans rfl
                              have hfz93_0 := blk_frozen BK195.out 0
                              have hfz93_1 := blk_frozen BK195.out 1
                              have hfz93_2 := blk_frozen BK195.out 2
                              have hfz93_3 := blk_frozen BK195.out 3
                              have hfz93_4 := blk_frozen BK195.out 4
                              have hfz93_5 := blk_frozen BK195.out 5
                              have hnb94 := NB191_192.out
                              have hnc94 := NB192_191.out
                              have hnb95 := NB191_197.out
                              have hnc95 := NB197_191.out
                              have hcz96_0 : wc.cell? ⟨gb191, 0, none⟩ = some (.int .i64 a0_0) := (blk_cell BK191.out 0).trans rfl
                              have hcz96_1 : wc.cell? ⟨gb191, 1, none⟩ = some (.int .i64 a0_1) := (blk_cell BK191.out 1).trans rfl
                              have hcz96_2 : wc.cell? ⟨gb191, 2, none⟩ = some (.int .i64 a0_2) := (blk_cell BK191.out 2).trans rfl
                              have hfz96_0 := blk_frozen BK191.out 0
                              have hfz96_1 := blk_frozen BK191.out 1
                              have hfz96_2 := blk_frozen BK191.out 2
                              have hnb97 := NB197_192.out
                              have hnc97 := NB192_197.out
                              have hcz98_0 : wc.cell? ⟨gb197, 0, none⟩ = some (.int .i64 ((rd_T127 l1 x22_2).f0)) := (blk_cell BK197.out 0).trans rfl
                              have hcz98_1 : wc.cell? ⟨gb197, 1, none⟩ = some (.int .i64 ((rd_T127 l1 x22_2).f1)) := (blk_cell BK197.out 1).trans rfl
                              have hcz98_2 : wc.cell? ⟨gb197, 2, none⟩ = some (.int .i64 ((rd_T127 l1 x22_2).f2.f0)) := (blk_cell BK197.out 2).trans rfl
                              have hcz98_3 : wc.cell? ⟨gb197, 3, none⟩ = some (.string ((rd_T127 l1 x22_2).f2.f1)) := (blk_cell BK197.out 3).trans rfl
                              have hfz98_0 := blk_frozen BK197.out 0
                              have hfz98_1 := blk_frozen BK197.out 1
                              have hfz98_2 := blk_frozen BK197.out 2
                              have hfz98_3 := blk_frozen BK197.out 3
                              go_wp2_with (first | (go_at_call 131; (with_reducible refine (impl_ValLess.calls kj27 a0_0 x196004_2 x196005_2 ((rd_T127 l1 x22_2).f2.f0) ((rd_T127 l1 x22_2).f2.f1) true _ A88.out).mono ?_); rintro e w99 ⟨rfl, hb⟩; have n0_ := Aside0.mk (blk_below (g := gb191) (o := .cells #[.int .i64 a0_0, .int .i64 a0_1, .int .i64 a0_2] 88 (0, 0)) (by (with_reducible repeat (first | refine blk_drewN ?_ _ | refine blk_drew ?_ | refine blk_alloc ?_ _)); exact BK191.out) hb); have n1_ := Aside0.mk (blk_below (g := gb192) (o := .cells #[.int .i64 0, .bool false, .int .i64 0, .string (⟨#[]⟩ : ByteArray), .int .i64 0, .string (⟨#[]⟩ : ByteArray)] 85 (0, 0)) (by (with_reducible repeat (first | refine blk_drewN ?_ _ | refine blk_drew ?_ | refine blk_alloc ?_ _)); exact BK192.out) hb); have n2_ := Aside0.mk (blk_below (g := gb195) (o := .cells #[.int .i64 x196000_2, .bool true, .int .i64 x196002_2, .string x196003_2, .int .i64 x196004_2, .string x196005_2] 85 (0, 0)) (by (with_reducible repeat (first | refine blk_drewN ?_ _ | refine blk_drew ?_ | refine blk_alloc ?_ _)); exact BK195.out) hb); have n3_ := Aside0.mk (blk_below (g := gb197) (o := .cells #[.int .i64 ((rd_T127 l1 x22_2).f0), .int .i64 ((rd_T127 l1 x22_2).f1), .int .i64 ((rd_T127 l1 x22_2).f2.f0), .string ((rd_T127 l1 x22_2).f2.f1)] 127 (0, 0)) (by (with_reducible repeat (first | refine blk_drewN ?_ _ | refine blk_drew ?_ | refine blk_alloc ?_ _)); exact BK197.out) hb); have n4_ := Aside0.mk (below_step (by repeat (first | (with_reducible first | exact HB.out | apply below_alloc | apply pw_below_drewN | apply below_drew1 | refine below_set ?_ GE191.out | refine below_set ?_ GE192.out | refine below_set ?_ GE195.out | refine below_set ?_ GE197.out) | exact HB.out)) hb); clear BK191; clear BK192; clear BK195; clear BK197; clear HB; have BK191 := n0_; have BK192 := n1_; have BK195 := n2_; have BK197 := n3_; have HB := n4_; clear n0_ n1_ n2_ n3_ n4_; (try clear hb); (try clear hb2); (try clear hk); (try clear hi); have hcz100_0 : w99.cell? ⟨gb197, 0, none⟩ = some (.int .i64 ((rd_T127 l1 x22_2).f0)) := (blk_cell BK197.out 0).trans rfl; have hcz100_1 : w99.cell? ⟨gb197, 1, none⟩ = some (.int .i64 ((rd_T127 l1 x22_2).f1)) := (blk_cell BK197.out 1).trans rfl; have hcz100_2 : w99.cell? ⟨gb197, 2, none⟩ = some (.int .i64 ((rd_T127 l1 x22_2).f2.f0)) := (blk_cell BK197.out 2).trans rfl; have hcz100_3 : w99.cell? ⟨gb197, 3, none⟩ = some (.string ((rd_T127 l1 x22_2).f2.f1)) := (blk_cell BK197.out 3).trans rfl; have hfz100_0 := blk_frozen BK197.out 0; have hfz100_1 := blk_frozen BK197.out 1; have hfz100_2 := blk_frozen BK197.out 2; have hfz100_3 := blk_frozen BK197.out 3; have hcz101_0 : w99.cell? ⟨gb195, 0, none⟩ = some (.int .i64 x196000_2) := (blk_cell BK195.out 0).trans rfl; have hcz101_1 : w99.cell? ⟨gb195, 1, none⟩ = some (.bool true) := (blk_cell BK195.out 1).trans rfl; have hcz101_2 : w99.cell? ⟨gb195, 2, none⟩ = some (.int .i64 x196002_2) := (blk_cell BK195.out 2).trans rfl; have hcz101_3 : w99.cell? ⟨gb195, 3, none⟩ = some (.string x196003_2) := (blk_cell BK195.out 3).trans rfl; have hcz101_4 : w99.cell? ⟨gb195, 4, none⟩ = some (.int .i64 x196004_2) := (blk_cell BK195.out 4).trans rfl; have hcz101_5 : w99.cell? ⟨gb195, 5, none⟩ = some (.string x196005_2) := (blk_cell BK195.out 5).trans rfl; have hfz101_0 := blk_frozen BK195.out 0; have hfz101_1 := blk_frozen BK195.out 1; have hfz101_2 := blk_frozen BK195.out 2; have hfz101_3 := blk_frozen BK195.out 3; have hfz101_4 := blk_frozen BK195.out 4; have hfz101_5 := blk_frozen BK195.out 5))
                              go_roundg kj27
                              case measure => have := HJ2.out; have := HK2.out; have := HJ27.out; omega
                              case rel => exact ⟨(wrap64 (x22_2 + 1)), (x196000_2), (true), (x196002_2), (x196003_2), (((rd_T127 l1 x22_2).f2.f0)), (((rd_T127 l1 x22_2).f2.f1)), (by first | rfl | (simp; done) | (simp [*]; done)), H', ⟨by have := HJ2.out; have := HK2.out; have := HJ27.out; omega⟩, ⟨by (with_reducible repeat (first | refine blk_drewN ?_ _ | refine blk_drew ?_ | refine blk_alloc ?_ _)); refine blk_far ?_ NB191_195.out _; (with_reducible repeat (first | refine blk_drewN ?_ _ | refine blk_drew ?_ | refine blk_alloc ?_ _)); refine blk_far ?_ NB191_195.out _; (with_reducible repeat (first | refine blk_drewN ?_ _ | refine blk_drew ?_ | refine blk_alloc ?_ _)); refine blk_far ?_ NB191_195.out _; (with_reducible repeat (first | refine blk_drewN ?_ _ | refine blk_drew ?_ | refine blk_alloc ?_ _)); exact BK191.out⟩, ⟨by (with_reducible repeat (first | refine blk_drewN ?_ _ | refine blk_drew ?_ | refine blk_alloc ?_ _)); refine blk_far ?_ NB192_195.out _; (with_reducible repeat (first | refine blk_drewN ?_ _ | refine blk_drew ?_ | refine blk_alloc ?_ _)); refine blk_far ?_ NB192_195.out _; (with_reducible repeat (first | refine blk_drewN ?_ _ | refine blk_drew ?_ | refine blk_alloc ?_ _)); refine blk_far ?_ NB192_195.out _; (with_reducible repeat (first | refine blk_drewN ?_ _ | refine blk_drew ?_ | refine blk_alloc ?_ _)); exact BK192.out⟩, ⟨by (with_reducible repeat (first | refine blk_drewN ?_ _ | refine blk_drew ?_ | refine blk_alloc ?_ _)); refine blk_put (cs := #[.int .i64 x196000_2, .bool true, .int .i64 x196002_2, .string x196003_2, .int .i64 ((rd_T127 l1 x22_2).f2.f0), .string ((rd_T127 l1 x22_2).f2.f1)]) ?_ 1 _ rfl; (with_reducible repeat (first | refine blk_drewN ?_ _ | refine blk_drew ?_ | refine blk_alloc ?_ _)); refine blk_put (cs := #[.int .i64 x196000_2, .bool true, .int .i64 x196002_2, .string x196003_2, .int .i64 ((rd_T127 l1 x22_2).f2.f0), .string x196005_2]) ?_ 5 _ rfl; (with_reducible repeat (first | refine blk_drewN ?_ _ | refine blk_drew ?_ | refine blk_alloc ?_ _)); refine blk_put (cs := #[.int .i64 x196000_2, .bool true, .int .i64 x196002_2, .string x196003_2, .int .i64 x196004_2, .string x196005_2]) ?_ 4 _ rfl; (with_reducible repeat (first | refine blk_drewN ?_ _ | refine blk_drew ?_ | refine blk_alloc ?_ _)); exact BK195.out⟩, ⟨by repeat (first | (with_reducible first | exact HB.out | apply below_alloc | apply pw_below_drewN | apply below_drew1 | refine below_set ?_ GE191.out | refine below_set ?_ GE192.out | refine below_set ?_ GE195.out | refine below_set ?_ GE197.out) | exact HB.out)⟩⟩
                            · replace c89 := Bool.eq_false_iff.mpr c89
                              subst c89
                              have H1 : (impl_StatsOf.l0 kj27 l1 (l1.length : Int) (wrap64 (x22_2 + 1)) a0_0 a0_1 a0_2 x196000_2 true x196002_2 x196003_2 x196004_2 x196005_2) = some (r1, r2, r3, r4, r5, r6, r7) := by rw [if_neg (show ¬ (false = true) by decide)] at H; exact H
                              clear H
                              have H := H1
                              clear H1
                              have H' := Aside0.mk H
                              clear H
                              have hnb102 := NB195_191.out
                              have hnc102 := NB191_195.out
                              have hnb103 := NB195_192.out
                              have hnc103 := NB192_195.out
                              have hnb104 := NB195_197.out
                              have hnc104 := NB197_195.out
                              have hcz105_0 : wc.cell? ⟨gb195, 0, none⟩ = some (.int .i64 x196000_2) := (blk_cell BK195.out 0).trans rfl
                              have hcz105_1 : wc.cell? ⟨gb195, 1, none⟩ = some (.bool true) := (blk_cell BK195.out 1).trans rfl
                              have hcz105_2 : wc.cell? ⟨gb195, 2, none⟩ = some (.int .i64 x196002_2) := (blk_cell BK195.out 2).trans rfl
                              have hcz105_3 : wc.cell? ⟨gb195, 3, none⟩ = some (.string x196003_2) := (blk_cell BK195.out 3).trans rfl
                              have hcz105_4 : wc.cell? ⟨gb195, 4, none⟩ = some (.int .i64 x196004_2) := (blk_cell BK195.out 4).trans rfl
                              have hcz105_5 : wc.cell? ⟨gb195, 5, none⟩ = some (.string x196005_2) := (blk_cell BK195.out 5).trans rfl
                              have hfz105_0 := blk_frozen BK195.out 0
                              have hfz105_1 := blk_frozen BK195.out 1
                              have hfz105_2 := blk_frozen BK195.out 2
                              have hfz105_3 := blk_frozen BK195.out 3
                              have hfz105_4 := blk_frozen BK195.out 4
                              have hfz105_5 := blk_frozen BK195.out 5
                              have hnb106 := NB191_192.out
                              have hnc106 := NB192_191.out
                              have hnb107 := NB191_197.out
                              have hnc107 := NB197_191.out
                              have hcz108_0 : wc.cell? ⟨gb191, 0, none⟩ = some (.int .i64 a0_0) := (blk_cell BK191.out 0).trans rfl
                              have hcz108_1 : wc.cell? ⟨gb191, 1, none⟩ = some (.int .i64 a0_1) := (blk_cell BK191.out 1).trans rfl
                              have hcz108_2 : wc.cell? ⟨gb191, 2, none⟩ = some (.int .i64 a0_2) := (blk_cell BK191.out 2).trans rfl
                              have hfz108_0 := blk_frozen BK191.out 0
                              have hfz108_1 := blk_frozen BK191.out 1
                              have hfz108_2 := blk_frozen BK191.out 2
                              have hnb109 := NB197_192.out
                              have hnc109 := NB192_197.out
                              have hcz110_0 : wc.cell? ⟨gb197, 0, none⟩ = some (.int .i64 ((rd_T127 l1 x22_2).f0)) := (blk_cell BK197.out 0).trans rfl
                              have hcz110_1 : wc.cell? ⟨gb197, 1, none⟩ = some (.int .i64 ((rd_T127 l1 x22_2).f1)) := (blk_cell BK197.out 1).trans rfl
                              have hcz110_2 : wc.cell? ⟨gb197, 2, none⟩ = some (.int .i64 ((rd_T127 l1 x22_2).f2.f0)) := (blk_cell BK197.out 2).trans rfl
                              have hcz110_3 : wc.cell? ⟨gb197, 3, none⟩ = some (.string ((rd_T127 l1 x22_2).f2.f1)) := (blk_cell BK197.out 3).trans rfl
                              have hfz110_0 := blk_frozen BK197.out 0
                              have hfz110_1 := blk_frozen BK197.out 1
                              have hfz110_2 := blk_frozen BK197.out 2
                              have hfz110_3 := blk_frozen BK197.out 3
                              go_wp2_with (first | (go_at_call 131; (with_reducible refine (impl_ValLess.calls kj27 a0_0 x196004_2 x196005_2 ((rd_T127 l1 x22_2).f2.f0) ((rd_T127 l1 x22_2).f2.f1) false _ A88.out).mono ?_); rintro e w111 ⟨rfl, hb⟩; have n0_ := Aside0.mk (blk_below (g := gb191) (o := .cells #[.int .i64 a0_0, .int .i64 a0_1, .int .i64 a0_2] 88 (0, 0)) (by (with_reducible repeat (first | refine blk_drewN ?_ _ | refine blk_drew ?_ | refine blk_alloc ?_ _)); exact BK191.out) hb); have n1_ := Aside0.mk (blk_below (g := gb192) (o := .cells #[.int .i64 0, .bool false, .int .i64 0, .string (⟨#[]⟩ : ByteArray), .int .i64 0, .string (⟨#[]⟩ : ByteArray)] 85 (0, 0)) (by (with_reducible repeat (first | refine blk_drewN ?_ _ | refine blk_drew ?_ | refine blk_alloc ?_ _)); exact BK192.out) hb); have n2_ := Aside0.mk (blk_below (g := gb195) (o := .cells #[.int .i64 x196000_2, .bool true, .int .i64 x196002_2, .string x196003_2, .int .i64 x196004_2, .string x196005_2] 85 (0, 0)) (by (with_reducible repeat (first | refine blk_drewN ?_ _ | refine blk_drew ?_ | refine blk_alloc ?_ _)); exact BK195.out) hb); have n3_ := Aside0.mk (blk_below (g := gb197) (o := .cells #[.int .i64 ((rd_T127 l1 x22_2).f0), .int .i64 ((rd_T127 l1 x22_2).f1), .int .i64 ((rd_T127 l1 x22_2).f2.f0), .string ((rd_T127 l1 x22_2).f2.f1)] 127 (0, 0)) (by (with_reducible repeat (first | refine blk_drewN ?_ _ | refine blk_drew ?_ | refine blk_alloc ?_ _)); exact BK197.out) hb); have n4_ := Aside0.mk (below_step (by repeat (first | (with_reducible first | exact HB.out | apply below_alloc | apply pw_below_drewN | apply below_drew1 | refine below_set ?_ GE191.out | refine below_set ?_ GE192.out | refine below_set ?_ GE195.out | refine below_set ?_ GE197.out) | exact HB.out)) hb); clear BK191; clear BK192; clear BK195; clear BK197; clear HB; have BK191 := n0_; have BK192 := n1_; have BK195 := n2_; have BK197 := n3_; have HB := n4_; clear n0_ n1_ n2_ n3_ n4_; (try clear hb); (try clear hb2); (try clear hk); (try clear hi); have hcz112_0 : w111.cell? ⟨gb195, 0, none⟩ = some (.int .i64 x196000_2) := (blk_cell BK195.out 0).trans rfl; have hcz112_1 : w111.cell? ⟨gb195, 1, none⟩ = some (.bool true) := (blk_cell BK195.out 1).trans rfl; have hcz112_2 : w111.cell? ⟨gb195, 2, none⟩ = some (.int .i64 x196002_2) := (blk_cell BK195.out 2).trans rfl; have hcz112_3 : w111.cell? ⟨gb195, 3, none⟩ = some (.string x196003_2) := (blk_cell BK195.out 3).trans rfl; have hcz112_4 : w111.cell? ⟨gb195, 4, none⟩ = some (.int .i64 x196004_2) := (blk_cell BK195.out 4).trans rfl; have hcz112_5 : w111.cell? ⟨gb195, 5, none⟩ = some (.string x196005_2) := (blk_cell BK195.out 5).trans rfl; have hfz112_0 := blk_frozen BK195.out 0; have hfz112_1 := blk_frozen BK195.out 1; have hfz112_2 := blk_frozen BK195.out 2; have hfz112_3 := blk_frozen BK195.out 3; have hfz112_4 := blk_frozen BK195.out 4; have hfz112_5 := blk_frozen BK195.out 5))
                              go_roundg kj27
                              case measure => have := HJ2.out; have := HK2.out; have := HJ27.out; omega
                              case rel => exact ⟨(wrap64 (x22_2 + 1)), (x196000_2), (true), (x196002_2), (x196003_2), (x196004_2), (x196005_2), (by first | rfl | (simp; done) | (simp [*]; done)), H', ⟨by have := HJ2.out; have := HK2.out; have := HJ27.out; omega⟩, ⟨by (with_reducible repeat (first | refine blk_drewN ?_ _ | refine blk_drew ?_ | refine blk_alloc ?_ _)); refine blk_far ?_ NB191_195.out _; (with_reducible repeat (first | refine blk_drewN ?_ _ | refine blk_drew ?_ | refine blk_alloc ?_ _)); exact BK191.out⟩, ⟨by (with_reducible repeat (first | refine blk_drewN ?_ _ | refine blk_drew ?_ | refine blk_alloc ?_ _)); refine blk_far ?_ NB192_195.out _; (with_reducible repeat (first | refine blk_drewN ?_ _ | refine blk_drew ?_ | refine blk_alloc ?_ _)); exact BK192.out⟩, ⟨by (with_reducible repeat (first | refine blk_drewN ?_ _ | refine blk_drew ?_ | refine blk_alloc ?_ _)); refine blk_put (cs := #[.int .i64 x196000_2, .bool true, .int .i64 x196002_2, .string x196003_2, .int .i64 x196004_2, .string x196005_2]) ?_ 1 _ rfl; (with_reducible repeat (first | refine blk_drewN ?_ _ | refine blk_drew ?_ | refine blk_alloc ?_ _)); exact BK195.out⟩, ⟨by repeat (first | (with_reducible first | exact HB.out | apply below_alloc | apply pw_below_drewN | apply below_drew1 | refine below_set ?_ GE191.out | refine below_set ?_ GE192.out | refine below_set ?_ GE195.out | refine below_set ?_ GE197.out) | exact HB.out)⟩⟩
                          · replace c87 := Bool.eq_false_iff.mpr c87
                            subst c87
                            have H1 : (impl_StatsOf.l0 kj27 l1 (l1.length : Int) (wrap64 (x22_2 + 1)) a0_0 a0_1 a0_2 x196000_2 true x196002_2 x196003_2 ((rd_T127 l1 x22_2).f2.f0) ((rd_T127 l1 x22_2).f2.f1)) = some (r1, r2, r3, r4, r5, r6, r7) := by rw [if_neg (show ¬ (false = true) by decide)] at H; exact H
                            clear H
                            have H := H1
                            clear H1
                            have H' := Aside0.mk H
                            clear H
                            have hnb113 := NB195_191.out
                            have hnc113 := NB191_195.out
                            have hnb114 := NB195_192.out
                            have hnc114 := NB192_195.out
                            have hnb115 := NB195_197.out
                            have hnc115 := NB197_195.out
                            have hcz116_0 : wc.cell? ⟨gb195, 0, none⟩ = some (.int .i64 x196000_2) := (blk_cell BK195.out 0).trans rfl
                            have hcz116_1 : wc.cell? ⟨gb195, 1, none⟩ = some (.bool false) := (blk_cell BK195.out 1).trans rfl
                            have hcz116_2 : wc.cell? ⟨gb195, 2, none⟩ = some (.int .i64 x196002_2) := (blk_cell BK195.out 2).trans rfl
                            have hcz116_3 : wc.cell? ⟨gb195, 3, none⟩ = some (.string x196003_2) := (blk_cell BK195.out 3).trans rfl
                            have hcz116_4 : wc.cell? ⟨gb195, 4, none⟩ = some (.int .i64 x196004_2) := (blk_cell BK195.out 4).trans rfl
                            have hcz116_5 : wc.cell? ⟨gb195, 5, none⟩ = some (.string x196005_2) := (blk_cell BK195.out 5).trans rfl
                            have hfz116_0 := blk_frozen BK195.out 0
                            have hfz116_1 := blk_frozen BK195.out 1
                            have hfz116_2 := blk_frozen BK195.out 2
                            have hfz116_3 := blk_frozen BK195.out 3
                            have hfz116_4 := blk_frozen BK195.out 4
                            have hfz116_5 := blk_frozen BK195.out 5
                            have hnb117 := NB197_191.out
                            have hnc117 := NB191_197.out
                            have hnb118 := NB197_192.out
                            have hnc118 := NB192_197.out
                            have hcz119_0 : wc.cell? ⟨gb197, 0, none⟩ = some (.int .i64 ((rd_T127 l1 x22_2).f0)) := (blk_cell BK197.out 0).trans rfl
                            have hcz119_1 : wc.cell? ⟨gb197, 1, none⟩ = some (.int .i64 ((rd_T127 l1 x22_2).f1)) := (blk_cell BK197.out 1).trans rfl
                            have hcz119_2 : wc.cell? ⟨gb197, 2, none⟩ = some (.int .i64 ((rd_T127 l1 x22_2).f2.f0)) := (blk_cell BK197.out 2).trans rfl
                            have hcz119_3 : wc.cell? ⟨gb197, 3, none⟩ = some (.string ((rd_T127 l1 x22_2).f2.f1)) := (blk_cell BK197.out 3).trans rfl
                            have hfz119_0 := blk_frozen BK197.out 0
                            have hfz119_1 := blk_frozen BK197.out 1
                            have hfz119_2 := blk_frozen BK197.out 2
                            have hfz119_3 := blk_frozen BK197.out 3
                            go_wp2
                            go_roundg kj27
                            case measure => have := HJ2.out; have := HK2.out; have := HJ27.out; omega
                            case rel => exact ⟨(wrap64 (x22_2 + 1)), (x196000_2), (true), (x196002_2), (x196003_2), (((rd_T127 l1 x22_2).f2.f0)), (((rd_T127 l1 x22_2).f2.f1)), (by first | rfl | (simp; done) | (simp [*]; done)), H', ⟨by have := HJ2.out; have := HK2.out; have := HJ27.out; omega⟩, ⟨by (with_reducible repeat (first | refine blk_drewN ?_ _ | refine blk_drew ?_ | refine blk_alloc ?_ _)); refine blk_far ?_ NB191_195.out _; (with_reducible repeat (first | refine blk_drewN ?_ _ | refine blk_drew ?_ | refine blk_alloc ?_ _)); refine blk_far ?_ NB191_195.out _; (with_reducible repeat (first | refine blk_drewN ?_ _ | refine blk_drew ?_ | refine blk_alloc ?_ _)); refine blk_far ?_ NB191_195.out _; (with_reducible repeat (first | refine blk_drewN ?_ _ | refine blk_drew ?_ | refine blk_alloc ?_ _)); exact BK191.out⟩, ⟨by (with_reducible repeat (first | refine blk_drewN ?_ _ | refine blk_drew ?_ | refine blk_alloc ?_ _)); refine blk_far ?_ NB192_195.out _; (with_reducible repeat (first | refine blk_drewN ?_ _ | refine blk_drew ?_ | refine blk_alloc ?_ _)); refine blk_far ?_ NB192_195.out _; (with_reducible repeat (first | refine blk_drewN ?_ _ | refine blk_drew ?_ | refine blk_alloc ?_ _)); refine blk_far ?_ NB192_195.out _; (with_reducible repeat (first | refine blk_drewN ?_ _ | refine blk_drew ?_ | refine blk_alloc ?_ _)); exact BK192.out⟩, ⟨by (with_reducible repeat (first | refine blk_drewN ?_ _ | refine blk_drew ?_ | refine blk_alloc ?_ _)); refine blk_put (cs := #[.int .i64 x196000_2, .bool false, .int .i64 x196002_2, .string x196003_2, .int .i64 ((rd_T127 l1 x22_2).f2.f0), .string ((rd_T127 l1 x22_2).f2.f1)]) ?_ 1 _ rfl; (with_reducible repeat (first | refine blk_drewN ?_ _ | refine blk_drew ?_ | refine blk_alloc ?_ _)); refine blk_put (cs := #[.int .i64 x196000_2, .bool false, .int .i64 x196002_2, .string x196003_2, .int .i64 ((rd_T127 l1 x22_2).f2.f0), .string x196005_2]) ?_ 5 _ rfl; (with_reducible repeat (first | refine blk_drewN ?_ _ | refine blk_drew ?_ | refine blk_alloc ?_ _)); refine blk_put (cs := #[.int .i64 x196000_2, .bool false, .int .i64 x196002_2, .string x196003_2, .int .i64 x196004_2, .string x196005_2]) ?_ 4 _ rfl; (with_reducible repeat (first | refine blk_drewN ?_ _ | refine blk_drew ?_ | refine blk_alloc ?_ _)); exact BK195.out⟩, ⟨by repeat (first | (with_reducible first | exact HB.out | apply below_alloc | apply pw_below_drewN | apply below_drew1 | refine below_set ?_ GE191.out | refine below_set ?_ GE192.out | refine below_set ?_ GE195.out | refine below_set ?_ GE197.out) | exact HB.out)⟩⟩
                  · rw [if_neg c27] at H
                    have c27b0 : (((rd_T127 l1 x22_2).f1) == a0_2) = false := beq_eq_false_iff_ne.mpr c27
                    have c27b1 : (((rd_T127 l1 x22_2).f1) != a0_2) = true := bne_iff_ne.mpr c27
                    have H' := Aside0.mk H
                    clear H
                    have p196 : 0 ≤ (x22_2 : Int) := of_decide_eq_true (by first | (with_reducible assumption) | assumption)
                    have q196 : x22_2 < (l1.length : Int) := of_decide_eq_true (by first | (with_reducible assumption) | assumption)
                    obtain ⟨ad196, e196, hx196_0, hx196_1, hx196_2, hx196_3⟩ := at_T127 HR1.out x22_2 p196 q196
                    cases e196
                    replace hx196_0 := (HB.out.cell (World.block_lt_of_cell? w _ hx196_0)).trans hx196_0
                    replace hx196_1 := (HB.out.cell (World.block_lt_of_cell? w _ hx196_1)).trans hx196_1
                    replace hx196_2 := (HB.out.cell (World.block_lt_of_cell? w _ hx196_2)).trans hx196_2
                    replace hx196_3 := (HB.out.cell (World.block_lt_of_cell? w _ hx196_3)).trans hx196_3
                    replace p196 := eq_true p196
                    replace q196 := eq_true q196
                    go_wp2_with (first | ((with_reducible refine gate_dst (N := 8) rfl ?_); refine box_event ?hg (N := 8) ?hd (cs := #[.int .i64 0, .int .i64 0, .int .i64 0, .string (⟨#[]⟩ : ByteArray)]) (t := 127) ?hr ?_; (case hd => rfl); (case hg => rfl); (case hr => first | (go_simp; done) | (go_simp; rfl)); intro gb197 hg w120 hbox hb; have n0_ := Aside0.mk (blk_below (g := gb191) (o := .cells #[.int .i64 a0_0, .int .i64 a0_1, .int .i64 a0_2] 88 (0, 0)) (by (with_reducible repeat (first | refine blk_drewN ?_ _ | refine blk_drew ?_ | refine blk_alloc ?_ _)); exact BK191.out) hb); have n1_ := Aside0.mk (blk_below (g := gb192) (o := .cells #[.int .i64 0, .bool false, .int .i64 0, .string (⟨#[]⟩ : ByteArray), .int .i64 0, .string (⟨#[]⟩ : ByteArray)] 85 (0, 0)) (by (with_reducible repeat (first | refine blk_drewN ?_ _ | refine blk_drew ?_ | refine blk_alloc ?_ _)); exact BK192.out) hb); have n2_ := Aside0.mk (blk_below (g := gb195) (o := .cells #[.int .i64 x196000_2, .bool x196001_2, .int .i64 x196002_2, .string x196003_2, .int .i64 x196004_2, .string x196005_2] 85 (0, 0)) (by (with_reducible repeat (first | refine blk_drewN ?_ _ | refine blk_drew ?_ | refine blk_alloc ?_ _)); exact BK195.out) hb); have n3_ := Aside0.mk (below_step (by repeat (first | (with_reducible first | exact HB.out | apply below_alloc | apply pw_below_drewN | apply below_drew1 | refine below_set ?_ GE191.out | refine below_set ?_ GE192.out | refine below_set ?_ GE195.out) | exact HB.out)) hb); have n4_ := Aside0.mk (hbox); have n5_ := Aside0.mk ((by rw [hg]; exact (below_size (by repeat (first | (with_reducible first | exact HB.out | apply below_alloc | apply pw_below_drewN | apply below_drew1 | refine below_set ?_ GE191.out | refine below_set ?_ GE192.out | refine below_set ?_ GE195.out) | exact HB.out))) : w.heap.size ≤ gb197)); have n6_ := Aside0.mk ((by rw [hg]; exact (below_size (by repeat (first | (with_reducible first | exact HB.out | apply below_alloc | apply pw_below_drewN | apply below_drew1 | refine below_set ?_ GE191.out | refine below_set ?_ GE192.out | refine below_set ?_ GE195.out) | exact HB.out))) : w.heap.size ≤ gb197)); have n7_ := Aside0.mk ((by rw [hg]; exact Nat.ne_of_lt (blk_lt (g := gb191) (o := .cells #[.int .i64 a0_0, .int .i64 a0_1, .int .i64 a0_2] 88 (0, 0)) (by (with_reducible repeat (first | refine blk_drewN ?_ _ | refine blk_drew ?_ | refine blk_alloc ?_ _)); exact BK191.out)) : gb191 ≠ gb197)); have n8_ := Aside0.mk ((by rw [hg]; exact Nat.ne_of_gt (blk_lt (g := gb191) (o := .cells #[.int .i64 a0_0, .int .i64 a0_1, .int .i64 a0_2] 88 (0, 0)) (by (with_reducible repeat (first | refine blk_drewN ?_ _ | refine blk_drew ?_ | refine blk_alloc ?_ _)); exact BK191.out)) : gb197 ≠ gb191)); have n9_ := Aside0.mk ((by rw [hg]; exact Nat.ne_of_lt (blk_lt (g := gb192) (o := .cells #[.int .i64 0, .bool false, .int .i64 0, .string (⟨#[]⟩ : ByteArray), .int .i64 0, .string (⟨#[]⟩ : ByteArray)] 85 (0, 0)) (by (with_reducible repeat (first | refine blk_drewN ?_ _ | refine blk_drew ?_ | refine blk_alloc ?_ _)); exact BK192.out)) : gb192 ≠ gb197)); have n10_ := Aside0.mk ((by rw [hg]; exact Nat.ne_of_gt (blk_lt (g := gb192) (o := .cells #[.int .i64 0, .bool false, .int .i64 0, .string (⟨#[]⟩ : ByteArray), .int .i64 0, .string (⟨#[]⟩ : ByteArray)] 85 (0, 0)) (by (with_reducible repeat (first | refine blk_drewN ?_ _ | refine blk_drew ?_ | refine blk_alloc ?_ _)); exact BK192.out)) : gb197 ≠ gb192)); have n11_ := Aside0.mk ((by rw [hg]; exact Nat.ne_of_lt (blk_lt (g := gb195) (o := .cells #[.int .i64 x196000_2, .bool x196001_2, .int .i64 x196002_2, .string x196003_2, .int .i64 x196004_2, .string x196005_2] 85 (0, 0)) (by (with_reducible repeat (first | refine blk_drewN ?_ _ | refine blk_drew ?_ | refine blk_alloc ?_ _)); exact BK195.out)) : gb195 ≠ gb197)); have n12_ := Aside0.mk ((by rw [hg]; exact Nat.ne_of_gt (blk_lt (g := gb195) (o := .cells #[.int .i64 x196000_2, .bool x196001_2, .int .i64 x196002_2, .string x196003_2, .int .i64 x196004_2, .string x196005_2] 85 (0, 0)) (by (with_reducible repeat (first | refine blk_drewN ?_ _ | refine blk_drew ?_ | refine blk_alloc ?_ _)); exact BK195.out)) : gb197 ≠ gb195)); clear BK191; clear BK192; clear BK195; clear HB; have BK191 := n0_; have BK192 := n1_; have BK195 := n2_; have HB := n3_; have BK197 := n4_; have GW197 := n5_; have GE197 := n6_; have NB191_197 := n7_; have NB197_191 := n8_; have NB192_197 := n9_; have NB197_192 := n10_; have NB195_197 := n11_; have NB197_195 := n12_; clear n0_ n1_ n2_ n3_ n4_ n5_ n6_ n7_ n8_ n9_ n10_ n11_ n12_; clear hb hbox hg; have hnb121 := NB197_191.out; have hnc121 := NB191_197.out; have hnb122 := NB197_192.out; have hnc122 := NB192_197.out; have hnb123 := NB197_195.out; have hnc123 := NB195_197.out; have hcz124_0 : w120.cell? ⟨gb197, 0, none⟩ = some (.int .i64 0) := (blk_cell BK197.out 0).trans rfl; have hcz124_1 : w120.cell? ⟨gb197, 1, none⟩ = some (.int .i64 0) := (blk_cell BK197.out 1).trans rfl; have hcz124_2 : w120.cell? ⟨gb197, 2, none⟩ = some (.int .i64 0) := (blk_cell BK197.out 2).trans rfl; have hcz124_3 : w120.cell? ⟨gb197, 3, none⟩ = some (.string (⟨#[]⟩ : ByteArray)) := (blk_cell BK197.out 3).trans rfl; have hfz124_0 := blk_frozen BK197.out 0; have hfz124_1 := blk_frozen BK197.out 1; have hfz124_2 := blk_frozen BK197.out 2; have hfz124_3 := blk_frozen BK197.out 3; have hnb125 := NB191_192.out; have hnc125 := NB192_191.out; have hnb126 := NB191_195.out; have hnc126 := NB195_191.out; have hcz127_0 : w120.cell? ⟨gb191, 0, none⟩ = some (.int .i64 a0_0) := (blk_cell BK191.out 0).trans rfl; have hcz127_1 : w120.cell? ⟨gb191, 1, none⟩ = some (.int .i64 a0_1) := (blk_cell BK191.out 1).trans rfl; have hcz127_2 : w120.cell? ⟨gb191, 2, none⟩ = some (.int .i64 a0_2) := (blk_cell BK191.out 2).trans rfl; have hfz127_0 := blk_frozen BK191.out 0; have hfz127_1 := blk_frozen BK191.out 1; have hfz127_2 := blk_frozen BK191.out 2; have hnb128 := NB195_192.out; have hnc128 := NB192_195.out; have hcz129_0 : w120.cell? ⟨gb195, 0, none⟩ = some (.int .i64 x196000_2) := (blk_cell BK195.out 0).trans rfl; have hcz129_1 : w120.cell? ⟨gb195, 1, none⟩ = some (.bool x196001_2) := (blk_cell BK195.out 1).trans rfl; have hcz129_2 : w120.cell? ⟨gb195, 2, none⟩ = some (.int .i64 x196002_2) := (blk_cell BK195.out 2).trans rfl; have hcz129_3 : w120.cell? ⟨gb195, 3, none⟩ = some (.string x196003_2) := (blk_cell BK195.out 3).trans rfl; have hcz129_4 : w120.cell? ⟨gb195, 4, none⟩ = some (.int .i64 x196004_2) := (blk_cell BK195.out 4).trans rfl; have hcz129_5 : w120.cell? ⟨gb195, 5, none⟩ = some (.string x196005_2) := (blk_cell BK195.out 5).trans rfl; have hfz129_0 := blk_frozen BK195.out 0; have hfz129_1 := blk_frozen BK195.out 1; have hfz129_2 := blk_frozen BK195.out 2; have hfz129_3 := blk_frozen BK195.out 3; have hfz129_4 := blk_frozen BK195.out 4; have hfz129_5 := blk_frozen BK195.out 5))
                    go_roundg k2
                    case measure => have := HJ2.out; have := HK2.out; omega
                    case rel => exact ⟨(wrap64 (x22_2 + 1)), (wrap64 (x196000_2 + 1)), (x196001_2), (x196002_2), (x196003_2), (x196004_2), (x196005_2), (by first | rfl | (simp; done) | (simp [*]; done)), H', ⟨by have := HJ2.out; have := HK2.out; omega⟩, ⟨by (with_reducible repeat (first | refine blk_drewN ?_ _ | refine blk_drew ?_ | refine blk_alloc ?_ _)); refine blk_far ?_ NB191_195.out _; (with_reducible repeat (first | refine blk_drewN ?_ _ | refine blk_drew ?_ | refine blk_alloc ?_ _)); refine blk_far ?_ NB191_197.out _; (with_reducible repeat (first | refine blk_drewN ?_ _ | refine blk_drew ?_ | refine blk_alloc ?_ _)); refine blk_far ?_ NB191_197.out _; (with_reducible repeat (first | refine blk_drewN ?_ _ | refine blk_drew ?_ | refine blk_alloc ?_ _)); refine blk_far ?_ NB191_197.out _; (with_reducible repeat (first | refine blk_drewN ?_ _ | refine blk_drew ?_ | refine blk_alloc ?_ _)); refine blk_far ?_ NB191_197.out _; (with_reducible repeat (first | refine blk_drewN ?_ _ | refine blk_drew ?_ | refine blk_alloc ?_ _)); exact BK191.out⟩, ⟨by (with_reducible repeat (first | refine blk_drewN ?_ _ | refine blk_drew ?_ | refine blk_alloc ?_ _)); refine blk_far ?_ NB192_195.out _; (with_reducible repeat (first | refine blk_drewN ?_ _ | refine blk_drew ?_ | refine blk_alloc ?_ _)); refine blk_far ?_ NB192_197.out _; (with_reducible repeat (first | refine blk_drewN ?_ _ | refine blk_drew ?_ | refine blk_alloc ?_ _)); refine blk_far ?_ NB192_197.out _; (with_reducible repeat (first | refine blk_drewN ?_ _ | refine blk_drew ?_ | refine blk_alloc ?_ _)); refine blk_far ?_ NB192_197.out _; (with_reducible repeat (first | refine blk_drewN ?_ _ | refine blk_drew ?_ | refine blk_alloc ?_ _)); refine blk_far ?_ NB192_197.out _; (with_reducible repeat (first | refine blk_drewN ?_ _ | refine blk_drew ?_ | refine blk_alloc ?_ _)); exact BK192.out⟩, ⟨by (with_reducible repeat (first | refine blk_drewN ?_ _ | refine blk_drew ?_ | refine blk_alloc ?_ _)); refine blk_put (cs := #[.int .i64 x196000_2, .bool x196001_2, .int .i64 x196002_2, .string x196003_2, .int .i64 x196004_2, .string x196005_2]) ?_ 0 _ rfl; (with_reducible repeat (first | refine blk_drewN ?_ _ | refine blk_drew ?_ | refine blk_alloc ?_ _)); refine blk_far ?_ NB195_197.out _; (with_reducible repeat (first | refine blk_drewN ?_ _ | refine blk_drew ?_ | refine blk_alloc ?_ _)); refine blk_far ?_ NB195_197.out _; (with_reducible repeat (first | refine blk_drewN ?_ _ | refine blk_drew ?_ | refine blk_alloc ?_ _)); refine blk_far ?_ NB195_197.out _; (with_reducible repeat (first | refine blk_drewN ?_ _ | refine blk_drew ?_ | refine blk_alloc ?_ _)); refine blk_far ?_ NB195_197.out _; (with_reducible repeat (first | refine blk_drewN ?_ _ | refine blk_drew ?_ | refine blk_alloc ?_ _)); exact BK195.out⟩, ⟨by repeat (first | (with_reducible first | exact HB.out | apply below_alloc | apply pw_below_drewN | apply below_drew1 | refine below_set ?_ GE191.out | refine below_set ?_ GE192.out | refine below_set ?_ GE195.out | refine below_set ?_ GE197.out) | exact HB.out)⟩⟩
                · rw [if_neg c26] at H
                  exact absurd H (by simp)
              · rw [if_neg c25] at H
                exact absurd H (by simp)
            · rw [if_neg c24] at H
              have c24b0 : decide (x22_2 < (l1.length : Int)) = false := decide_eq_false c24
              clear c24
              simp only [Option.some.injEq, Prod.mk.injEq] at H
              obtain ⟨rfl, rfl, rfl, rfl, rfl, rfl, rfl⟩ := H
              have hnb130 := NB195_191.out
              have hnc130 := NB191_195.out
              have hnb131 := NB195_192.out
              have hnc131 := NB192_195.out
              have hcz132_0 : wr.cell? ⟨gb195, 0, none⟩ = some (.int .i64 x196000_2) := (blk_cell BK195.out 0).trans rfl
              have hcz132_1 : wr.cell? ⟨gb195, 1, none⟩ = some (.bool x196001_2) := (blk_cell BK195.out 1).trans rfl
              have hcz132_2 : wr.cell? ⟨gb195, 2, none⟩ = some (.int .i64 x196002_2) := (blk_cell BK195.out 2).trans rfl
              have hcz132_3 : wr.cell? ⟨gb195, 3, none⟩ = some (.string x196003_2) := (blk_cell BK195.out 3).trans rfl
              have hcz132_4 : wr.cell? ⟨gb195, 4, none⟩ = some (.int .i64 x196004_2) := (blk_cell BK195.out 4).trans rfl
              have hcz132_5 : wr.cell? ⟨gb195, 5, none⟩ = some (.string x196005_2) := (blk_cell BK195.out 5).trans rfl
              have hfz132_0 := blk_frozen BK195.out 0
              have hfz132_1 := blk_frozen BK195.out 1
              have hfz132_2 := blk_frozen BK195.out 2
              have hfz132_3 := blk_frozen BK195.out 3
              have hfz132_4 := blk_frozen BK195.out 4
              have hfz132_5 := blk_frozen BK195.out 5
              have hnb133 := NB192_191.out
              have hnc133 := NB191_192.out
              have hcz134_0 : wr.cell? ⟨gb192, 0, none⟩ = some (.int .i64 0) := (blk_cell BK192.out 0).trans rfl
              have hcz134_1 : wr.cell? ⟨gb192, 1, none⟩ = some (.bool false) := (blk_cell BK192.out 1).trans rfl
              have hcz134_2 : wr.cell? ⟨gb192, 2, none⟩ = some (.int .i64 0) := (blk_cell BK192.out 2).trans rfl
              have hcz134_3 : wr.cell? ⟨gb192, 3, none⟩ = some (.string (⟨#[]⟩ : ByteArray)) := (blk_cell BK192.out 3).trans rfl
              have hcz134_4 : wr.cell? ⟨gb192, 4, none⟩ = some (.int .i64 0) := (blk_cell BK192.out 4).trans rfl
              have hcz134_5 : wr.cell? ⟨gb192, 5, none⟩ = some (.string (⟨#[]⟩ : ByteArray)) := (blk_cell BK192.out 5).trans rfl
              have hfz134_0 := blk_frozen BK192.out 0
              have hfz134_1 := blk_frozen BK192.out 1
              have hfz134_2 := blk_frozen BK192.out 2
              have hfz134_3 := blk_frozen BK192.out 3
              have hfz134_4 := blk_frozen BK192.out 4
              have hfz134_5 := blk_frozen BK192.out 5
              go_wp2
              refine bodyPost_ret (results_ct rfl _ _ gb192 85 #[.int .i64 x196000_2, .bool x196001_2, .int .i64 x196002_2, .string x196003_2, .int .i64 x196004_2, .string x196005_2] (0, 0) _ rfl (by (with_reducible repeat (first | refine blk_drewN ?_ _ | refine blk_drew ?_ | refine blk_alloc ?_ _)); refine blk_put (cs := #[.int .i64 x196000_2, .bool x196001_2, .int .i64 x196002_2, .string x196003_2, .int .i64 x196004_2, .string (⟨#[]⟩ : ByteArray)]) ?_ 5 _ rfl; (with_reducible repeat (first | refine blk_drewN ?_ _ | refine blk_drew ?_ | refine blk_alloc ?_ _)); refine blk_put (cs := #[.int .i64 x196000_2, .bool x196001_2, .int .i64 x196002_2, .string x196003_2, .int .i64 0, .string (⟨#[]⟩ : ByteArray)]) ?_ 4 _ rfl; (with_reducible repeat (first | refine blk_drewN ?_ _ | refine blk_drew ?_ | refine blk_alloc ?_ _)); refine blk_put (cs := #[.int .i64 x196000_2, .bool x196001_2, .int .i64 x196002_2, .string (⟨#[]⟩ : ByteArray), .int .i64 0, .string (⟨#[]⟩ : ByteArray)]) ?_ 3 _ rfl; (with_reducible repeat (first | refine blk_drewN ?_ _ | refine blk_drew ?_ | refine blk_alloc ?_ _)); refine blk_put (cs := #[.int .i64 x196000_2, .bool x196001_2, .int .i64 0, .string (⟨#[]⟩ : ByteArray), .int .i64 0, .string (⟨#[]⟩ : ByteArray)]) ?_ 2 _ rfl; (with_reducible repeat (first | refine blk_drewN ?_ _ | refine blk_drew ?_ | refine blk_alloc ?_ _)); refine blk_put (cs := #[.int .i64 x196000_2, .bool false, .int .i64 0, .string (⟨#[]⟩ : ByteArray), .int .i64 0, .string (⟨#[]⟩ : ByteArray)]) ?_ 1 _ rfl; (with_reducible repeat (first | refine blk_drewN ?_ _ | refine blk_drew ?_ | refine blk_alloc ?_ _)); refine blk_put (cs := #[.int .i64 0, .bool false, .int .i64 0, .string (⟨#[]⟩ : ByteArray), .int .i64 0, .string (⟨#[]⟩ : ByteArray)]) ?_ 0 _ rfl; (with_reducible repeat (first | refine blk_drewN ?_ _ | refine blk_drew ?_ | refine blk_alloc ?_ _)); exact BK192.out) Try.underlying85 rfl (by kernel_rfl)) rfl ?_
              exact ⟨by first | rfl | (simp [errW_none, errW_some] <;> rfl) | (simp [*, errW_none, errW_some] <;> rfl), by repeat (first | (with_reducible first | exact HB.out | apply below_alloc | apply pw_below_drewN | apply below_drew1 | refine below_set ?_ GE191.out | refine below_set ?_ GE192.out | refine below_set ?_ GE195.out) | exact HB.out)⟩

end Go.Proofs.Ytlohdhkgcfebnaa.PFnExactStatsOf
