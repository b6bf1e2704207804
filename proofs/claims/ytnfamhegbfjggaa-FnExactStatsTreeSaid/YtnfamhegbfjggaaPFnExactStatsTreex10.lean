/- The machine's side of FnExactStatsTree, written by wip/tools/hyb.py of this repo: each Go function as a plain Lean function, and the proof that the call comes to just its answer. No condition. -/
import Derived.Test.YtnfamhegbfjggaaPFnExactStatsTreex0
import Derived.Test.YtnfamhegbfjggaaPFnExactStatsTreex7
import Derived.Test.YtnfamhegbfjggaaPFnExactStatsTreex9
namespace Go.Proofs.Ytnfamhegbfjggaa.PFnExactStatsTree
open Go.RowKit Go.Proofs.YtnfamhegbfjggaaW.PrintWords Go.Proofs.YtnfamhegbfjggaaW.PrintLast Go.Proofs.YtnfamhegbfjggaaW.PrintMore Go.Proofs.YtnfamhegbfjggaaW.PrintMore2
attribute [local go_sem] max2_int min2_int max_two min_two max_three min_three max_four min_four   -- for this text's walks alone
set_option linter.unusedVariables false
set_option linter.unusedSimpArgs false

/-! ### impl_statsNodes: function 118 -/
def impl_statsNodes.f (k : Nat) (a0 : Int) (a1_0 : Int) (a1_1 : Int) (a1_2 : Int) (a2_0 : Int) (a2_1 : Bool) (a2_2 : Int) (a2_3 : ByteArray) (a2_4 : Int) (a2_5 : ByteArray) : Option ((List (S53))) := (impl_longNode.f 3 a2_0).bind fun bt329 => ((some (([(([(⟨bt329.1, bt329.2.1, bt329.2.2.1, bt329.2.2.2.1, bt329.2.2.2.2⟩ : S53)] : List (S53)))] : List (List (S53))) : List (List (S53)))).bind fun y337 => (if a2_1 = true then ((impl_statText.f k a1_0 a2_4 a2_5).bind fun t340 => ((impl_textNode.f 5 t340).bind fun bt341 => ((impl_statText.f k a1_0 a2_2 a2_3).bind fun t349 => ((impl_textNode.f 6 t349).bind fun bt350 => ((some (([(([(⟨bt341.1, bt341.2.1, bt341.2.2.1, bt341.2.2.2.1, bt341.2.2.2.2⟩ : S53)] : List (S53))), (([(⟨bt350.1, bt350.2.1, bt350.2.2.1, bt350.2.2.2.1, bt350.2.2.2.2⟩ : S53)] : List (S53)))] : List (List (S53))) : List (List (S53)))).bind fun y358 => (if y337.length + y358.length < 5864062014805 then ((impl_structNode.f k a0 (y337 ++ y358)).bind fun t364 => (some t364)) else (none))))))) else ((impl_structNode.f k a0 y337).bind fun t367 => (some t367))))
theorem impl_statsNodes.mono : ∀ a0 a1 a2 a3 a4 a5 a6 a7 a8 a9 k, LeO (impl_statsNodes.f k a0 a1 a2 a3 a4 a5 a6 a7 a8 a9) (impl_statsNodes.f (k + 1) a0 a1 a2 a3 a4 a5 a6 a7 a8 a9) := by
  intro a0 a1 a2 a3 a4 a5 a6 a7 a8 a9 k
  unfold impl_statsNodes.f
  repeat' first
      | (with_reducible exact impl_statText.mono _ _ _ _)
      | (with_reducible exact impl_structNode.mono _ _ _)
      | (with_reducible exact LeO.refl _)
      | (with_reducible exact LeO.none _)
      | (with_reducible refine LeO.ite ?_ ?_)
      | (with_reducible refine LeO.bind ?_ (fun _ => ?_))
      | exact impl_statText.mono _ _ _ _
      | exact impl_structNode.mono _ _ _
      | exact LeO.none _
      | refine LeO.ite ?_ ?_
      | refine LeO.bind ?_ (fun _ => ?_)
def impl_statsNodes.T3 : Bool × List (List Nat × List Nat) := (true, [([], []), ([], []), ([1], [1]), ([], []), ([3], [3]), ([2, 4], [2, 4]), ([5, 5], [5]), ([6], [6]), ([], []), ([8], [8]), ([], []), ([10], [10]), ([9, 11, 6], [9, 11]), ([12, 12], [12]), ([13], [13]), ([7, 14], [7, 14]), ([0, 15, 13], [0, 15]), ([16, 16, 0, 1, 2, 3, 4, 5, 6, 7, 8, 9, 10, 11, 12, 13, 14, 15, 16], [0, 16])])
def impl_statsNodes.B3 : List Nat := [0, 0, 2, 0, 8, 30, 62, 126, 0, 256, 0, 1024, 3966, 8062, 16254, 32766, 65535, 131071]
theorem impl_statsNodes.tab3 : rtab .any (opsOf Try.f118 3) = impl_statsNodes.T3 := by kernel_rfl
theorem impl_statsNodes.bits3 : waitsOk impl_statsNodes.T3.2 impl_statsNodes.B3 = true := by kernel_rfl
set_option maxHeartbeats 8000000 in
set_option maxRecDepth 100000 in
theorem impl_statsNodes.calls (k : Nat) (a0 : Int) (a1_0 : Int) (a1_1 : Int) (a1_2 : Int) (a2_0 : Int) (a2_1 : Bool) (a2_2 : Int) (a2_3 : ByteArray) (a2_4 : Int) (a2_5 : ByteArray) (r : List (S53)) (w : World) (h : impl_statsNodes.f k a0 a1_0 a1_1 a1_2 a2_0 a2_1 a2_2 a2_3 a2_4 a2_5 = some r) :
    Calls Try.prog 118 #[.int .i64 a0, .agg #[.int .i64 a1_0, .int .i64 a1_1, .int .i64 a1_2], .agg #[.int .i64 a2_0, .bool a2_1, .int .i64 a2_2, .string a2_3, .int .i64 a2_4, .string a2_5]] w fun e w' => ∃ v0_ : Value, e = .returned (v0_) ∧ Kd.R k53 53 w' w.heap.size (fun _ => True) v0_ r ∧ Below w.heap.size w w' := by
  have hu87 := Try.underlying87
  have hu91 := Try.underlying91
  have hu89 := Try.underlying89
  have HB := Aside0.mk (Below.refl w.heap.size w)
  have H : ((impl_longNode.f 3 a2_0).bind fun bt329 => ((some (([(([(⟨bt329.1, bt329.2.1, bt329.2.2.1, bt329.2.2.2.1, bt329.2.2.2.2⟩ : S53)] : List (S53)))] : List (List (S53))) : List (List (S53)))).bind fun y337 => (if a2_1 = true then ((impl_statText.f k a1_0 a2_4 a2_5).bind fun t340 => ((impl_textNode.f 5 t340).bind fun bt341 => ((impl_statText.f k a1_0 a2_2 a2_3).bind fun t349 => ((impl_textNode.f 6 t349).bind fun bt350 => ((some (([(([(⟨bt341.1, bt341.2.1, bt341.2.2.1, bt341.2.2.2.1, bt341.2.2.2.2⟩ : S53)] : List (S53))), (([(⟨bt350.1, bt350.2.1, bt350.2.2.1, bt350.2.2.2.1, bt350.2.2.2.2⟩ : S53)] : List (S53)))] : List (List (S53))) : List (List (S53)))).bind fun y358 => (if y337.length + y358.length < 5864062014805 then ((impl_structNode.f k a0 (y337 ++ y358)).bind fun t364 => (some t364)) else (none))))))) else ((impl_structNode.f k a0 y337).bind fun t367 => (some t367))))) = some r := h
  clear h
  replace H := Option.bind_eq_some_iff.mp H
  obtain ⟨⟨t329, t330, t331, t332, t333⟩, A40, H⟩ := H
  replace H : ((some (([(([(⟨t329, t330, t331, t332, t333⟩ : S53)] : List (S53)))] : List (List (S53))) : List (List (S53)))).bind fun y337 => (if a2_1 = true then ((impl_statText.f k a1_0 a2_4 a2_5).bind fun t340 => ((impl_textNode.f 5 t340).bind fun bt341 => ((impl_statText.f k a1_0 a2_2 a2_3).bind fun t349 => ((impl_textNode.f 6 t349).bind fun bt350 => ((some (([(([(⟨bt341.1, bt341.2.1, bt341.2.2.1, bt341.2.2.2.1, bt341.2.2.2.2⟩ : S53)] : List (S53))), (([(⟨bt350.1, bt350.2.1, bt350.2.2.1, bt350.2.2.2.1, bt350.2.2.2.2⟩ : S53)] : List (S53)))] : List (List (S53))) : List (List (S53)))).bind fun y358 => (if y337.length + y358.length < 5864062014805 then ((impl_structNode.f k a0 (y337 ++ y358)).bind fun t364 => (some t364)) else (none))))))) else ((impl_structNode.f k a0 y337).bind fun t367 => (some t367)))) = some r := H
  have A4 := Aside0.mk A40
  clear A40
  obtain ⟨y334, hy334⟩ : ∃ y_ : List (S53), y_ = (([(⟨t329, t330, t331, t332, t333⟩ : S53)] : List (S53))) := ⟨_, rfl⟩
  replace H : ((some (([y334] : List (List (S53))) : List (List (S53)))).bind fun y337 => (if a2_1 = true then ((impl_statText.f k a1_0 a2_4 a2_5).bind fun t340 => ((impl_textNode.f 5 t340).bind fun bt341 => ((impl_statText.f k a1_0 a2_2 a2_3).bind fun t349 => ((impl_textNode.f 6 t349).bind fun bt350 => ((some (([(([(⟨bt341.1, bt341.2.1, bt341.2.2.1, bt341.2.2.2.1, bt341.2.2.2.2⟩ : S53)] : List (S53))), (([(⟨bt350.1, bt350.2.1, bt350.2.2.1, bt350.2.2.2.1, bt350.2.2.2.2⟩ : S53)] : List (S53)))] : List (List (S53))) : List (List (S53)))).bind fun y358 => (if y337.length + y358.length < 5864062014805 then ((impl_structNode.f k a0 (y337 ++ y358)).bind fun t364 => (some t364)) else (none))))))) else ((impl_structNode.f k a0 y337).bind fun t367 => (some t367)))) = some r := by first | (rw [hy334]; with_reducible exact H) | (have H2_ := (Option.bind_some _ _).symm.trans H; rw [hy334]; with_reducible exact H2_) | (have H2_ := (Option.bind_some _ _).symm.trans H; with_reducible exact H2_) | with_reducible exact H | (rw [hy334]; exact H) | exact H
  have Ny334 := Aside0.mk hy334
  clear hy334
  obtain ⟨y337, hy337⟩ : ∃ y_ : List (List (S53)), y_ = (([y334] : List (List (S53)))) := ⟨_, rfl⟩
  replace H : (if a2_1 = true then ((impl_statText.f k a1_0 a2_4 a2_5).bind fun t340 => ((impl_textNode.f 5 t340).bind fun bt341 => ((impl_statText.f k a1_0 a2_2 a2_3).bind fun t349 => ((impl_textNode.f 6 t349).bind fun bt350 => ((some (([(([(⟨bt341.1, bt341.2.1, bt341.2.2.1, bt341.2.2.2.1, bt341.2.2.2.2⟩ : S53)] : List (S53))), (([(⟨bt350.1, bt350.2.1, bt350.2.2.1, bt350.2.2.2.1, bt350.2.2.2.2⟩ : S53)] : List (S53)))] : List (List (S53))) : List (List (S53)))).bind fun y358 => (if y337.length + y358.length < 5864062014805 then ((impl_structNode.f k a0 (y337 ++ y358)).bind fun t364 => (some t364)) else (none))))))) else ((impl_structNode.f k a0 y337).bind fun t367 => (some t367))) = some r := by first | (rw [hy337]; with_reducible exact H) | (have H2_ := (Option.bind_some _ _).symm.trans H; rw [hy337]; with_reducible exact H2_) | (have H2_ := (Option.bind_some _ _).symm.trans H; with_reducible exact H2_) | with_reducible exact H | (rw [hy337]; exact H) | exact H
  have Ny337 := Aside0.mk hy337
  clear hy337
  by_cases c5 : a2_1 = true
  · subst c5
    have H1 : ((impl_statText.f k a1_0 a2_4 a2_5).bind fun t340 => ((impl_textNode.f 5 t340).bind fun bt341 => ((impl_statText.f k a1_0 a2_2 a2_3).bind fun t349 => ((impl_textNode.f 6 t349).bind fun bt350 => ((some (([(([(⟨bt341.1, bt341.2.1, bt341.2.2.1, bt341.2.2.2.1, bt341.2.2.2.2⟩ : S53)] : List (S53))), (([(⟨bt350.1, bt350.2.1, bt350.2.2.1, bt350.2.2.2.1, bt350.2.2.2.2⟩ : S53)] : List (S53)))] : List (List (S53))) : List (List (S53)))).bind fun y358 => (if y337.length + y358.length < 5864062014805 then ((impl_structNode.f k a0 (y337 ++ y358)).bind fun t364 => (some t364)) else (none))))))) = some r := by rw [if_pos rfl] at H; exact H
    clear H
    have H := H1
    clear H1
    replace H := Option.bind_eq_some_iff.mp H
    obtain ⟨t340, A60, H⟩ := H
    replace H : ((impl_textNode.f 5 t340).bind fun bt341 => ((impl_statText.f k a1_0 a2_2 a2_3).bind fun t349 => ((impl_textNode.f 6 t349).bind fun bt350 => ((some (([(([(⟨bt341.1, bt341.2.1, bt341.2.2.1, bt341.2.2.2.1, bt341.2.2.2.2⟩ : S53)] : List (S53))), (([(⟨bt350.1, bt350.2.1, bt350.2.2.1, bt350.2.2.2.1, bt350.2.2.2.2⟩ : S53)] : List (S53)))] : List (List (S53))) : List (List (S53)))).bind fun y358 => (if y337.length + y358.length < 5864062014805 then ((impl_structNode.f k a0 (y337 ++ y358)).bind fun t364 => (some t364)) else (none)))))) = some r := H
    have A6 := Aside0.mk A60
    clear A60
    replace H := Option.bind_eq_some_iff.mp H
    obtain ⟨⟨t341, t342, t343, t344, t345⟩, A70, H⟩ := H
    replace H : ((impl_statText.f k a1_0 a2_2 a2_3).bind fun t349 => ((impl_textNode.f 6 t349).bind fun bt350 => ((some (([(([(⟨t341, t342, t343, t344, t345⟩ : S53)] : List (S53))), (([(⟨bt350.1, bt350.2.1, bt350.2.2.1, bt350.2.2.2.1, bt350.2.2.2.2⟩ : S53)] : List (S53)))] : List (List (S53))) : List (List (S53)))).bind fun y358 => (if y337.length + y358.length < 5864062014805 then ((impl_structNode.f k a0 (y337 ++ y358)).bind fun t364 => (some t364)) else (none))))) = some r := H
    have A7 := Aside0.mk A70
    clear A70
    obtain ⟨y346, hy346⟩ : ∃ y_ : List (S53), y_ = (([(⟨t341, t342, t343, t344, t345⟩ : S53)] : List (S53))) := ⟨_, rfl⟩
    replace H : ((impl_statText.f k a1_0 a2_2 a2_3).bind fun t349 => ((impl_textNode.f 6 t349).bind fun bt350 => ((some (([y346, (([(⟨bt350.1, bt350.2.1, bt350.2.2.1, bt350.2.2.2.1, bt350.2.2.2.2⟩ : S53)] : List (S53)))] : List (List (S53))) : List (List (S53)))).bind fun y358 => (if y337.length + y358.length < 5864062014805 then ((impl_structNode.f k a0 (y337 ++ y358)).bind fun t364 => (some t364)) else (none))))) = some r := by first | (rw [hy346]; with_reducible exact H) | (have H2_ := (Option.bind_some _ _).symm.trans H; rw [hy346]; with_reducible exact H2_) | (have H2_ := (Option.bind_some _ _).symm.trans H; with_reducible exact H2_) | with_reducible exact H | (rw [hy346]; exact H) | exact H
    have Ny346 := Aside0.mk hy346
    clear hy346
    replace H := Option.bind_eq_some_iff.mp H
    obtain ⟨t349, A80, H⟩ := H
    replace H : ((impl_textNode.f 6 t349).bind fun bt350 => ((some (([y346, (([(⟨bt350.1, bt350.2.1, bt350.2.2.1, bt350.2.2.2.1, bt350.2.2.2.2⟩ : S53)] : List (S53)))] : List (List (S53))) : List (List (S53)))).bind fun y358 => (if y337.length + y358.length < 5864062014805 then ((impl_structNode.f k a0 (y337 ++ y358)).bind fun t364 => (some t364)) else (none)))) = some r := H
    have A8 := Aside0.mk A80
    clear A80
    replace H := Option.bind_eq_some_iff.mp H
    obtain ⟨⟨t350, t351, t352, t353, t354⟩, A90, H⟩ := H
    replace H : ((some (([y346, (([(⟨t350, t351, t352, t353, t354⟩ : S53)] : List (S53)))] : List (List (S53))) : List (List (S53)))).bind fun y358 => (if y337.length + y358.length < 5864062014805 then ((impl_structNode.f k a0 (y337 ++ y358)).bind fun t364 => (some t364)) else (none))) = some r := H
    have A9 := Aside0.mk A90
    clear A90
    obtain ⟨y355, hy355⟩ : ∃ y_ : List (S53), y_ = (([(⟨t350, t351, t352, t353, t354⟩ : S53)] : List (S53))) := ⟨_, rfl⟩
    replace H : ((some (([y346, y355] : List (List (S53))) : List (List (S53)))).bind fun y358 => (if y337.length + y358.length < 5864062014805 then ((impl_structNode.f k a0 (y337 ++ y358)).bind fun t364 => (some t364)) else (none))) = some r := by first | (rw [hy355]; with_reducible exact H) | (have H2_ := (Option.bind_some _ _).symm.trans H; rw [hy355]; with_reducible exact H2_) | (have H2_ := (Option.bind_some _ _).symm.trans H; with_reducible exact H2_) | with_reducible exact H | (rw [hy355]; exact H) | exact H
    have Ny355 := Aside0.mk hy355
    clear hy355
    obtain ⟨y358, hy358⟩ : ∃ y_ : List (List (S53)), y_ = (([y346, y355] : List (List (S53)))) := ⟨_, rfl⟩
    replace H : (if y337.length + y358.length < 5864062014805 then ((impl_structNode.f k a0 (y337 ++ y358)).bind fun t364 => (some t364)) else (none)) = some r := by first | (rw [hy358]; with_reducible exact H) | (have H2_ := (Option.bind_some _ _).symm.trans H; rw [hy358]; with_reducible exact H2_) | (have H2_ := (Option.bind_some _ _).symm.trans H; with_reducible exact H2_) | with_reducible exact H | (rw [hy358]; exact H) | exact H
    have Ny358 := Aside0.mk hy358
    clear hy358
    by_cases c10 : y337.length + y358.length < 5864062014805
    · rw [if_pos c10] at H
      have LMc10 := Aside0.mk c10
      clear c10
      obtain ⟨y361, hy361⟩ : ∃ y_ : List (List (S53)), y_ = (y337 ++ y358) := ⟨_, rfl⟩
      replace H : ((impl_structNode.f k a0 y361).bind fun t364 => (some t364)) = some r := by first | (rw [hy361]; with_reducible exact H) | (have H2_ := (Option.bind_some _ _).symm.trans H; rw [hy361]; with_reducible exact H2_) | (have H2_ := (Option.bind_some _ _).symm.trans H; with_reducible exact H2_) | with_reducible exact H | (rw [hy361]; exact H) | exact H
      have Ny361 := Aside0.mk hy361
      clear hy361
      replace H := Option.bind_eq_some_iff.mp H
      obtain ⟨t364, A110, H⟩ := H
      replace H : (some t364) = some r := H
      have A11 := Aside0.mk A110
      clear A110
      obtain rfl := Option.some.inj H
      go_enter Try.func118, Try.ntmps118
      try go_wp2_with (first | ((with_reducible refine gate_dst (N := 4) rfl ?_); refine box_event ?hg (N := 4) ?hd (cs := #[.int .i64 a1_0, .int .i64 a1_1, .int .i64 a1_2]) (t := 87) ?hr ?_; (case hd => rfl); (case hg => rfl); (case hr => first | (go_simp; done) | (go_simp; rfl)); intro gb327 hg w12 hbox hb; have n0_ := Aside0.mk (below_step (below_later HB.out) hb); have n1_ := Aside0.mk (hbox); have n2_ := Aside0.mk ((by rw [hg]; exact (below_size (below_later HB.out)) : w.heap.size ≤ gb327)); have n3_ := Aside0.mk ((by rw [hg]; exact (below_size (below_later HB.out)) : w.heap.size ≤ gb327)); clear HB; have HB := n0_; have BK327 := n1_; have GW327 := n2_; have GE327 := n3_; clear n0_ n1_ n2_ n3_; clear hb hbox hg) | ((with_reducible refine gate_dst (N := 5) rfl ?_); refine box_event ?hg (N := 5) ?hd (cs := #[.int .i64 a2_0, .bool true, .int .i64 a2_2, .string a2_3, .int .i64 a2_4, .string a2_5]) (t := 91) ?hr ?_; (case hd => rfl); (case hg => rfl); (case hr => first | (go_simp; done) | (go_simp; rfl)); intro gb328 hg w13 hbox hb; have n0_ := Aside0.mk (blk_below (blk_later BK327.out) hb); have n1_ := Aside0.mk (below_step (below_later HB.out) hb); have n2_ := Aside0.mk (hbox); have n3_ := Aside0.mk ((by rw [hg]; exact (below_size (below_later HB.out)) : w.heap.size ≤ gb328)); have n4_ := Aside0.mk ((by rw [hg]; exact (below_size (below_later HB.out)) : w.heap.size ≤ gb328)); have n5_ := Aside0.mk ((by rw [hg]; exact Nat.ne_of_lt (blk_lt (blk_later BK327.out)) : gb327 ≠ gb328)); have n6_ := Aside0.mk ((by rw [hg]; exact Nat.ne_of_gt (blk_lt (blk_later BK327.out)) : gb328 ≠ gb327)); clear BK327; clear HB; have BK327 := n0_; have HB := n1_; have BK328 := n2_; have GW328 := n3_; have GE328 := n4_; have NB327_328 := n5_; have NB328_327 := n6_; clear n0_ n1_ n2_ n3_ n4_ n5_ n6_; clear hb hbox hg; have hnb14 := NB328_327.out; have hnc14 := NB327_328.out; have hcz15_0 : w13.cell? ⟨gb328, 0, none⟩ = some (.int .i64 a2_0) := (blk_cell BK328.out 0).trans rfl; have hcz15_1 : w13.cell? ⟨gb328, 1, none⟩ = some (.bool true) := (blk_cell BK328.out 1).trans rfl; have hcz15_2 : w13.cell? ⟨gb328, 2, none⟩ = some (.int .i64 a2_2) := (blk_cell BK328.out 2).trans rfl; have hcz15_3 : w13.cell? ⟨gb328, 3, none⟩ = some (.string a2_3) := (blk_cell BK328.out 3).trans rfl; have hcz15_4 : w13.cell? ⟨gb328, 4, none⟩ = some (.int .i64 a2_4) := (blk_cell BK328.out 4).trans rfl; have hcz15_5 : w13.cell? ⟨gb328, 5, none⟩ = some (.string a2_5) := (blk_cell BK328.out 5).trans rfl; have hfz15_0 := blk_frozen BK328.out 0; have hfz15_1 := blk_frozen BK328.out 1; have hfz15_2 := blk_frozen BK328.out 2; have hfz15_3 := blk_frozen BK328.out 3; have hfz15_4 := blk_frozen BK328.out 4; have hfz15_5 := blk_frozen BK328.out 5) | ((with_reducible refine gate_callee (f := 183) rfl ?_); refine goesL_ (some 10) rfl rfl Try.func183 (by kernel_rfl) rfl #[.int .i64 3, .int .i64 a2_0] rfl (by (try simp only [List.map_toArray, List.map_cons, List.map_nil]); first | done | rfl | (simp only [List.length_drop, List.length_take]; rfl)) ?_; (with_reducible refine (impl_longNode.calls 3 a2_0 t329 t330 t331 t332 t333 _ A4.out).mono ?_); rintro e w16 ⟨rfl, hb⟩; refine ⟨_, rfl, ?_⟩; have n0_ := Aside0.mk (blk_below (blk_later BK327.out) hb); have n1_ := Aside0.mk (blk_below (blk_later BK328.out) hb); have n2_ := Aside0.mk (below_step (below_later HB.out) hb); clear BK327; clear BK328; clear HB; have BK327 := n0_; have BK328 := n1_; have HB := n2_; clear n0_ n1_ n2_; (try clear hb); (try clear hb2); (try clear hk); (try clear hi)) | ((with_reducible refine gate_dst (N := 11) rfl ?_); refine Kd.R_lit k53 _ 53 ?hg (N := 11) ?hd (xs := ([(⟨t329, t330, t331, t332, t333⟩ : S53)] : List (S53))) (inner := [.int .i64 t329, .int .i64 t330, .int .i64 t331, .string t332, .int .i64 t333]) (ok := fun _ => True) (okp := fun _ => True) ?hr ?hp (fun _ hk => hk) trivial (Below.refl _ _) (Nat.le_refl _) (by simp) ?_; (case hd => rfl); (case hg => rfl); (case hr => first | (go_simp; done) | (go_simp; rfl)); (case hp => exact (Reps.c5 (show Kd.M k53 _ _ _ (⟨t329, t330, t331, t332, t333⟩ : S53) [.int .i64 t329, .int .i64 t330, .int .i64 t331, .string t332, .int .i64 t333] from (k53_mkM _ _ _ (⟨t329, t330, t331, t332, t333⟩ : S53) )) (Reps.none _ _))); intro v335 w17 ho18 hb hg_ hnew_; clear hg_ hnew_; (first | rw [← Ny334.out] at ho18 | (simp only [Int.reduceToNat] at ho18; rw [← Ny334.out] at ho18)); have n0_ := Aside0.mk (Kd.R_lower ho18 (below_size (below_later HB.out))); have n1_ := Aside0.mk (blk_below (blk_later BK327.out) hb); have n2_ := Aside0.mk (blk_below (blk_later BK328.out) hb); have n3_ := Aside0.mk (below_step (below_later HB.out) hb); clear BK327; clear BK328; clear HB; have HO336 := n0_; have BK327 := n1_; have BK328 := n2_; have HB := n3_; clear n0_ n1_ n2_ n3_; clear hb ho18; obtain ⟨Ao19, co19, eo19⟩ := Kd.R_slice HO336.out; subst eo19) | ((with_reducible refine gate_dst (N := 12) rfl ?_); refine Kd.N_lit (Kd.slice 53 k53) _ 47 ?hg (N' := 12) ?hd (xs := ([y334] : List (List (S53)))) (inner := [.slice Ao19 y334.length co19]) (ok := (fun k_ => k_ ≠ gb327 ∧ k_ ≠ gb328)) (okp := (fun k_ => k_ ≠ gb327 ∧ k_ ≠ gb328)) ?hr ?hp (fun _ hk => hk) ((show ∀ k_, w17.heap.size ≤ k_ → (fun k_ => k_ ≠ gb327 ∧ k_ ≠ gb328) k_ from fun k_ hk => ⟨Kd.freshB (blk_later BK327.out) k_ hk, Kd.freshB (blk_later BK328.out) k_ hk⟩) _ (Nat.le_refl _)) (Below.refl _ _) (Nat.le_refl _) (by simp) ?_; (case hd => rfl); (case hg => rfl); (case hr => first | (go_simp; done) | (go_simp; rfl)); (case hp => exact (Reps.one (show Kd.FK (Kd.slice 53 k53) _ _ y334 [.slice Ao19 y334.length co19] from (Kd.FK_slice_mk (Kd.R_reads' (Kd.R_mono (ok' := (fun k_ => k_ ≠ gb327 ∧ k_ ≠ gb328)) (Kd.R_types (Kd.R_types (HO336.out) BK327.out (by decide)) BK328.out (by decide)) (fun k_ hk => ⟨hk.1.2, hk.2⟩))).2.1 (Kd.R_F (Kd.R_mono (ok' := (fun k_ => k_ ≠ gb327 ∧ k_ ≠ gb328)) (Kd.R_types (Kd.R_types (HO336.out) BK327.out (by decide)) BK328.out (by decide)) (fun k_ hk => ⟨hk.1.2, hk.2⟩))))) (Reps.none _ _))); intro v338 w20 ho21 hb hg_ hnew_; clear hg_ hnew_; (first | rw [← Ny337.out] at ho21 | (simp only [Int.reduceToNat] at ho21; rw [← Ny337.out] at ho21)); have n0_ := Aside0.mk (Kd.N_lower ho21 (below_size (below_later HB.out))); have n1_ := Aside0.mk (blk_below (blk_later BK327.out) hb); have n2_ := Aside0.mk (blk_below (blk_later BK328.out) hb); have n3_ := Aside0.mk (below_step (below_later HB.out) hb); clear BK327; clear BK328; clear HB; clear HO336; have HO339 := n0_; have BK327 := n1_; have BK328 := n2_; have HB := n3_; clear n0_ n1_ n2_ n3_; clear hb ho21; have hcz22_0 : w20.cell? ⟨gb328, 0, none⟩ = some (.int .i64 a2_0) := (blk_cell BK328.out 0).trans rfl; have hcz22_1 : w20.cell? ⟨gb328, 1, none⟩ = some (.bool true) := (blk_cell BK328.out 1).trans rfl; have hcz22_2 : w20.cell? ⟨gb328, 2, none⟩ = some (.int .i64 a2_2) := (blk_cell BK328.out 2).trans rfl; have hcz22_3 : w20.cell? ⟨gb328, 3, none⟩ = some (.string a2_3) := (blk_cell BK328.out 3).trans rfl; have hcz22_4 : w20.cell? ⟨gb328, 4, none⟩ = some (.int .i64 a2_4) := (blk_cell BK328.out 4).trans rfl; have hcz22_5 : w20.cell? ⟨gb328, 5, none⟩ = some (.string a2_5) := (blk_cell BK328.out 5).trans rfl; have hfz22_0 := blk_frozen BK328.out 0; have hfz22_1 := blk_frozen BK328.out 1; have hfz22_2 := blk_frozen BK328.out 2; have hfz22_3 := blk_frozen BK328.out 3; have hfz22_4 := blk_frozen BK328.out 4; have hfz22_5 := blk_frozen BK328.out 5; obtain ⟨Ao23, co23, eo23⟩ := Kd.N_slice HO339.out; subst eo23))
      have n0_ := Aside0.mk (Kd.N_drew HO339.out)
      have n1_ := Aside0.mk (blk_drew BK327.out)
      have n2_ := Aside0.mk (blk_drew BK328.out)
      have n3_ := Aside0.mk (below_drew1 HB.out)
      clear HO339
      clear BK327
      clear BK328
      clear HB
      have HO339 := n0_
      have BK327 := n1_
      have BK328 := n2_
      have HB := n3_
      clear n0_ n1_ n2_ n3_
      refine start_ (n := 18) (S := fun w' => w'.cell? ⟨gb327, 0, none⟩ = some (.int .i64 a1_0) ∧ w'.cell? ⟨gb327, 1, none⟩ = some (.int .i64 a1_1) ∧ w'.cell? ⟨gb327, 2, none⟩ = some (.int .i64 a1_2) ∧ w'.cell? ⟨gb328, 0, none⟩ = some (.int .i64 a2_0) ∧ w'.cell? ⟨gb328, 1, none⟩ = some (.bool true) ∧ w'.cell? ⟨gb328, 2, none⟩ = some (.int .i64 a2_2) ∧ w'.cell? ⟨gb328, 3, none⟩ = some (.string a2_3) ∧ w'.cell? ⟨gb328, 4, none⟩ = some (.int .i64 a2_4) ∧ w'.cell? ⟨gb328, 5, none⟩ = some (.string a2_5)) (ds := []) #[false, false, false, false, false, false, false, false, false, false, false, false, false, false, false, false, false, false] (by kernel_rfl) rfl rfl ⟨(blk_cell BK327.out 0).trans rfl, (blk_cell BK327.out 1).trans rfl, (blk_cell BK327.out 2).trans rfl, (blk_cell BK328.out 0).trans rfl, (blk_cell BK328.out 1).trans rfl, (blk_cell BK328.out 2).trans rfl, (blk_cell BK328.out 3).trans rfl, (blk_cell BK328.out 4).trans rfl, (blk_cell BK328.out 5).trans rfl⟩ (fun hHeld => ?_); refine with_tabW impl_statsNodes.tab3 impl_statsNodes.bits3 (fun HT_ HW_ => ?_)
      generalize w20.drew = w24 at HO339 BK327 BK328 HB hHeld ⊢
      refine pure_ (i := 0) (N := some 15) (v := ?_) (a' := ?_) #[true, false, false, false, false, false, false, false, false, false, false, false, false, false, false, false, false, false] rfl rfl (any_of HT_.out (by kernel_rfl)) (fun _ _ _ h => h) (Or.inl ⟨by rfl, ?_⟩) ?_ ?_
      rotate_left
      · intro w'
        go_simp
        with_reducible rfl
      rotate_left
      · simp only [Act.put, List.setIfInBounds_toArray, List.set_cons_zero, List.set_cons_succ, i64_w, i32_w]
        rfl
      refine pure_ (i := 1) (N := some 16) (v := ?_) (a' := ?_) #[true, true, false, false, false, false, false, false, false, false, false, false, false, false, false, false, false, false] rfl rfl (any_of HT_.out (by kernel_rfl)) (fun _ _ _ h => h) (Or.inl ⟨by rfl, ?_⟩) ?_ ?_
      rotate_left
      · intro w'
        go_simp
        with_reducible rfl
      rotate_left
      · simp only [Act.put, List.setIfInBounds_toArray, List.set_cons_zero, List.set_cons_succ, i64_w, i32_w]
        rfl
      refine pure_ (i := 3) (N := some 18) (v := ?_) (a' := ?_) #[true, true, false, true, false, false, false, false, false, false, false, false, false, false, false, false, false, false] rfl rfl (any_of HT_.out (by kernel_rfl)) (fun _ _ _ h => h) (Or.inl ⟨by rfl, ?_⟩) ?_ ?_
      rotate_left
      · intro w'
        go_simp
        with_reducible rfl
      rotate_left
      · simp only [Act.put, List.setIfInBounds_toArray, List.set_cons_zero, List.set_cons_succ, i64_w, i32_w]
        rfl
      refine pure_ (i := 8) (N := some 23) (v := ?_) (a' := ?_) #[true, true, false, true, false, false, false, false, true, false, false, false, false, false, false, false, false, false] rfl rfl (any_of HT_.out (by kernel_rfl)) (fun _ _ _ h => h) (Or.inl ⟨by rfl, ?_⟩) ?_ ?_
      rotate_left
      · intro w'
        go_simp
        with_reducible rfl
      rotate_left
      · simp only [Act.put, List.setIfInBounds_toArray, List.set_cons_zero, List.set_cons_succ, i64_w, i32_w]
        rfl
      refine pure_ (i := 10) (N := some 25) (v := ?_) (a' := ?_) #[true, true, false, true, false, false, false, false, true, false, true, false, false, false, false, false, false, false] rfl rfl (any_of HT_.out (by kernel_rfl)) (fun _ _ _ h => h) (Or.inl ⟨by rfl, ?_⟩) ?_ ?_
      rotate_left
      · intro w'
        go_simp
        with_reducible rfl
      rotate_left
      · simp only [Act.put, List.setIfInBounds_toArray, List.set_cons_zero, List.set_cons_succ, i64_w, i32_w]
        rfl
      refine take_ (i := 2) (N := some 17) (v := ?_) (a' := ?_) #[true, true, true, true, false, false, false, false, true, false, true, false, false, false, false, false, false, false] rfl rfl (take_ofW HT_.out HW_.out (by kernel_rfl)) (fun _ _ _ h => h) (Or.inl ⟨by rfl, ?_⟩) hHeld ?_ ?_
      rotate_left
      · rintro w' ⟨s0, s1, s2, s3, s4, s5, s6, s7, s8⟩
        go_simp
        with_reducible rfl
      rotate_left
      · simp only [Act.put, List.setIfInBounds_toArray, List.set_cons_zero, List.set_cons_succ, i64_w, i32_w]
        rfl
      refine take_ (i := 4) (N := some 19) (v := ?_) (a' := ?_) #[true, true, true, true, true, false, false, false, true, false, true, false, false, false, false, false, false, false] rfl rfl (take_ofW HT_.out HW_.out (by kernel_rfl)) (fun _ _ _ h => h) (Or.inl ⟨by rfl, ?_⟩) hHeld ?_ ?_
      rotate_left
      · rintro w' ⟨s0, s1, s2, s3, s4, s5, s6, s7, s8⟩
        go_simp
        with_reducible rfl
      rotate_left
      · simp only [Act.put, List.setIfInBounds_toArray, List.set_cons_zero, List.set_cons_succ, i64_w, i32_w]
        rfl
      refine take_ (i := 9) (N := some 24) (v := ?_) (a' := ?_) #[true, true, true, true, true, false, false, false, true, true, true, false, false, false, false, false, false, false] rfl rfl (take_ofW HT_.out HW_.out (by kernel_rfl)) (fun _ _ _ h => h) (Or.inl ⟨by rfl, ?_⟩) hHeld ?_ ?_
      rotate_left
      · rintro w' ⟨s0, s1, s2, s3, s4, s5, s6, s7, s8⟩
        go_simp
        with_reducible rfl
      rotate_left
      · simp only [Act.put, List.setIfInBounds_toArray, List.set_cons_zero, List.set_cons_succ, i64_w, i32_w]
        rfl
      refine take_ (i := 11) (N := some 26) (v := ?_) (a' := ?_) #[true, true, true, true, true, false, false, false, true, true, true, true, false, false, false, false, false, false] rfl rfl (take_ofW HT_.out HW_.out (by kernel_rfl)) (fun _ _ _ h => h) (Or.inl ⟨by rfl, ?_⟩) hHeld ?_ ?_
      rotate_left
      · rintro w' ⟨s0, s1, s2, s3, s4, s5, s6, s7, s8⟩
        go_simp
        with_reducible rfl
      rotate_left
      · simp only [Act.put, List.setIfInBounds_toArray, List.set_cons_zero, List.set_cons_succ, i64_w, i32_w]
        rfl
      refine one_ (i := 5) (N := some 20) #[true, true, true, true, true, true, false, false, true, true, true, true, false, false, false, false, false, false] rfl rfl (one_of HT_.out (by kernel_rfl)) (by decide) (fun K hK => ?_)
      refine goes_ Try.func185 (by kernel_rfl) rfl #[.int .i64 a1_0, .agg #[.int .i64 a2_4, .string a2_5]] (by rfl) rfl rfl (by (try simp only [List.map_toArray, List.map_cons, List.map_nil]); first | done | rfl | (simp only [List.length_drop, List.length_take]; rfl)) ?_
      with_reducible refine (impl_statText.calls k a1_0 a2_4 a2_5 t340 _ A6.out).mono ?_
      rintro e w25 ⟨rfl, hb⟩
      refine ⟨_, rfl, ?_⟩
      have n0_ := Aside0.mk (Kd.N_below (by (with_reducible repeat (first | apply Kd.N_alloc | apply Kd.N_drewN | apply Kd.N_drew)); exact HO339.out) hb)
      have n1_ := Aside0.mk (blk_below (blk_later BK327.out) hb)
      have n2_ := Aside0.mk (blk_below (blk_later BK328.out) hb)
      have n3_ := Aside0.mk (below_step (below_later HB.out) hb)
      clear HO339
      clear BK327
      clear BK328
      clear HB
      have HO339 := n0_
      have BK327 := n1_
      have BK328 := n2_
      have HB := n3_
      clear n0_ n1_ n2_ n3_
      (try clear hb)
      (try clear hb2)
      (try clear hk)
      (try clear hi)
      refine hK.out _ _ ⟨(blk_cell BK327.out 0).trans rfl, (blk_cell BK327.out 1).trans rfl, (blk_cell BK327.out 2).trans rfl, (blk_cell BK328.out 0).trans rfl, (blk_cell BK328.out 1).trans rfl, (blk_cell BK328.out 2).trans rfl, (blk_cell BK328.out 3).trans rfl, (blk_cell BK328.out 4).trans rfl, (blk_cell BK328.out 5).trans rfl⟩ (fun hHeld => ?_)
      clear hK K
      refine norm_ (a' := ?_) ?_ ?_
      rotate_left
      · show Act.put _ (some 20) _ = _
        simp only [Act.put, List.setIfInBounds_toArray, List.set_cons_zero, List.set_cons_succ, i64_w, i32_w]
        rfl
      refine one_ (i := 6) (N := some 21) #[true, true, true, true, true, true, true, false, true, true, true, true, false, false, false, false, false, false] rfl rfl (one_of HT_.out (by kernel_rfl)) (by decide) (fun K hK => ?_)
      refine goes_ Try.func184 (by kernel_rfl) rfl #[.int .i64 5, .string t340] (by rfl) rfl rfl (by (try simp only [List.map_toArray, List.map_cons, List.map_nil]); first | done | rfl | (simp only [List.length_drop, List.length_take]; rfl)) ?_
      with_reducible refine (impl_textNode.calls 5 t340 t341 t342 t343 t344 t345 _ A7.out).mono ?_
      rintro e w26 ⟨rfl, hb⟩
      refine ⟨_, rfl, ?_⟩
      have n0_ := Aside0.mk (Kd.N_below (by (with_reducible repeat (first | apply Kd.N_alloc | apply Kd.N_drewN | apply Kd.N_drew)); exact HO339.out) hb)
      have n1_ := Aside0.mk (blk_below (blk_later BK327.out) hb)
      have n2_ := Aside0.mk (blk_below (blk_later BK328.out) hb)
      have n3_ := Aside0.mk (below_step (below_later HB.out) hb)
      clear HO339
      clear BK327
      clear BK328
      clear HB
      have HO339 := n0_
      have BK327 := n1_
      have BK328 := n2_
      have HB := n3_
      clear n0_ n1_ n2_ n3_
      (try clear hb)
      (try clear hb2)
      (try clear hk)
      (try clear hi)
      refine hK.out _ _ ⟨(blk_cell BK327.out 0).trans rfl, (blk_cell BK327.out 1).trans rfl, (blk_cell BK327.out 2).trans rfl, (blk_cell BK328.out 0).trans rfl, (blk_cell BK328.out 1).trans rfl, (blk_cell BK328.out 2).trans rfl, (blk_cell BK328.out 3).trans rfl, (blk_cell BK328.out 4).trans rfl, (blk_cell BK328.out 5).trans rfl⟩ (fun hHeld => ?_)
      clear hK K
      refine norm_ (a' := ?_) ?_ ?_
      rotate_left
      · show Act.put _ (some 21) _ = _
        simp only [Act.put, List.setIfInBounds_toArray, List.set_cons_zero, List.set_cons_succ, i64_w, i32_w]
        rfl
      refine join_ (σ := Value × Value) 3 #[true, true, true, true, true, true, true, true, true, true, true, true, true, true, true, false, false, false] (fun s_ => [(22, s_.1), (27, .string t349), (28, .agg #[.int .i64 t350, .int .i64 t351, .int .i64 t352, .string t353, .int .i64 t354]), (29, s_.2)]) (fun s_ w' => (w'.cell? ⟨gb327, 0, none⟩ = some (.int .i64 a1_0) ∧ w'.cell? ⟨gb327, 1, none⟩ = some (.int .i64 a1_1) ∧ w'.cell? ⟨gb327, 2, none⟩ = some (.int .i64 a1_2) ∧ w'.cell? ⟨gb328, 0, none⟩ = some (.int .i64 a2_0) ∧ w'.cell? ⟨gb328, 1, none⟩ = some (.bool true) ∧ w'.cell? ⟨gb328, 2, none⟩ = some (.int .i64 a2_2) ∧ w'.cell? ⟨gb328, 3, none⟩ = some (.string a2_3) ∧ w'.cell? ⟨gb328, 4, none⟩ = some (.int .i64 a2_4) ∧ w'.cell? ⟨gb328, 5, none⟩ = some (.string a2_5)) ∧ (Kd.N (Kd.slice 53 k53) 47 w' w.heap.size (fun k_ => some k_ ≠ (s_.1 : Value).ownBlock ∧ some k_ ≠ (s_.2 : Value).ownBlock ∧ k_ ≠ gb327 ∧ k_ ≠ gb328) (.slice Ao23 y337.length co23) y337) ∧ (Kd.R k53 53 w' w.heap.size (fun k_ => some k_ ≠ (s_.2 : Value).ownBlock) s_.1 y346) ∧ (Kd.R k53 53 w' w.heap.size (fun k_ => some k_ ≠ (s_.1 : Value).ownBlock) s_.2 y355) ∧ (w'.heap[gb327]? = some (.cells #[.int .i64 a1_0, .int .i64 a1_1, .int .i64 a1_2] 87 (0, 0))) ∧ (w'.heap[gb328]? = some (.cells #[.int .i64 a2_0, .bool true, .int .i64 a2_2, .string a2_3, .int .i64 a2_4, .string a2_5] 91 (0, 0))) ∧ (Below w.heap.size w w')) ?_ ?_
      rotate_left
      · intro hCont
        refine two_ (i := 7) (j := 12) (Ni := some 22) (Nj := some 27) #[true, true, true, true, true, true, true, true, true, true, true, true, false, false, false, false, false, false] #[true, true, true, true, true, true, true, false, true, true, true, true, true, false, false, false, false, false] rfl rfl rfl rfl (two_of HT_.out (by kernel_rfl)) (by decide) (by decide) (fun K hK => ?_) (fun K hK => ?_)
        · skip
          refine Kd.R_lit_step k53 _ 53 ?hg (N := 22) ?hd (xs := ([(⟨t341, t342, t343, t344, t345⟩ : S53)] : List (S53))) (inner := [.int .i64 t341, .int .i64 t342, .int .i64 t343, .string t344, .int .i64 t345]) (ok := fun _ => True) (okp := fun _ => True) ?hr ?hp (fun _ hk => hk) trivial (Below.refl _ _) (Nat.le_refl _) (by simp) ?_; (case hd => rfl); (case hg => rfl); (case hr => first | (go_simp; done) | (go_simp; rfl)); (case hp => exact (Reps.c5 (show Kd.M k53 _ _ _ (⟨t341, t342, t343, t344, t345⟩ : S53) [.int .i64 t341, .int .i64 t342, .int .i64 t343, .string t344, .int .i64 t345] from (k53_mkM _ _ _ (⟨t341, t342, t343, t344, t345⟩ : S53) )) (Reps.none _ _)))
          intro v347 w27 ho28 hb hg_ hnew_
          clear hg_ hnew_
          (first | rw [← Ny346.out] at ho28 | (simp only [Int.reduceToNat] at ho28; rw [← Ny346.out] at ho28))
          have n0_ := Aside0.mk (Kd.N_elder' (by (with_reducible repeat (first | apply Kd.N_alloc | apply Kd.N_drewN | apply Kd.N_drew)); exact HO339.out) (Kd.R_base ho28) hb)
          have n1_ := Aside0.mk (Kd.R_lower ho28 (below_size (below_later HB.out)))
          have n2_ := Aside0.mk (blk_below (blk_later BK327.out) hb)
          have n3_ := Aside0.mk (blk_below (blk_later BK328.out) hb)
          have n4_ := Aside0.mk (below_step (below_later HB.out) hb)
          clear HO339
          clear BK327
          clear BK328
          clear HB
          have HO339 := n0_
          have HO348 := n1_
          have BK327 := n2_
          have BK328 := n3_
          have HB := n4_
          clear n0_ n1_ n2_ n3_ n4_
          clear hb ho28
          refine hK.out _ _ ⟨(blk_cell BK327.out 0).trans rfl, (blk_cell BK327.out 1).trans rfl, (blk_cell BK327.out 2).trans rfl, (blk_cell BK328.out 0).trans rfl, (blk_cell BK328.out 1).trans rfl, (blk_cell BK328.out 2).trans rfl, (blk_cell BK328.out 3).trans rfl, (blk_cell BK328.out 4).trans rfl, (blk_cell BK328.out 5).trans rfl⟩ (fun hHeld => ?_)
          clear hK K
          refine norm_ (a' := ?_) ?_ ?_
          rotate_left
          · show Act.put _ (some 22) _ = _
            simp only [Act.put, List.setIfInBounds_toArray, List.set_cons_zero, List.set_cons_succ, i64_w, i32_w]
            rfl
          refine one_ (i := 12) (N := some 27) #[true, true, true, true, true, true, true, true, true, true, true, true, true, false, false, false, false, false] rfl rfl (one_of HT_.out (by kernel_rfl)) (by decide) (fun K hK => ?_)
          refine goes_ Try.func185 (by kernel_rfl) rfl #[.int .i64 a1_0, .agg #[.int .i64 a2_2, .string a2_3]] (by rfl) rfl rfl (by (try simp only [List.map_toArray, List.map_cons, List.map_nil]); first | done | rfl | (simp only [List.length_drop, List.length_take]; rfl)) ?_
          with_reducible refine (impl_statText.calls k a1_0 a2_2 a2_3 t349 _ A8.out).mono ?_
          rintro e w29 ⟨rfl, hb⟩
          refine ⟨_, rfl, ?_⟩
          have n0_ := Aside0.mk (Kd.N_below (by (with_reducible repeat (first | apply Kd.N_alloc | apply Kd.N_drewN | apply Kd.N_drew)); exact HO339.out) hb)
          have n1_ := Aside0.mk (Kd.R_below (by (with_reducible repeat (first | apply Kd.R_alloc | apply Kd.R_drewN | apply Kd.R_drew)); exact HO348.out) hb)
          have n2_ := Aside0.mk (blk_below (blk_later BK327.out) hb)
          have n3_ := Aside0.mk (blk_below (blk_later BK328.out) hb)
          have n4_ := Aside0.mk (below_step (below_later HB.out) hb)
          clear HO339
          clear HO348
          clear BK327
          clear BK328
          clear HB
          have HO339 := n0_
          have HO348 := n1_
          have BK327 := n2_
          have BK328 := n3_
          have HB := n4_
          clear n0_ n1_ n2_ n3_ n4_
          (try clear hb)
          (try clear hb2)
          (try clear hk)
          (try clear hi)
          refine hK.out _ _ ⟨(blk_cell BK327.out 0).trans rfl, (blk_cell BK327.out 1).trans rfl, (blk_cell BK327.out 2).trans rfl, (blk_cell BK328.out 0).trans rfl, (blk_cell BK328.out 1).trans rfl, (blk_cell BK328.out 2).trans rfl, (blk_cell BK328.out 3).trans rfl, (blk_cell BK328.out 4).trans rfl, (blk_cell BK328.out 5).trans rfl⟩ (fun hHeld => ?_)
          clear hK K
          refine norm_ (a' := ?_) ?_ ?_
          rotate_left
          · show Act.put _ (some 27) _ = _
            simp only [Act.put, List.setIfInBounds_toArray, List.set_cons_zero, List.set_cons_succ, i64_w, i32_w]
            rfl
          refine one_ (i := 13) (N := some 28) #[true, true, true, true, true, true, true, true, true, true, true, true, true, true, false, false, false, false] rfl rfl (one_of HT_.out (by kernel_rfl)) (by decide) (fun K hK => ?_)
          refine goes_ Try.func184 (by kernel_rfl) rfl #[.int .i64 6, .string t349] (by rfl) rfl rfl (by (try simp only [List.map_toArray, List.map_cons, List.map_nil]); first | done | rfl | (simp only [List.length_drop, List.length_take]; rfl)) ?_
          with_reducible refine (impl_textNode.calls 6 t349 t350 t351 t352 t353 t354 _ A9.out).mono ?_
          rintro e w30 ⟨rfl, hb⟩
          refine ⟨_, rfl, ?_⟩
          have n0_ := Aside0.mk (Kd.N_below (by (with_reducible repeat (first | apply Kd.N_alloc | apply Kd.N_drewN | apply Kd.N_drew)); exact HO339.out) hb)
          have n1_ := Aside0.mk (Kd.R_below (by (with_reducible repeat (first | apply Kd.R_alloc | apply Kd.R_drewN | apply Kd.R_drew)); exact HO348.out) hb)
          have n2_ := Aside0.mk (blk_below (blk_later BK327.out) hb)
          have n3_ := Aside0.mk (blk_below (blk_later BK328.out) hb)
          have n4_ := Aside0.mk (below_step (below_later HB.out) hb)
          clear HO339
          clear HO348
          clear BK327
          clear BK328
          clear HB
          have HO339 := n0_
          have HO348 := n1_
          have BK327 := n2_
          have BK328 := n3_
          have HB := n4_
          clear n0_ n1_ n2_ n3_ n4_
          (try clear hb)
          (try clear hb2)
          (try clear hk)
          (try clear hi)
          refine hK.out _ _ ⟨(blk_cell BK327.out 0).trans rfl, (blk_cell BK327.out 1).trans rfl, (blk_cell BK327.out 2).trans rfl, (blk_cell BK328.out 0).trans rfl, (blk_cell BK328.out 1).trans rfl, (blk_cell BK328.out 2).trans rfl, (blk_cell BK328.out 3).trans rfl, (blk_cell BK328.out 4).trans rfl, (blk_cell BK328.out 5).trans rfl⟩ (fun hHeld => ?_)
          clear hK K
          refine norm_ (a' := ?_) ?_ ?_
          rotate_left
          · show Act.put _ (some 28) _ = _
            simp only [Act.put, List.setIfInBounds_toArray, List.set_cons_zero, List.set_cons_succ, i64_w, i32_w]
            rfl
          refine one_ (i := 14) (N := some 29) #[true, true, true, true, true, true, true, true, true, true, true, true, true, true, true, false, false, false] rfl rfl (one_of HT_.out (by kernel_rfl)) (by decide) (fun K hK => ?_)
          refine Kd.R_lit_step k53 _ 53 ?hg (N := 29) ?hd (xs := ([(⟨t350, t351, t352, t353, t354⟩ : S53)] : List (S53))) (inner := [.int .i64 t350, .int .i64 t351, .int .i64 t352, .string t353, .int .i64 t354]) (ok := fun _ => True) (okp := fun _ => True) ?hr ?hp (fun _ hk => hk) trivial (Below.refl _ _) (Nat.le_refl _) (by simp) ?_; (case hd => rfl); (case hg => rfl); (case hr => first | (go_simp; done) | (go_simp; rfl)); (case hp => exact (Reps.c5 (show Kd.M k53 _ _ _ (⟨t350, t351, t352, t353, t354⟩ : S53) [.int .i64 t350, .int .i64 t351, .int .i64 t352, .string t353, .int .i64 t354] from (k53_mkM _ _ _ (⟨t350, t351, t352, t353, t354⟩ : S53) )) (Reps.none _ _)))
          intro v356 w31 ho32 hb hg_ hnew_
          clear hg_ hnew_
          (first | rw [← Ny355.out] at ho32 | (simp only [Int.reduceToNat] at ho32; rw [← Ny355.out] at ho32))
          have n0_ := Aside0.mk (Kd.N_elder' (by (with_reducible repeat (first | apply Kd.N_alloc | apply Kd.N_drewN | apply Kd.N_drew)); exact HO339.out) (Kd.R_base ho32) hb)
          have n1_ := Aside0.mk (Kd.R_elder' (by (with_reducible repeat (first | apply Kd.R_alloc | apply Kd.R_drewN | apply Kd.R_drew)); exact HO348.out) (Kd.R_base ho32) hb)
          have n2_ := Aside0.mk (Kd.R_lower (Kd.R_new' ho32 (Kd.R_lt (by (with_reducible repeat (first | apply Kd.R_alloc | apply Kd.R_drewN | apply Kd.R_drew)); exact HO348.out))) (below_size (below_later HB.out)))
          have n3_ := Aside0.mk (blk_below (blk_later BK327.out) hb)
          have n4_ := Aside0.mk (blk_below (blk_later BK328.out) hb)
          have n5_ := Aside0.mk (below_step (below_later HB.out) hb)
          clear HO339
          clear HO348
          clear BK327
          clear BK328
          clear HB
          have HO339 := n0_
          have HO348 := n1_
          have HO357 := n2_
          have BK327 := n3_
          have BK328 := n4_
          have HB := n5_
          clear n0_ n1_ n2_ n3_ n4_ n5_
          clear hb ho32
          refine hK.out _ _ ⟨(blk_cell BK327.out 0).trans rfl, (blk_cell BK327.out 1).trans rfl, (blk_cell BK327.out 2).trans rfl, (blk_cell BK328.out 0).trans rfl, (blk_cell BK328.out 1).trans rfl, (blk_cell BK328.out 2).trans rfl, (blk_cell BK328.out 3).trans rfl, (blk_cell BK328.out 4).trans rfl, (blk_cell BK328.out 5).trans rfl⟩ (fun hHeld => ?_)
          clear hK K
          refine norm_ (a' := ?_) ?_ ?_
          rotate_left
          · show Act.put _ (some 29) _ = _
            simp only [Act.put, List.setIfInBounds_toArray, List.set_cons_zero, List.set_cons_succ, i64_w, i32_w]
            rfl
          exact norm_ (by simp only [putAll, Act.put, List.setIfInBounds_toArray, List.set_cons_zero, List.set_cons_succ]) (hCont (v347, v356) _ ⟨hHeld, (by (with_reducible repeat (first | apply Kd.N_alloc | apply Kd.N_drewN | apply Kd.N_drew)); exact Kd.N_mono HO339.out (fun _ hk => ⟨hk.1.2, ⟨hk.2, ⟨hk.1.1.1, hk.1.1.2⟩⟩⟩)), (by (with_reducible repeat (first | apply Kd.R_alloc | apply Kd.R_drewN | apply Kd.R_drew)); exact Kd.R_mono HO348.out (fun _ hk => hk.2)), (by (with_reducible repeat (first | apply Kd.R_alloc | apply Kd.R_drewN | apply Kd.R_drew)); exact Kd.R_mono HO357.out (fun _ hk => hk.2)), (blk_later BK327.out), (blk_later BK328.out), (below_later HB.out)⟩)
        · skip
          refine goes_ Try.func185 (by kernel_rfl) rfl #[.int .i64 a1_0, .agg #[.int .i64 a2_2, .string a2_3]] (by rfl) rfl rfl (by (try simp only [List.map_toArray, List.map_cons, List.map_nil]); first | done | rfl | (simp only [List.length_drop, List.length_take]; rfl)) ?_
          with_reducible refine (impl_statText.calls k a1_0 a2_2 a2_3 t349 _ A8.out).mono ?_
          rintro e w27 ⟨rfl, hb⟩
          refine ⟨_, rfl, ?_⟩
          have n0_ := Aside0.mk (Kd.N_below (by (with_reducible repeat (first | apply Kd.N_alloc | apply Kd.N_drewN | apply Kd.N_drew)); exact HO339.out) hb)
          have n1_ := Aside0.mk (blk_below (blk_later BK327.out) hb)
          have n2_ := Aside0.mk (blk_below (blk_later BK328.out) hb)
          have n3_ := Aside0.mk (below_step (below_later HB.out) hb)
          clear HO339
          clear BK327
          clear BK328
          clear HB
          have HO339 := n0_
          have BK327 := n1_
          have BK328 := n2_
          have HB := n3_
          clear n0_ n1_ n2_ n3_
          (try clear hb)
          (try clear hb2)
          (try clear hk)
          (try clear hi)
          refine hK.out _ _ ⟨(blk_cell BK327.out 0).trans rfl, (blk_cell BK327.out 1).trans rfl, (blk_cell BK327.out 2).trans rfl, (blk_cell BK328.out 0).trans rfl, (blk_cell BK328.out 1).trans rfl, (blk_cell BK328.out 2).trans rfl, (blk_cell BK328.out 3).trans rfl, (blk_cell BK328.out 4).trans rfl, (blk_cell BK328.out 5).trans rfl⟩ (fun hHeld => ?_)
          clear hK K
          refine norm_ (a' := ?_) ?_ ?_
          rotate_left
          · show Act.put _ (some 27) _ = _
            simp only [Act.put, List.setIfInBounds_toArray, List.set_cons_zero, List.set_cons_succ, i64_w, i32_w]
            rfl
          refine two_ (i := 7) (j := 13) (Ni := some 22) (Nj := some 28) #[true, true, true, true, true, true, true, true, true, true, true, true, true, false, false, false, false, false] #[true, true, true, true, true, true, true, false, true, true, true, true, true, true, false, false, false, false] rfl rfl rfl rfl (two_of HT_.out (by kernel_rfl)) (by decide) (by decide) (fun K hK => ?_) (fun K hK => ?_)
          · skip
            refine Kd.R_lit_step k53 _ 53 ?hg (N := 22) ?hd (xs := ([(⟨t341, t342, t343, t344, t345⟩ : S53)] : List (S53))) (inner := [.int .i64 t341, .int .i64 t342, .int .i64 t343, .string t344, .int .i64 t345]) (ok := fun _ => True) (okp := fun _ => True) ?hr ?hp (fun _ hk => hk) trivial (Below.refl _ _) (Nat.le_refl _) (by simp) ?_; (case hd => rfl); (case hg => rfl); (case hr => first | (go_simp; done) | (go_simp; rfl)); (case hp => exact (Reps.c5 (show Kd.M k53 _ _ _ (⟨t341, t342, t343, t344, t345⟩ : S53) [.int .i64 t341, .int .i64 t342, .int .i64 t343, .string t344, .int .i64 t345] from (k53_mkM _ _ _ (⟨t341, t342, t343, t344, t345⟩ : S53) )) (Reps.none _ _)))
            intro v347 w28 ho29 hb hg_ hnew_
            clear hg_ hnew_
            (first | rw [← Ny346.out] at ho29 | (simp only [Int.reduceToNat] at ho29; rw [← Ny346.out] at ho29))
            have n0_ := Aside0.mk (Kd.N_elder' (by (with_reducible repeat (first | apply Kd.N_alloc | apply Kd.N_drewN | apply Kd.N_drew)); exact HO339.out) (Kd.R_base ho29) hb)
            have n1_ := Aside0.mk (Kd.R_lower ho29 (below_size (below_later HB.out)))
            have n2_ := Aside0.mk (blk_below (blk_later BK327.out) hb)
            have n3_ := Aside0.mk (blk_below (blk_later BK328.out) hb)
            have n4_ := Aside0.mk (below_step (below_later HB.out) hb)
            clear HO339
            clear BK327
            clear BK328
            clear HB
            have HO339 := n0_
            have HO348 := n1_
            have BK327 := n2_
            have BK328 := n3_
            have HB := n4_
            clear n0_ n1_ n2_ n3_ n4_
            clear hb ho29
            refine hK.out _ _ ⟨(blk_cell BK327.out 0).trans rfl, (blk_cell BK327.out 1).trans rfl, (blk_cell BK327.out 2).trans rfl, (blk_cell BK328.out 0).trans rfl, (blk_cell BK328.out 1).trans rfl, (blk_cell BK328.out 2).trans rfl, (blk_cell BK328.out 3).trans rfl, (blk_cell BK328.out 4).trans rfl, (blk_cell BK328.out 5).trans rfl⟩ (fun hHeld => ?_)
            clear hK K
            refine norm_ (a' := ?_) ?_ ?_
            rotate_left
            · show Act.put _ (some 22) _ = _
              simp only [Act.put, List.setIfInBounds_toArray, List.set_cons_zero, List.set_cons_succ, i64_w, i32_w]
              rfl
            refine one_ (i := 13) (N := some 28) #[true, true, true, true, true, true, true, true, true, true, true, true, true, true, false, false, false, false] rfl rfl (one_of HT_.out (by kernel_rfl)) (by decide) (fun K hK => ?_)
            refine goes_ Try.func184 (by kernel_rfl) rfl #[.int .i64 6, .string t349] (by rfl) rfl rfl (by (try simp only [List.map_toArray, List.map_cons, List.map_nil]); first | done | rfl | (simp only [List.length_drop, List.length_take]; rfl)) ?_
            with_reducible refine (impl_textNode.calls 6 t349 t350 t351 t352 t353 t354 _ A9.out).mono ?_
            rintro e w30 ⟨rfl, hb⟩
            refine ⟨_, rfl, ?_⟩
            have n0_ := Aside0.mk (Kd.N_below (by (with_reducible repeat (first | apply Kd.N_alloc | apply Kd.N_drewN | apply Kd.N_drew)); exact HO339.out) hb)
            have n1_ := Aside0.mk (Kd.R_below (by (with_reducible repeat (first | apply Kd.R_alloc | apply Kd.R_drewN | apply Kd.R_drew)); exact HO348.out) hb)
            have n2_ := Aside0.mk (blk_below (blk_later BK327.out) hb)
            have n3_ := Aside0.mk (blk_below (blk_later BK328.out) hb)
            have n4_ := Aside0.mk (below_step (below_later HB.out) hb)
            clear HO339
            clear HO348
            clear BK327
            clear BK328
            clear HB
            have HO339 := n0_
            have HO348 := n1_
            have BK327 := n2_
            have BK328 := n3_
            have HB := n4_
            clear n0_ n1_ n2_ n3_ n4_
            (try clear hb)
            (try clear hb2)
            (try clear hk)
            (try clear hi)
            refine hK.out _ _ ⟨(blk_cell BK327.out 0).trans rfl, (blk_cell BK327.out 1).trans rfl, (blk_cell BK327.out 2).trans rfl, (blk_cell BK328.out 0).trans rfl, (blk_cell BK328.out 1).trans rfl, (blk_cell BK328.out 2).trans rfl, (blk_cell BK328.out 3).trans rfl, (blk_cell BK328.out 4).trans rfl, (blk_cell BK328.out 5).trans rfl⟩ (fun hHeld => ?_)
            clear hK K
            refine norm_ (a' := ?_) ?_ ?_
            rotate_left
            · show Act.put _ (some 28) _ = _
              simp only [Act.put, List.setIfInBounds_toArray, List.set_cons_zero, List.set_cons_succ, i64_w, i32_w]
              rfl
            refine one_ (i := 14) (N := some 29) #[true, true, true, true, true, true, true, true, true, true, true, true, true, true, true, false, false, false] rfl rfl (one_of HT_.out (by kernel_rfl)) (by decide) (fun K hK => ?_)
            refine Kd.R_lit_step k53 _ 53 ?hg (N := 29) ?hd (xs := ([(⟨t350, t351, t352, t353, t354⟩ : S53)] : List (S53))) (inner := [.int .i64 t350, .int .i64 t351, .int .i64 t352, .string t353, .int .i64 t354]) (ok := fun _ => True) (okp := fun _ => True) ?hr ?hp (fun _ hk => hk) trivial (Below.refl _ _) (Nat.le_refl _) (by simp) ?_; (case hd => rfl); (case hg => rfl); (case hr => first | (go_simp; done) | (go_simp; rfl)); (case hp => exact (Reps.c5 (show Kd.M k53 _ _ _ (⟨t350, t351, t352, t353, t354⟩ : S53) [.int .i64 t350, .int .i64 t351, .int .i64 t352, .string t353, .int .i64 t354] from (k53_mkM _ _ _ (⟨t350, t351, t352, t353, t354⟩ : S53) )) (Reps.none _ _)))
            intro v356 w31 ho32 hb hg_ hnew_
            clear hg_ hnew_
            (first | rw [← Ny355.out] at ho32 | (simp only [Int.reduceToNat] at ho32; rw [← Ny355.out] at ho32))
            have n0_ := Aside0.mk (Kd.N_elder' (by (with_reducible repeat (first | apply Kd.N_alloc | apply Kd.N_drewN | apply Kd.N_drew)); exact HO339.out) (Kd.R_base ho32) hb)
            have n1_ := Aside0.mk (Kd.R_elder' (by (with_reducible repeat (first | apply Kd.R_alloc | apply Kd.R_drewN | apply Kd.R_drew)); exact HO348.out) (Kd.R_base ho32) hb)
            have n2_ := Aside0.mk (Kd.R_lower (Kd.R_new' ho32 (Kd.R_lt (by (with_reducible repeat (first | apply Kd.R_alloc | apply Kd.R_drewN | apply Kd.R_drew)); exact HO348.out))) (below_size (below_later HB.out)))
            have n3_ := Aside0.mk (blk_below (blk_later BK327.out) hb)
            have n4_ := Aside0.mk (blk_below (blk_later BK328.out) hb)
            have n5_ := Aside0.mk (below_step (below_later HB.out) hb)
            clear HO339
            clear HO348
            clear BK327
            clear BK328
            clear HB
            have HO339 := n0_
            have HO348 := n1_
            have HO357 := n2_
            have BK327 := n3_
            have BK328 := n4_
            have HB := n5_
            clear n0_ n1_ n2_ n3_ n4_ n5_
            clear hb ho32
            refine hK.out _ _ ⟨(blk_cell BK327.out 0).trans rfl, (blk_cell BK327.out 1).trans rfl, (blk_cell BK327.out 2).trans rfl, (blk_cell BK328.out 0).trans rfl, (blk_cell BK328.out 1).trans rfl, (blk_cell BK328.out 2).trans rfl, (blk_cell BK328.out 3).trans rfl, (blk_cell BK328.out 4).trans rfl, (blk_cell BK328.out 5).trans rfl⟩ (fun hHeld => ?_)
            clear hK K
            refine norm_ (a' := ?_) ?_ ?_
            rotate_left
            · show Act.put _ (some 29) _ = _
              simp only [Act.put, List.setIfInBounds_toArray, List.set_cons_zero, List.set_cons_succ, i64_w, i32_w]
              rfl
            exact norm_ (by simp only [putAll, Act.put, List.setIfInBounds_toArray, List.set_cons_zero, List.set_cons_succ]) (hCont (v347, v356) _ ⟨hHeld, (by (with_reducible repeat (first | apply Kd.N_alloc | apply Kd.N_drewN | apply Kd.N_drew)); exact Kd.N_mono HO339.out (fun _ hk => ⟨hk.1.2, ⟨hk.2, ⟨hk.1.1.1, hk.1.1.2⟩⟩⟩)), (by (with_reducible repeat (first | apply Kd.R_alloc | apply Kd.R_drewN | apply Kd.R_drew)); exact Kd.R_mono HO348.out (fun _ hk => hk.2)), (by (with_reducible repeat (first | apply Kd.R_alloc | apply Kd.R_drewN | apply Kd.R_drew)); exact Kd.R_mono HO357.out (fun _ hk => hk.2)), (blk_later BK327.out), (blk_later BK328.out), (below_later HB.out)⟩)
          · skip
            refine goes_ Try.func184 (by kernel_rfl) rfl #[.int .i64 6, .string t349] (by rfl) rfl rfl (by (try simp only [List.map_toArray, List.map_cons, List.map_nil]); first | done | rfl | (simp only [List.length_drop, List.length_take]; rfl)) ?_
            with_reducible refine (impl_textNode.calls 6 t349 t350 t351 t352 t353 t354 _ A9.out).mono ?_
            rintro e w28 ⟨rfl, hb⟩
            refine ⟨_, rfl, ?_⟩
            have n0_ := Aside0.mk (Kd.N_below (by (with_reducible repeat (first | apply Kd.N_alloc | apply Kd.N_drewN | apply Kd.N_drew)); exact HO339.out) hb)
            have n1_ := Aside0.mk (blk_below (blk_later BK327.out) hb)
            have n2_ := Aside0.mk (blk_below (blk_later BK328.out) hb)
            have n3_ := Aside0.mk (below_step (below_later HB.out) hb)
            clear HO339
            clear BK327
            clear BK328
            clear HB
            have HO339 := n0_
            have BK327 := n1_
            have BK328 := n2_
            have HB := n3_
            clear n0_ n1_ n2_ n3_
            (try clear hb)
            (try clear hb2)
            (try clear hk)
            (try clear hi)
            refine hK.out _ _ ⟨(blk_cell BK327.out 0).trans rfl, (blk_cell BK327.out 1).trans rfl, (blk_cell BK327.out 2).trans rfl, (blk_cell BK328.out 0).trans rfl, (blk_cell BK328.out 1).trans rfl, (blk_cell BK328.out 2).trans rfl, (blk_cell BK328.out 3).trans rfl, (blk_cell BK328.out 4).trans rfl, (blk_cell BK328.out 5).trans rfl⟩ (fun hHeld => ?_)
            clear hK K
            refine norm_ (a' := ?_) ?_ ?_
            rotate_left
            · show Act.put _ (some 28) _ = _
              simp only [Act.put, List.setIfInBounds_toArray, List.set_cons_zero, List.set_cons_succ, i64_w, i32_w]
              rfl
            refine two_ (i := 7) (j := 14) (Ni := some 22) (Nj := some 29) #[true, true, true, true, true, true, true, true, true, true, true, true, true, true, false, false, false, false] #[true, true, true, true, true, true, true, false, true, true, true, true, true, true, true, false, false, false] rfl rfl rfl rfl (two_of HT_.out (by kernel_rfl)) (by decide) (by decide) (fun K hK => ?_) (fun K hK => ?_)
            · skip
              refine Kd.R_lit_step k53 _ 53 ?hg (N := 22) ?hd (xs := ([(⟨t341, t342, t343, t344, t345⟩ : S53)] : List (S53))) (inner := [.int .i64 t341, .int .i64 t342, .int .i64 t343, .string t344, .int .i64 t345]) (ok := fun _ => True) (okp := fun _ => True) ?hr ?hp (fun _ hk => hk) trivial (Below.refl _ _) (Nat.le_refl _) (by simp) ?_; (case hd => rfl); (case hg => rfl); (case hr => first | (go_simp; done) | (go_simp; rfl)); (case hp => exact (Reps.c5 (show Kd.M k53 _ _ _ (⟨t341, t342, t343, t344, t345⟩ : S53) [.int .i64 t341, .int .i64 t342, .int .i64 t343, .string t344, .int .i64 t345] from (k53_mkM _ _ _ (⟨t341, t342, t343, t344, t345⟩ : S53) )) (Reps.none _ _)))
              intro v347 w29 ho30 hb hg_ hnew_
              clear hg_ hnew_
              (first | rw [← Ny346.out] at ho30 | (simp only [Int.reduceToNat] at ho30; rw [← Ny346.out] at ho30))
              have n0_ := Aside0.mk (Kd.N_elder' (by (with_reducible repeat (first | apply Kd.N_alloc | apply Kd.N_drewN | apply Kd.N_drew)); exact HO339.out) (Kd.R_base ho30) hb)
              have n1_ := Aside0.mk (Kd.R_lower ho30 (below_size (below_later HB.out)))
              have n2_ := Aside0.mk (blk_below (blk_later BK327.out) hb)
              have n3_ := Aside0.mk (blk_below (blk_later BK328.out) hb)
              have n4_ := Aside0.mk (below_step (below_later HB.out) hb)
              clear HO339
              clear BK327
              clear BK328
              clear HB
              have HO339 := n0_
              have HO348 := n1_
              have BK327 := n2_
              have BK328 := n3_
              have HB := n4_
              clear n0_ n1_ n2_ n3_ n4_
              clear hb ho30
              refine hK.out _ _ ⟨(blk_cell BK327.out 0).trans rfl, (blk_cell BK327.out 1).trans rfl, (blk_cell BK327.out 2).trans rfl, (blk_cell BK328.out 0).trans rfl, (blk_cell BK328.out 1).trans rfl, (blk_cell BK328.out 2).trans rfl, (blk_cell BK328.out 3).trans rfl, (blk_cell BK328.out 4).trans rfl, (blk_cell BK328.out 5).trans rfl⟩ (fun hHeld => ?_)
              clear hK K
              refine norm_ (a' := ?_) ?_ ?_
              rotate_left
              · show Act.put _ (some 22) _ = _
                simp only [Act.put, List.setIfInBounds_toArray, List.set_cons_zero, List.set_cons_succ, i64_w, i32_w]
                rfl
              refine one_ (i := 14) (N := some 29) #[true, true, true, true, true, true, true, true, true, true, true, true, true, true, true, false, false, false] rfl rfl (one_of HT_.out (by kernel_rfl)) (by decide) (fun K hK => ?_)
              refine Kd.R_lit_step k53 _ 53 ?hg (N := 29) ?hd (xs := ([(⟨t350, t351, t352, t353, t354⟩ : S53)] : List (S53))) (inner := [.int .i64 t350, .int .i64 t351, .int .i64 t352, .string t353, .int .i64 t354]) (ok := fun _ => True) (okp := fun _ => True) ?hr ?hp (fun _ hk => hk) trivial (Below.refl _ _) (Nat.le_refl _) (by simp) ?_; (case hd => rfl); (case hg => rfl); (case hr => first | (go_simp; done) | (go_simp; rfl)); (case hp => exact (Reps.c5 (show Kd.M k53 _ _ _ (⟨t350, t351, t352, t353, t354⟩ : S53) [.int .i64 t350, .int .i64 t351, .int .i64 t352, .string t353, .int .i64 t354] from (k53_mkM _ _ _ (⟨t350, t351, t352, t353, t354⟩ : S53) )) (Reps.none _ _)))
              intro v356 w31 ho32 hb hg_ hnew_
              clear hg_ hnew_
              (first | rw [← Ny355.out] at ho32 | (simp only [Int.reduceToNat] at ho32; rw [← Ny355.out] at ho32))
              have n0_ := Aside0.mk (Kd.N_elder' (by (with_reducible repeat (first | apply Kd.N_alloc | apply Kd.N_drewN | apply Kd.N_drew)); exact HO339.out) (Kd.R_base ho32) hb)
              have n1_ := Aside0.mk (Kd.R_elder' (by (with_reducible repeat (first | apply Kd.R_alloc | apply Kd.R_drewN | apply Kd.R_drew)); exact HO348.out) (Kd.R_base ho32) hb)
              have n2_ := Aside0.mk (Kd.R_lower (Kd.R_new' ho32 (Kd.R_lt (by (with_reducible repeat (first | apply Kd.R_alloc | apply Kd.R_drewN | apply Kd.R_drew)); exact HO348.out))) (below_size (below_later HB.out)))
              have n3_ := Aside0.mk (blk_below (blk_later BK327.out) hb)
              have n4_ := Aside0.mk (blk_below (blk_later BK328.out) hb)
              have n5_ := Aside0.mk (below_step (below_later HB.out) hb)
              clear HO339
              clear HO348
              clear BK327
              clear BK328
              clear HB
              have HO339 := n0_
              have HO348 := n1_
              have HO357 := n2_
              have BK327 := n3_
              have BK328 := n4_
              have HB := n5_
              clear n0_ n1_ n2_ n3_ n4_ n5_
              clear hb ho32
              refine hK.out _ _ ⟨(blk_cell BK327.out 0).trans rfl, (blk_cell BK327.out 1).trans rfl, (blk_cell BK327.out 2).trans rfl, (blk_cell BK328.out 0).trans rfl, (blk_cell BK328.out 1).trans rfl, (blk_cell BK328.out 2).trans rfl, (blk_cell BK328.out 3).trans rfl, (blk_cell BK328.out 4).trans rfl, (blk_cell BK328.out 5).trans rfl⟩ (fun hHeld => ?_)
              clear hK K
              refine norm_ (a' := ?_) ?_ ?_
              rotate_left
              · show Act.put _ (some 29) _ = _
                simp only [Act.put, List.setIfInBounds_toArray, List.set_cons_zero, List.set_cons_succ, i64_w, i32_w]
                rfl
              exact norm_ (by simp only [putAll, Act.put, List.setIfInBounds_toArray, List.set_cons_zero, List.set_cons_succ]) (hCont (v347, v356) _ ⟨hHeld, (by (with_reducible repeat (first | apply Kd.N_alloc | apply Kd.N_drewN | apply Kd.N_drew)); exact Kd.N_mono HO339.out (fun _ hk => ⟨hk.1.2, ⟨hk.2, ⟨hk.1.1.1, hk.1.1.2⟩⟩⟩)), (by (with_reducible repeat (first | apply Kd.R_alloc | apply Kd.R_drewN | apply Kd.R_drew)); exact Kd.R_mono HO348.out (fun _ hk => hk.2)), (by (with_reducible repeat (first | apply Kd.R_alloc | apply Kd.R_drewN | apply Kd.R_drew)); exact Kd.R_mono HO357.out (fun _ hk => hk.2)), (blk_later BK327.out), (blk_later BK328.out), (below_later HB.out)⟩)
            · skip
              refine Kd.R_lit_step k53 _ 53 ?hg (N := 29) ?hd (xs := ([(⟨t350, t351, t352, t353, t354⟩ : S53)] : List (S53))) (inner := [.int .i64 t350, .int .i64 t351, .int .i64 t352, .string t353, .int .i64 t354]) (ok := fun _ => True) (okp := fun _ => True) ?hr ?hp (fun _ hk => hk) trivial (Below.refl _ _) (Nat.le_refl _) (by simp) ?_; (case hd => rfl); (case hg => rfl); (case hr => first | (go_simp; done) | (go_simp; rfl)); (case hp => exact (Reps.c5 (show Kd.M k53 _ _ _ (⟨t350, t351, t352, t353, t354⟩ : S53) [.int .i64 t350, .int .i64 t351, .int .i64 t352, .string t353, .int .i64 t354] from (k53_mkM _ _ _ (⟨t350, t351, t352, t353, t354⟩ : S53) )) (Reps.none _ _)))
              intro v356 w29 ho30 hb hg_ hnew_
              clear hg_ hnew_
              (first | rw [← Ny355.out] at ho30 | (simp only [Int.reduceToNat] at ho30; rw [← Ny355.out] at ho30))
              have n0_ := Aside0.mk (Kd.N_elder' (by (with_reducible repeat (first | apply Kd.N_alloc | apply Kd.N_drewN | apply Kd.N_drew)); exact HO339.out) (Kd.R_base ho30) hb)
              have n1_ := Aside0.mk (Kd.R_lower ho30 (below_size (below_later HB.out)))
              have n2_ := Aside0.mk (blk_below (blk_later BK327.out) hb)
              have n3_ := Aside0.mk (blk_below (blk_later BK328.out) hb)
              have n4_ := Aside0.mk (below_step (below_later HB.out) hb)
              clear HO339
              clear BK327
              clear BK328
              clear HB
              have HO339 := n0_
              have HO357 := n1_
              have BK327 := n2_
              have BK328 := n3_
              have HB := n4_
              clear n0_ n1_ n2_ n3_ n4_
              clear hb ho30
              refine hK.out _ _ ⟨(blk_cell BK327.out 0).trans rfl, (blk_cell BK327.out 1).trans rfl, (blk_cell BK327.out 2).trans rfl, (blk_cell BK328.out 0).trans rfl, (blk_cell BK328.out 1).trans rfl, (blk_cell BK328.out 2).trans rfl, (blk_cell BK328.out 3).trans rfl, (blk_cell BK328.out 4).trans rfl, (blk_cell BK328.out 5).trans rfl⟩ (fun hHeld => ?_)
              clear hK K
              refine norm_ (a' := ?_) ?_ ?_
              rotate_left
              · show Act.put _ (some 29) _ = _
                simp only [Act.put, List.setIfInBounds_toArray, List.set_cons_zero, List.set_cons_succ, i64_w, i32_w]
                rfl
              refine one_ (i := 7) (N := some 22) #[true, true, true, true, true, true, true, true, true, true, true, true, true, true, true, false, false, false] rfl rfl (one_of HT_.out (by kernel_rfl)) (by decide) (fun K hK => ?_)
              refine Kd.R_lit_step k53 _ 53 ?hg (N := 22) ?hd (xs := ([(⟨t341, t342, t343, t344, t345⟩ : S53)] : List (S53))) (inner := [.int .i64 t341, .int .i64 t342, .int .i64 t343, .string t344, .int .i64 t345]) (ok := fun _ => True) (okp := fun _ => True) ?hr ?hp (fun _ hk => hk) trivial (Below.refl _ _) (Nat.le_refl _) (by simp) ?_; (case hd => rfl); (case hg => rfl); (case hr => first | (go_simp; done) | (go_simp; rfl)); (case hp => exact (Reps.c5 (show Kd.M k53 _ _ _ (⟨t341, t342, t343, t344, t345⟩ : S53) [.int .i64 t341, .int .i64 t342, .int .i64 t343, .string t344, .int .i64 t345] from (k53_mkM _ _ _ (⟨t341, t342, t343, t344, t345⟩ : S53) )) (Reps.none _ _)))
              intro v347 w31 ho32 hb hg_ hnew_
              clear hg_ hnew_
              (first | rw [← Ny346.out] at ho32 | (simp only [Int.reduceToNat] at ho32; rw [← Ny346.out] at ho32))
              have n0_ := Aside0.mk (Kd.N_elder' (by (with_reducible repeat (first | apply Kd.N_alloc | apply Kd.N_drewN | apply Kd.N_drew)); exact HO339.out) (Kd.R_base ho32) hb)
              have n1_ := Aside0.mk (Kd.R_elder' (by (with_reducible repeat (first | apply Kd.R_alloc | apply Kd.R_drewN | apply Kd.R_drew)); exact HO357.out) (Kd.R_base ho32) hb)
              have n2_ := Aside0.mk (Kd.R_lower (Kd.R_new' ho32 (Kd.R_lt (by (with_reducible repeat (first | apply Kd.R_alloc | apply Kd.R_drewN | apply Kd.R_drew)); exact HO357.out))) (below_size (below_later HB.out)))
              have n3_ := Aside0.mk (blk_below (blk_later BK327.out) hb)
              have n4_ := Aside0.mk (blk_below (blk_later BK328.out) hb)
              have n5_ := Aside0.mk (below_step (below_later HB.out) hb)
              clear HO339
              clear HO357
              clear BK327
              clear BK328
              clear HB
              have HO339 := n0_
              have HO357 := n1_
              have HO348 := n2_
              have BK327 := n3_
              have BK328 := n4_
              have HB := n5_
              clear n0_ n1_ n2_ n3_ n4_ n5_
              clear hb ho32
              refine hK.out _ _ ⟨(blk_cell BK327.out 0).trans rfl, (blk_cell BK327.out 1).trans rfl, (blk_cell BK327.out 2).trans rfl, (blk_cell BK328.out 0).trans rfl, (blk_cell BK328.out 1).trans rfl, (blk_cell BK328.out 2).trans rfl, (blk_cell BK328.out 3).trans rfl, (blk_cell BK328.out 4).trans rfl, (blk_cell BK328.out 5).trans rfl⟩ (fun hHeld => ?_)
              clear hK K
              refine norm_ (a' := ?_) ?_ ?_
              rotate_left
              · show Act.put _ (some 22) _ = _
                simp only [Act.put, List.setIfInBounds_toArray, List.set_cons_zero, List.set_cons_succ, i64_w, i32_w]
                rfl
              exact norm_ (by simp only [putAll, Act.put, List.setIfInBounds_toArray, List.set_cons_zero, List.set_cons_succ]) (hCont (v347, v356) _ ⟨hHeld, (by (with_reducible repeat (first | apply Kd.N_alloc | apply Kd.N_drewN | apply Kd.N_drew)); exact Kd.N_mono HO339.out (fun _ hk => ⟨hk.2, ⟨hk.1.2, ⟨hk.1.1.1, hk.1.1.2⟩⟩⟩)), (by (with_reducible repeat (first | apply Kd.R_alloc | apply Kd.R_drewN | apply Kd.R_drew)); exact Kd.R_mono HO348.out (fun _ hk => hk.2)), (by (with_reducible repeat (first | apply Kd.R_alloc | apply Kd.R_drewN | apply Kd.R_drew)); exact Kd.R_mono HO357.out (fun _ hk => hk.2)), (blk_later BK327.out), (blk_later BK328.out), (below_later HB.out)⟩)
      rintro ⟨v347, v356⟩ w33 ⟨hS_, h0_, h1_, h2_, h3_, h4_, h5_⟩
      have n0_ : Aside0 (Kd.N (Kd.slice 53 k53) 47 w33 w.heap.size (fun k_ => some k_ ≠ (v347 : Value).ownBlock ∧ some k_ ≠ (v356 : Value).ownBlock ∧ k_ ≠ gb327 ∧ k_ ≠ gb328) (.slice Ao23 y337.length co23) y337) := ⟨h0_⟩
      have n1_ : Aside0 (Kd.R k53 53 w33 w.heap.size (fun k_ => some k_ ≠ (v356 : Value).ownBlock) v347 y346) := ⟨h1_⟩
      have n2_ : Aside0 (Kd.R k53 53 w33 w.heap.size (fun k_ => some k_ ≠ (v347 : Value).ownBlock) v356 y355) := ⟨h2_⟩
      have n3_ : Aside0 (w33.heap[gb327]? = some (.cells #[.int .i64 a1_0, .int .i64 a1_1, .int .i64 a1_2] 87 (0, 0))) := ⟨h3_⟩
      have n4_ : Aside0 (w33.heap[gb328]? = some (.cells #[.int .i64 a2_0, .bool true, .int .i64 a2_2, .string a2_3, .int .i64 a2_4, .string a2_5] 91 (0, 0))) := ⟨h4_⟩
      have n5_ : Aside0 (Below w.heap.size w w33) := ⟨h5_⟩
      clear HO339
      clear BK327
      clear BK328
      clear HB
      clear h0_ h1_ h2_ h3_ h4_ h5_
      have HO339 := n0_
      have HO348 := n1_
      have HO357 := n2_
      have BK327 := n3_
      have BK328 := n4_
      have HB := n5_
      clear n0_ n1_ n2_ n3_ n4_ n5_
      have hHeld : w33.cell? ⟨gb327, 0, none⟩ = some (.int .i64 a1_0) ∧ w33.cell? ⟨gb327, 1, none⟩ = some (.int .i64 a1_1) ∧ w33.cell? ⟨gb327, 2, none⟩ = some (.int .i64 a1_2) ∧ w33.cell? ⟨gb328, 0, none⟩ = some (.int .i64 a2_0) ∧ w33.cell? ⟨gb328, 1, none⟩ = some (.bool true) ∧ w33.cell? ⟨gb328, 2, none⟩ = some (.int .i64 a2_2) ∧ w33.cell? ⟨gb328, 3, none⟩ = some (.string a2_3) ∧ w33.cell? ⟨gb328, 4, none⟩ = some (.int .i64 a2_4) ∧ w33.cell? ⟨gb328, 5, none⟩ = some (.string a2_5) := hS_
      obtain ⟨Ao34, co34, eo34⟩ := Kd.R_slice HO348.out
      (first | subst eo34 | (injection eo34 with f1_ f2_ f3_; have f4_ := f1_.symm; have f5_ := f3_.symm; clear f1_ f2_ f3_; subst f4_; subst f5_))
      obtain ⟨Ao35, co35, eo35⟩ := Kd.R_slice HO357.out
      (first | subst eo35 | (injection eo35 with f1_ f2_ f3_; have f4_ := f1_.symm; have f5_ := f3_.symm; clear f1_ f2_ f3_; subst f4_; subst f5_))
      refine norm_ (a' := ?_) ?_ ?_
      rotate_left
      · simp only [putAll, Act.put, List.setIfInBounds_toArray, List.set_cons_zero, List.set_cons_succ]
        rfl
      refine one_ (i := 15) (N := some 30) #[true, true, true, true, true, true, true, true, true, true, true, true, true, true, true, true, false, false] rfl rfl (one_of HT_.out (by kernel_rfl)) (by decide) (fun K hK => ?_)
      refine Kd.N_lit_step (Kd.slice 53 k53) _ 47 ?hg (N' := 30) ?hd (xs := ([y346, y355] : List (List (S53)))) (inner := [.slice Ao34 y346.length co34, .slice Ao35 y355.length co35]) (ok := (fun k_ => some k_ ≠ (.slice Ao23 y337.length co23 : Value).ownBlock ∧ k_ ≠ gb327 ∧ k_ ≠ gb328)) (okp := (fun k_ => some k_ ≠ (.slice Ao23 y337.length co23 : Value).ownBlock ∧ k_ ≠ gb327 ∧ k_ ≠ gb328)) ?hr ?hp (fun _ hk => hk) ((show ∀ k_, w33.heap.size ≤ k_ → (fun k_ => some k_ ≠ (.slice Ao23 y337.length co23 : Value).ownBlock ∧ k_ ≠ gb327 ∧ k_ ≠ gb328) k_ from fun k_ hk => ⟨Kd.fresh' (Kd.N_lt (by (with_reducible repeat (first | apply Kd.N_alloc | apply Kd.N_drewN | apply Kd.N_drew)); exact HO339.out)) k_ hk, Kd.freshB (blk_later BK327.out) k_ hk, Kd.freshB (blk_later BK328.out) k_ hk⟩) _ (Nat.le_refl _)) (Below.refl _ _) (Nat.le_refl _) (by simp) ?_; (case hd => rfl); (case hg => rfl); (case hr => first | (go_simp; done) | (go_simp; rfl)); (case hp => exact (Reps.one (show Kd.FK (Kd.slice 53 k53) _ _ y346 [.slice Ao34 y346.length co34] from (Kd.FK_slice_mk (Kd.R_reads' (Kd.R_mono (ok' := (fun k_ => some k_ ≠ (.slice Ao23 y337.length co23 : Value).ownBlock ∧ k_ ≠ gb327 ∧ k_ ≠ gb328)) (Kd.R_types (Kd.R_types (Kd.R_apart' (HO348.out) (Kd.N_typed HO339.out) (by decide)) BK327.out (by decide)) BK328.out (by decide)) (fun k_ hk => ⟨hk.1.1.2, ⟨hk.1.2, hk.2⟩⟩))).2.1 (Kd.R_F (Kd.R_mono (ok' := (fun k_ => some k_ ≠ (.slice Ao23 y337.length co23 : Value).ownBlock ∧ k_ ≠ gb327 ∧ k_ ≠ gb328)) (Kd.R_types (Kd.R_types (Kd.R_apart' (HO348.out) (Kd.N_typed HO339.out) (by decide)) BK327.out (by decide)) BK328.out (by decide)) (fun k_ hk => ⟨hk.1.1.2, ⟨hk.1.2, hk.2⟩⟩))))) (Reps.one (show Kd.FK (Kd.slice 53 k53) _ _ y355 [.slice Ao35 y355.length co35] from (Kd.FK_slice_mk (Kd.R_reads' (Kd.R_mono (ok' := (fun k_ => some k_ ≠ (.slice Ao23 y337.length co23 : Value).ownBlock ∧ k_ ≠ gb327 ∧ k_ ≠ gb328)) (Kd.R_types (Kd.R_types (Kd.R_apart' (HO357.out) (Kd.N_typed HO339.out) (by decide)) BK327.out (by decide)) BK328.out (by decide)) (fun k_ hk => ⟨hk.1.1.2, ⟨hk.1.2, hk.2⟩⟩))).2.1 (Kd.R_F (Kd.R_mono (ok' := (fun k_ => some k_ ≠ (.slice Ao23 y337.length co23 : Value).ownBlock ∧ k_ ≠ gb327 ∧ k_ ≠ gb328)) (Kd.R_types (Kd.R_types (Kd.R_apart' (HO357.out) (Kd.N_typed HO339.out) (by decide)) BK327.out (by decide)) BK328.out (by decide)) (fun k_ hk => ⟨hk.1.1.2, ⟨hk.1.2, hk.2⟩⟩))))) (Reps.none _ _))))
      intro v359 w36 ho37 hb hg_ hnew_
      clear hg_ hnew_
      (first | rw [← Ny358.out] at ho37 | (simp only [Int.reduceToNat] at ho37; rw [← Ny358.out] at ho37))
      have n0_ := Aside0.mk (Kd.N_elder' (by (with_reducible repeat (first | apply Kd.N_alloc | apply Kd.N_drewN | apply Kd.N_drew)); exact HO339.out) (Kd.N_base ho37) hb)
      have n1_ := Aside0.mk (Kd.N_lower ho37 (below_size (below_later HB.out)))
      have n2_ := Aside0.mk (blk_below (blk_later BK327.out) hb)
      have n3_ := Aside0.mk (blk_below (blk_later BK328.out) hb)
      have n4_ := Aside0.mk (below_step (below_later HB.out) hb)
      clear HO339
      clear BK327
      clear BK328
      clear HB
      clear HO348
      clear HO357
      have HO339 := n0_
      have HO360 := n1_
      have BK327 := n2_
      have BK328 := n3_
      have HB := n4_
      clear n0_ n1_ n2_ n3_ n4_
      clear hb ho37
      obtain ⟨Ao39, co39, eo39⟩ := Kd.N_slice HO360.out
      (first | subst eo39 | (injection eo39 with f1_ f2_ f3_; have f4_ := f1_.symm; have f5_ := f3_.symm; clear f1_ f2_ f3_; subst f4_; subst f5_))
      refine hK.out _ _ ⟨(blk_cell BK327.out 0).trans rfl, (blk_cell BK327.out 1).trans rfl, (blk_cell BK327.out 2).trans rfl, (blk_cell BK328.out 0).trans rfl, (blk_cell BK328.out 1).trans rfl, (blk_cell BK328.out 2).trans rfl, (blk_cell BK328.out 3).trans rfl, (blk_cell BK328.out 4).trans rfl, (blk_cell BK328.out 5).trans rfl⟩ (fun hHeld => ?_)
      clear hK K
      refine norm_ (a' := ?_) ?_ ?_
      rotate_left
      · show Act.put _ (some 30) _ = _
        simp only [Act.put, List.setIfInBounds_toArray, List.set_cons_zero, List.set_cons_succ, i64_w, i32_w]
        rfl
      refine one_ (i := 16) (N := some 31) #[true, true, true, true, true, true, true, true, true, true, true, true, true, true, true, true, true, false] rfl rfl (one_of HT_.out (by kernel_rfl)) (by decide) (fun K hK => ?_)
      refine Kd.N_append_rows_step (Kd.slice 53 k53) (w0 := w) w.heap.size (by rfl) (.tmp 15) (.tmp 30) 204 47 (.slice none 0 0) 24 rfl Try.underlying204 info47 rfl (by decide) (by omega) (.slice Ao23 y337.length co23) y337 y358 _ _ _ (fun k_ => k_ ≠ gb327 ∧ k_ ≠ gb328) (fun k_ => ((fun k_ => k_ ≠ gb327 ∧ k_ ≠ gb328)) k_ ∧ some k_ ≠ (.slice Ao23 y337.length co23 : Value).ownBlock) rfl rfl ?aO ?aR (fun _ hk => hk) ?aF ?aB ?aS ?aL ?_
      (case aR => exact (by skip; exact Kd.N_F (Kd.N_mono (ok' := (fun k_ => ((fun k_ => k_ ≠ gb327 ∧ k_ ≠ gb328)) k_ ∧ some k_ ≠ (.slice Ao23 y337.length co23 : Value).ownBlock)) (HO360.out) (fun k_ hk => ⟨⟨hk.2.1, hk.2.2⟩, hk.1⟩))))
      (case aB => exact (below_later HB.out))
      (case aF => exact (fun k_ hk => ⟨Kd.freshB (blk_later BK327.out) k_ hk, Kd.freshB (blk_later BK328.out) k_ hk⟩))
      (case aO => exact (by (with_reducible repeat (first | apply Kd.N_alloc | apply Kd.N_drewN | apply Kd.N_drew)); exact Kd.N_mono HO339.out (fun _ hk => ⟨hk.1.2.2.1, hk.1.2.2.2⟩)))
      (case aS => exact (below_size (below_later HB.out)))
      (case aL => have := LMc10.out; omega)
      intro v362 w38 ho hb hg hat
      rw [← Ny361.out] at ho
      have n0_ := Aside0.mk (blk_grown (blk_later BK327.out) hg (Kd.N_ne HO339.out BK327.out (by decide)))
      have n1_ := Aside0.mk (blk_grown (blk_later BK328.out) hg (Kd.N_ne HO339.out BK328.out (by decide)))
      have n2_ := Aside0.mk (Kd.N_afterv (ok := (fun k_ => k_ ≠ gb327 ∧ k_ ≠ gb328)) (by (with_reducible repeat (first | apply Kd.N_alloc | apply Kd.N_drewN | apply Kd.N_drew)); exact Kd.N_mono HO360.out (fun _ hk => ⟨⟨hk.2.1, hk.2.2⟩, hk.1⟩)) hg hat)
      have n3_ := Aside0.mk (hb)
      have n4_ := Aside0.mk (ho)
      clear BK327
      clear BK328
      clear HO360
      clear HB
      clear HO339
      have BK327 := n0_
      have BK328 := n1_
      have HO360 := n2_
      have HB := n3_
      have HO363 := n4_
      clear n0_ n1_ n2_ n3_ n4_
      clear ho hb hg hat
      refine hK.out _ _ ⟨(blk_cell BK327.out 0).trans rfl, (blk_cell BK327.out 1).trans rfl, (blk_cell BK327.out 2).trans rfl, (blk_cell BK328.out 0).trans rfl, (blk_cell BK328.out 1).trans rfl, (blk_cell BK328.out 2).trans rfl, (blk_cell BK328.out 3).trans rfl, (blk_cell BK328.out 4).trans rfl, (blk_cell BK328.out 5).trans rfl⟩ (fun hHeld => ?_)
      clear hK K
      refine norm_ (a' := ?_) ?_ ?_
      rotate_left
      · show Act.put _ (some 31) _ = _
        simp only [Act.put, List.setIfInBounds_toArray, List.set_cons_zero, List.set_cons_succ, i64_w, i32_w]
        rfl
      refine pure_ (i := 17) (N := some 7) (v := ?_) (a' := ?_) #[true, true, true, true, true, true, true, true, true, true, true, true, true, true, true, true, true, true] rfl rfl (any_of HT_.out (by kernel_rfl)) (fun _ _ _ h => h) (Or.inl ⟨by rfl, ?_⟩) ?_ ?_
      rotate_left
      · intro w'
        go_simp
        with_reducible rfl
      rotate_left
      · simp only [Act.put, List.setIfInBounds_toArray, List.set_cons_zero, List.set_cons_succ, i64_w, i32_w]
        rfl
      refine done_ (done_of HT_.out (by kernel_rfl)) ?_
      obtain ⟨Ao40, co40, eo40⟩ := Kd.N_slice HO363.out
      subst eo40
      try go_wp2_with (first | ((with_reducible refine gate_callee (f := 186) rfl ?_); refine goesL_ (some 34) rfl rfl Try.func186 (by kernel_rfl) rfl #[.int .i64 a0, .slice Ao40 y361.length co40] rfl (by (try simp only [List.map_toArray, List.map_cons, List.map_nil]); first | done | rfl | (simp only [List.length_drop, List.length_take]; rfl)) ?_; (with_reducible refine (impl_structNode.calls k a0 _ _ y361 t364 _ ?side1 ?side2 A11.out).mono ?_); (case side1 => repeat (first | exact (Kd.N_reads' HO363.out).2.2 | (with_reducible refine Kd.C_alloc ?_ _) | (with_reducible refine Kd.C_drewN ?_ _) | (with_reducible refine Kd.C_drew ?_))); (case side2 => exact (Kd.N_reads' HO363.out).2.1); rintro e w41 ⟨v365, rfl, ho0, hb⟩; refine ⟨_, rfl, ?_⟩; have n0_ := Aside0.mk (Kd.N_elder' (by (with_reducible repeat (first | apply Kd.N_alloc | apply Kd.N_drewN | apply Kd.N_drew)); exact HO360.out) (Kd.R_base ho0) hb); have n1_ := Aside0.mk (Kd.N_elder' (by (with_reducible repeat (first | apply Kd.N_alloc | apply Kd.N_drewN | apply Kd.N_drew)); exact HO363.out) (Kd.R_base ho0) hb); have n2_ := Aside0.mk (Kd.R_lower ho0 (below_size (below_later HB.out))); have n3_ := Aside0.mk (blk_below (blk_later BK327.out) hb); have n4_ := Aside0.mk (blk_below (blk_later BK328.out) hb); have n5_ := Aside0.mk (below_step (below_later HB.out) hb); clear HO360; clear HO363; clear BK327; clear BK328; clear HB; have HO360 := n0_; have HO363 := n1_; have HO366 := n2_; have BK327 := n3_; have BK328 := n4_; have HB := n5_; clear n0_ n1_ n2_ n3_ n4_ n5_; (try clear hb); (try clear hb2); (try clear hk); (try clear hi); (try clear ho0)))
      go_ret
      exact ⟨_, by first | rfl | (simp [errW_none, errW_some] <;> rfl) | (simp [*, errW_none, errW_some] <;> rfl), by (with_reducible repeat (first | apply Kd.R_alloc | apply Kd.R_drewN | apply Kd.R_drew)); exact HO366.out, below_later HB.out⟩
    · rw [if_neg c10] at H
      exact absurd H (by simp)
  · replace c5 := Bool.eq_false_iff.mpr c5
    subst c5
    have H1 : ((impl_structNode.f k a0 y337).bind fun t367 => (some t367)) = some r := by rw [if_neg (show ¬ (false = true) by decide)] at H; exact H
    clear H
    have H := H1
    clear H1
    replace H := Option.bind_eq_some_iff.mp H
    obtain ⟨t367, A420, H⟩ := H
    replace H : (some t367) = some r := H
    have A42 := Aside0.mk A420
    clear A420
    obtain rfl := Option.some.inj H
    go_enter Try.func118, Try.ntmps118
    go_wp2_with (first | ((with_reducible refine gate_dst (N := 4) rfl ?_); refine box_event ?hg (N := 4) ?hd (cs := #[.int .i64 a1_0, .int .i64 a1_1, .int .i64 a1_2]) (t := 87) ?hr ?_; (case hd => rfl); (case hg => rfl); (case hr => first | (go_simp; done) | (go_simp; rfl)); intro gb327 hg w43 hbox hb; have n0_ := Aside0.mk (below_step (below_later HB.out) hb); have n1_ := Aside0.mk (hbox); have n2_ := Aside0.mk ((by rw [hg]; exact (below_size (below_later HB.out)) : w.heap.size ≤ gb327)); have n3_ := Aside0.mk ((by rw [hg]; exact (below_size (below_later HB.out)) : w.heap.size ≤ gb327)); clear HB; have HB := n0_; have BK327 := n1_; have GW327 := n2_; have GE327 := n3_; clear n0_ n1_ n2_ n3_; clear hb hbox hg) | ((with_reducible refine gate_dst (N := 5) rfl ?_); refine box_event ?hg (N := 5) ?hd (cs := #[.int .i64 a2_0, .bool false, .int .i64 a2_2, .string a2_3, .int .i64 a2_4, .string a2_5]) (t := 91) ?hr ?_; (case hd => rfl); (case hg => rfl); (case hr => first | (go_simp; done) | (go_simp; rfl)); intro gb328 hg w44 hbox hb; have n0_ := Aside0.mk (blk_below (blk_later BK327.out) hb); have n1_ := Aside0.mk (below_step (below_later HB.out) hb); have n2_ := Aside0.mk (hbox); have n3_ := Aside0.mk ((by rw [hg]; exact (below_size (below_later HB.out)) : w.heap.size ≤ gb328)); have n4_ := Aside0.mk ((by rw [hg]; exact (below_size (below_later HB.out)) : w.heap.size ≤ gb328)); have n5_ := Aside0.mk ((by rw [hg]; exact Nat.ne_of_lt (blk_lt (blk_later BK327.out)) : gb327 ≠ gb328)); have n6_ := Aside0.mk ((by rw [hg]; exact Nat.ne_of_gt (blk_lt (blk_later BK327.out)) : gb328 ≠ gb327)); clear BK327; clear HB; have BK327 := n0_; have HB := n1_; have BK328 := n2_; have GW328 := n3_; have GE328 := n4_; have NB327_328 := n5_; have NB328_327 := n6_; clear n0_ n1_ n2_ n3_ n4_ n5_ n6_; clear hb hbox hg; have hnb45 := NB328_327.out; have hnc45 := NB327_328.out; have hcz46_0 : w44.cell? ⟨gb328, 0, none⟩ = some (.int .i64 a2_0) := (blk_cell BK328.out 0).trans rfl; have hcz46_1 : w44.cell? ⟨gb328, 1, none⟩ = some (.bool false) := (blk_cell BK328.out 1).trans rfl; have hcz46_2 : w44.cell? ⟨gb328, 2, none⟩ = some (.int .i64 a2_2) := (blk_cell BK328.out 2).trans rfl; have hcz46_3 : w44.cell? ⟨gb328, 3, none⟩ = some (.string a2_3) := (blk_cell BK328.out 3).trans rfl; have hcz46_4 : w44.cell? ⟨gb328, 4, none⟩ = some (.int .i64 a2_4) := (blk_cell BK328.out 4).trans rfl; have hcz46_5 : w44.cell? ⟨gb328, 5, none⟩ = some (.string a2_5) := (blk_cell BK328.out 5).trans rfl; have hfz46_0 := blk_frozen BK328.out 0; have hfz46_1 := blk_frozen BK328.out 1; have hfz46_2 := blk_frozen BK328.out 2; have hfz46_3 := blk_frozen BK328.out 3; have hfz46_4 := blk_frozen BK328.out 4; have hfz46_5 := blk_frozen BK328.out 5) | ((with_reducible refine gate_callee (f := 183) rfl ?_); refine goesL_ (some 10) rfl rfl Try.func183 (by kernel_rfl) rfl #[.int .i64 3, .int .i64 a2_0] rfl (by (try simp only [List.map_toArray, List.map_cons, List.map_nil]); first | done | rfl | (simp only [List.length_drop, List.length_take]; rfl)) ?_; (with_reducible refine (impl_longNode.calls 3 a2_0 t329 t330 t331 t332 t333 _ A4.out).mono ?_); rintro e w47 ⟨rfl, hb⟩; refine ⟨_, rfl, ?_⟩; have n0_ := Aside0.mk (blk_below (blk_later BK327.out) hb); have n1_ := Aside0.mk (blk_below (blk_later BK328.out) hb); have n2_ := Aside0.mk (below_step (below_later HB.out) hb); clear BK327; clear BK328; clear HB; have BK327 := n0_; have BK328 := n1_; have HB := n2_; clear n0_ n1_ n2_; (try clear hb); (try clear hb2); (try clear hk); (try clear hi)) | ((with_reducible refine gate_dst (N := 11) rfl ?_); refine Kd.R_lit k53 _ 53 ?hg (N := 11) ?hd (xs := ([(⟨t329, t330, t331, t332, t333⟩ : S53)] : List (S53))) (inner := [.int .i64 t329, .int .i64 t330, .int .i64 t331, .string t332, .int .i64 t333]) (ok := fun _ => True) (okp := fun _ => True) ?hr ?hp (fun _ hk => hk) trivial (Below.refl _ _) (Nat.le_refl _) (by simp) ?_; (case hd => rfl); (case hg => rfl); (case hr => first | (go_simp; done) | (go_simp; rfl)); (case hp => exact (Reps.c5 (show Kd.M k53 _ _ _ (⟨t329, t330, t331, t332, t333⟩ : S53) [.int .i64 t329, .int .i64 t330, .int .i64 t331, .string t332, .int .i64 t333] from (k53_mkM _ _ _ (⟨t329, t330, t331, t332, t333⟩ : S53) )) (Reps.none _ _))); intro v335 w48 ho49 hb hg_ hnew_; clear hg_ hnew_; (first | rw [← Ny334.out] at ho49 | (simp only [Int.reduceToNat] at ho49; rw [← Ny334.out] at ho49)); have n0_ := Aside0.mk (Kd.R_lower ho49 (below_size (below_later HB.out))); have n1_ := Aside0.mk (blk_below (blk_later BK327.out) hb); have n2_ := Aside0.mk (blk_below (blk_later BK328.out) hb); have n3_ := Aside0.mk (below_step (below_later HB.out) hb); clear BK327; clear BK328; clear HB; have HO336 := n0_; have BK327 := n1_; have BK328 := n2_; have HB := n3_; clear n0_ n1_ n2_ n3_; clear hb ho49; obtain ⟨Ao50, co50, eo50⟩ := Kd.R_slice HO336.out; subst eo50) | ((with_reducible refine gate_dst (N := 12) rfl ?_); refine Kd.N_lit (Kd.slice 53 k53) _ 47 ?hg (N' := 12) ?hd (xs := ([y334] : List (List (S53)))) (inner := [.slice Ao50 y334.length co50]) (ok := (fun k_ => k_ ≠ gb327 ∧ k_ ≠ gb328)) (okp := (fun k_ => k_ ≠ gb327 ∧ k_ ≠ gb328)) ?hr ?hp (fun _ hk => hk) ((show ∀ k_, w48.heap.size ≤ k_ → (fun k_ => k_ ≠ gb327 ∧ k_ ≠ gb328) k_ from fun k_ hk => ⟨Kd.freshB (blk_later BK327.out) k_ hk, Kd.freshB (blk_later BK328.out) k_ hk⟩) _ (Nat.le_refl _)) (Below.refl _ _) (Nat.le_refl _) (by simp) ?_; (case hd => rfl); (case hg => rfl); (case hr => first | (go_simp; done) | (go_simp; rfl)); (case hp => exact (Reps.one (show Kd.FK (Kd.slice 53 k53) _ _ y334 [.slice Ao50 y334.length co50] from (Kd.FK_slice_mk (Kd.R_reads' (Kd.R_mono (ok' := (fun k_ => k_ ≠ gb327 ∧ k_ ≠ gb328)) (Kd.R_types (Kd.R_types (HO336.out) BK327.out (by decide)) BK328.out (by decide)) (fun k_ hk => ⟨hk.1.2, hk.2⟩))).2.1 (Kd.R_F (Kd.R_mono (ok' := (fun k_ => k_ ≠ gb327 ∧ k_ ≠ gb328)) (Kd.R_types (Kd.R_types (HO336.out) BK327.out (by decide)) BK328.out (by decide)) (fun k_ hk => ⟨hk.1.2, hk.2⟩))))) (Reps.none _ _))); intro v338 w51 ho52 hb hg_ hnew_; clear hg_ hnew_; (first | rw [← Ny337.out] at ho52 | (simp only [Int.reduceToNat] at ho52; rw [← Ny337.out] at ho52)); have n0_ := Aside0.mk (Kd.N_lower ho52 (below_size (below_later HB.out))); have n1_ := Aside0.mk (blk_below (blk_later BK327.out) hb); have n2_ := Aside0.mk (blk_below (blk_later BK328.out) hb); have n3_ := Aside0.mk (below_step (below_later HB.out) hb); clear BK327; clear BK328; clear HB; clear HO336; have HO339 := n0_; have BK327 := n1_; have BK328 := n2_; have HB := n3_; clear n0_ n1_ n2_ n3_; clear hb ho52; have hcz53_0 : w51.cell? ⟨gb328, 0, none⟩ = some (.int .i64 a2_0) := (blk_cell BK328.out 0).trans rfl; have hcz53_1 : w51.cell? ⟨gb328, 1, none⟩ = some (.bool false) := (blk_cell BK328.out 1).trans rfl; have hcz53_2 : w51.cell? ⟨gb328, 2, none⟩ = some (.int .i64 a2_2) := (blk_cell BK328.out 2).trans rfl; have hcz53_3 : w51.cell? ⟨gb328, 3, none⟩ = some (.string a2_3) := (blk_cell BK328.out 3).trans rfl; have hcz53_4 : w51.cell? ⟨gb328, 4, none⟩ = some (.int .i64 a2_4) := (blk_cell BK328.out 4).trans rfl; have hcz53_5 : w51.cell? ⟨gb328, 5, none⟩ = some (.string a2_5) := (blk_cell BK328.out 5).trans rfl; have hfz53_0 := blk_frozen BK328.out 0; have hfz53_1 := blk_frozen BK328.out 1; have hfz53_2 := blk_frozen BK328.out 2; have hfz53_3 := blk_frozen BK328.out 3; have hfz53_4 := blk_frozen BK328.out 4; have hfz53_5 := blk_frozen BK328.out 5; obtain ⟨Ao54, co54, eo54⟩ := Kd.N_slice HO339.out; subst eo54) | ((with_reducible refine gate_callee (f := 186) rfl ?_); refine goesL_ (some 34) rfl rfl Try.func186 (by kernel_rfl) rfl #[.int .i64 a0, .slice Ao54 y337.length co54] rfl (by (try simp only [List.map_toArray, List.map_cons, List.map_nil]); first | done | rfl | (simp only [List.length_drop, List.length_take]; rfl)) ?_; (with_reducible refine (impl_structNode.calls k a0 _ _ y337 t367 _ ?side1 ?side2 A42.out).mono ?_); (case side1 => repeat (first | exact (Kd.N_reads' HO339.out).2.2 | (with_reducible refine Kd.C_alloc ?_ _) | (with_reducible refine Kd.C_drewN ?_ _) | (with_reducible refine Kd.C_drew ?_))); (case side2 => exact (Kd.N_reads' HO339.out).2.1); rintro e w55 ⟨v368, rfl, ho0, hb⟩; refine ⟨_, rfl, ?_⟩; have n0_ := Aside0.mk (Kd.N_elder' (by (with_reducible repeat (first | apply Kd.N_alloc | apply Kd.N_drewN | apply Kd.N_drew)); exact HO339.out) (Kd.R_base ho0) hb); have n1_ := Aside0.mk (Kd.R_lower ho0 (below_size (below_later HB.out))); have n2_ := Aside0.mk (blk_below (blk_later BK327.out) hb); have n3_ := Aside0.mk (blk_below (blk_later BK328.out) hb); have n4_ := Aside0.mk (below_step (below_later HB.out) hb); clear HO339; clear BK327; clear BK328; clear HB; have HO339 := n0_; have HO369 := n1_; have BK327 := n2_; have BK328 := n3_; have HB := n4_; clear n0_ n1_ n2_ n3_ n4_; (try clear hb); (try clear hb2); (try clear hk); (try clear hi); (try clear ho0)))
    go_ret
    exact ⟨_, by first | rfl | (simp [errW_none, errW_some] <;> rfl) | (simp [*, errW_none, errW_some] <;> rfl), by (with_reducible repeat (first | apply Kd.R_alloc | apply Kd.R_drewN | apply Kd.R_drew)); exact HO369.out, below_later HB.out⟩

/-! ### impl_StatsTree: function 59 -/
def impl_StatsTree.f (k : Nat) (a0_0 : Int) (a0_1 : Int) (a0_2 : Int) (a1_0 : Int) (a1_1 : Bool) (a1_2 : Int) (a1_3 : ByteArray) (a1_4 : Int) (a1_5 : ByteArray) : Option ((List (S53)) × Bool) := (impl_statsOk.f k a0_0 a0_1 a0_2 a1_0 a1_1 a1_2 a1_3 a1_4 a1_5).bind fun t372 => (if t372 = true then ((impl_statsNodes.f k 0 a0_0 a0_1 a0_2 a1_0 a1_1 a1_2 a1_3 a1_4 a1_5).bind fun t373 => (some (t373, true))) else (some (([] : List (S53)), false)))
theorem impl_StatsTree.mono : ∀ a0 a1 a2 a3 a4 a5 a6 a7 a8 k, LeO (impl_StatsTree.f k a0 a1 a2 a3 a4 a5 a6 a7 a8) (impl_StatsTree.f (k + 1) a0 a1 a2 a3 a4 a5 a6 a7 a8) := by
  intro a0 a1 a2 a3 a4 a5 a6 a7 a8 k
  unfold impl_StatsTree.f
  repeat' first
      | (with_reducible exact impl_statsNodes.mono _ _ _ _ _ _ _ _ _ _ _)
      | (with_reducible exact impl_statsOk.mono _ _ _ _ _ _ _ _ _ _)
      | (with_reducible exact LeO.refl _)
      | (with_reducible exact LeO.none _)
      | (with_reducible refine LeO.ite ?_ ?_)
      | (with_reducible refine LeO.bind ?_ (fun _ => ?_))
      | exact impl_statsNodes.mono _ _ _ _ _ _ _ _ _ _ _
      | exact impl_statsOk.mono _ _ _ _ _ _ _ _ _ _
      | exact LeO.none _
      | refine LeO.ite ?_ ?_
      | refine LeO.bind ?_ (fun _ => ?_)
set_option maxHeartbeats 8000000 in
set_option maxRecDepth 100000 in
theorem impl_StatsTree.calls (k : Nat) (a0_0 : Int) (a0_1 : Int) (a0_2 : Int) (a1_0 : Int) (a1_1 : Bool) (a1_2 : Int) (a1_3 : ByteArray) (a1_4 : Int) (a1_5 : ByteArray) (r1 : List (S53)) (r2 : Bool) (w : World) (h : impl_StatsTree.f k a0_0 a0_1 a0_2 a1_0 a1_1 a1_2 a1_3 a1_4 a1_5 = some (r1, r2)) :
    Calls Try.prog 59 #[.agg #[.int .i64 a0_0, .int .i64 a0_1, .int .i64 a0_2], .agg #[.int .i64 a1_0, .bool a1_1, .int .i64 a1_2, .string a1_3, .int .i64 a1_4, .string a1_5]] w fun e w' => ∃ v0_ : Value, e = .returned (.tuple #[v0_, .bool r2]) ∧ Kd.R k53 53 w' w.heap.size (fun _ => True) v0_ r1 ∧ Below w.heap.size w w' := by
  have hu87 := Try.underlying87
  have hu91 := Try.underlying91
  have HB := Aside0.mk (Below.refl w.heap.size w)
  have H : ((impl_statsOk.f k a0_0 a0_1 a0_2 a1_0 a1_1 a1_2 a1_3 a1_4 a1_5).bind fun t372 => (if t372 = true then ((impl_statsNodes.f k 0 a0_0 a0_1 a0_2 a1_0 a1_1 a1_2 a1_3 a1_4 a1_5).bind fun t373 => (some (t373, true))) else (some (([] : List (S53)), false)))) = some (r1, r2) := h
  clear h
  replace H := Option.bind_eq_some_iff.mp H
  obtain ⟨t372, A30, H⟩ := H
  replace H : (if t372 = true then ((impl_statsNodes.f k 0 a0_0 a0_1 a0_2 a1_0 a1_1 a1_2 a1_3 a1_4 a1_5).bind fun t373 => (some (t373, true))) else (some (([] : List (S53)), false))) = some (r1, r2) := H
  have A3 := Aside0.mk A30
  clear A30
  by_cases c4 : t372 = true
  · subst c4
    have H1 : ((impl_statsNodes.f k 0 a0_0 a0_1 a0_2 a1_0 a1_1 a1_2 a1_3 a1_4 a1_5).bind fun t373 => (some (t373, true))) = some (r1, r2) := by rw [if_pos rfl] at H; exact H
    clear H
    have H := H1
    clear H1
    replace H := Option.bind_eq_some_iff.mp H
    obtain ⟨t373, A50, H⟩ := H
    replace H : (some (t373, true)) = some (r1, r2) := H
    have A5 := Aside0.mk A50
    clear A50
    simp only [Option.some.injEq, Prod.mk.injEq] at H
    obtain ⟨rfl, rfl⟩ := H
    go_enter Try.func59, Try.ntmps59
    go_wp2_with (first | ((with_reducible refine gate_dst (N := 2) rfl ?_); refine box_event ?hg (N := 2) ?hd (cs := #[.int .i64 a0_0, .int .i64 a0_1, .int .i64 a0_2]) (t := 87) ?hr ?_; (case hd => rfl); (case hg => rfl); (case hr => first | (go_simp; done) | (go_simp; rfl)); intro gb370 hg w6 hbox hb; have n0_ := Aside0.mk (below_step (below_later HB.out) hb); have n1_ := Aside0.mk (hbox); have n2_ := Aside0.mk ((by rw [hg]; exact (below_size (below_later HB.out)) : w.heap.size ≤ gb370)); have n3_ := Aside0.mk ((by rw [hg]; exact (below_size (below_later HB.out)) : w.heap.size ≤ gb370)); clear HB; have HB := n0_; have BK370 := n1_; have GW370 := n2_; have GE370 := n3_; clear n0_ n1_ n2_ n3_; clear hb hbox hg) | ((with_reducible refine gate_dst (N := 3) rfl ?_); refine box_event ?hg (N := 3) ?hd (cs := #[.int .i64 a1_0, .bool a1_1, .int .i64 a1_2, .string a1_3, .int .i64 a1_4, .string a1_5]) (t := 91) ?hr ?_; (case hd => rfl); (case hg => rfl); (case hr => first | (go_simp; done) | (go_simp; rfl)); intro gb371 hg w7 hbox hb; have n0_ := Aside0.mk (blk_below (blk_later BK370.out) hb); have n1_ := Aside0.mk (below_step (below_later HB.out) hb); have n2_ := Aside0.mk (hbox); have n3_ := Aside0.mk ((by rw [hg]; exact (below_size (below_later HB.out)) : w.heap.size ≤ gb371)); have n4_ := Aside0.mk ((by rw [hg]; exact (below_size (below_later HB.out)) : w.heap.size ≤ gb371)); have n5_ := Aside0.mk ((by rw [hg]; exact Nat.ne_of_lt (blk_lt (blk_later BK370.out)) : gb370 ≠ gb371)); have n6_ := Aside0.mk ((by rw [hg]; exact Nat.ne_of_gt (blk_lt (blk_later BK370.out)) : gb371 ≠ gb370)); clear BK370; clear HB; have BK370 := n0_; have HB := n1_; have BK371 := n2_; have GW371 := n3_; have GE371 := n4_; have NB370_371 := n5_; have NB371_370 := n6_; clear n0_ n1_ n2_ n3_ n4_ n5_ n6_; clear hb hbox hg; have hnb8 := NB370_371.out; have hnc8 := NB371_370.out; have hcz9_0 : w7.cell? ⟨gb370, 0, none⟩ = some (.int .i64 a0_0) := (blk_cell BK370.out 0).trans rfl; have hcz9_1 : w7.cell? ⟨gb370, 1, none⟩ = some (.int .i64 a0_1) := (blk_cell BK370.out 1).trans rfl; have hcz9_2 : w7.cell? ⟨gb370, 2, none⟩ = some (.int .i64 a0_2) := (blk_cell BK370.out 2).trans rfl; have hfz9_0 := blk_frozen BK370.out 0; have hfz9_1 := blk_frozen BK370.out 1; have hfz9_2 := blk_frozen BK370.out 2; have hcz10_0 : w7.cell? ⟨gb371, 0, none⟩ = some (.int .i64 a1_0) := (blk_cell BK371.out 0).trans rfl; have hcz10_1 : w7.cell? ⟨gb371, 1, none⟩ = some (.bool a1_1) := (blk_cell BK371.out 1).trans rfl; have hcz10_2 : w7.cell? ⟨gb371, 2, none⟩ = some (.int .i64 a1_2) := (blk_cell BK371.out 2).trans rfl; have hcz10_3 : w7.cell? ⟨gb371, 3, none⟩ = some (.string a1_3) := (blk_cell BK371.out 3).trans rfl; have hcz10_4 : w7.cell? ⟨gb371, 4, none⟩ = some (.int .i64 a1_4) := (blk_cell BK371.out 4).trans rfl; have hcz10_5 : w7.cell? ⟨gb371, 5, none⟩ = some (.string a1_5) := (blk_cell BK371.out 5).trans rfl; have hfz10_0 := blk_frozen BK371.out 0; have hfz10_1 := blk_frozen BK371.out 1; have hfz10_2 := blk_frozen BK371.out 2; have hfz10_3 := blk_frozen BK371.out 3; have hfz10_4 := blk_frozen BK371.out 4; have hfz10_5 := blk_frozen BK371.out 5) | ((with_reducible refine gate_callee (f := 117) rfl ?_); refine goesL_ (some 8) rfl rfl Try.func117 (by kernel_rfl) rfl #[.agg #[.int .i64 a0_0, .int .i64 a0_1, .int .i64 a0_2], .agg #[.int .i64 a1_0, .bool a1_1, .int .i64 a1_2, .string a1_3, .int .i64 a1_4, .string a1_5]] rfl (by (try simp only [List.map_toArray, List.map_cons, List.map_nil]); first | done | rfl | (simp only [List.length_drop, List.length_take]; rfl)) ?_; (with_reducible refine (impl_statsOk.calls k a0_0 a0_1 a0_2 a1_0 a1_1 a1_2 a1_3 a1_4 a1_5 true _ A3.out).mono ?_); rintro e w11 ⟨rfl, hb⟩; refine ⟨_, rfl, ?_⟩; have n0_ := Aside0.mk (blk_below (blk_later BK370.out) hb); have n1_ := Aside0.mk (blk_below (blk_later BK371.out) hb); have n2_ := Aside0.mk (below_step (below_later HB.out) hb); clear BK370; clear BK371; clear HB; have BK370 := n0_; have BK371 := n1_; have HB := n2_; clear n0_ n1_ n2_; (try clear hb); (try clear hb2); (try clear hk); (try clear hi); have hcz12_0 : w11.cell? ⟨gb370, 0, none⟩ = some (.int .i64 a0_0) := (blk_cell BK370.out 0).trans rfl; have hcz12_1 : w11.cell? ⟨gb370, 1, none⟩ = some (.int .i64 a0_1) := (blk_cell BK370.out 1).trans rfl; have hcz12_2 : w11.cell? ⟨gb370, 2, none⟩ = some (.int .i64 a0_2) := (blk_cell BK370.out 2).trans rfl; have hfz12_0 := blk_frozen BK370.out 0; have hfz12_1 := blk_frozen BK370.out 1; have hfz12_2 := blk_frozen BK370.out 2; have hcz13_0 : w11.cell? ⟨gb371, 0, none⟩ = some (.int .i64 a1_0) := (blk_cell BK371.out 0).trans rfl; have hcz13_1 : w11.cell? ⟨gb371, 1, none⟩ = some (.bool a1_1) := (blk_cell BK371.out 1).trans rfl; have hcz13_2 : w11.cell? ⟨gb371, 2, none⟩ = some (.int .i64 a1_2) := (blk_cell BK371.out 2).trans rfl; have hcz13_3 : w11.cell? ⟨gb371, 3, none⟩ = some (.string a1_3) := (blk_cell BK371.out 3).trans rfl; have hcz13_4 : w11.cell? ⟨gb371, 4, none⟩ = some (.int .i64 a1_4) := (blk_cell BK371.out 4).trans rfl; have hcz13_5 : w11.cell? ⟨gb371, 5, none⟩ = some (.string a1_5) := (blk_cell BK371.out 5).trans rfl; have hfz13_0 := blk_frozen BK371.out 0; have hfz13_1 := blk_frozen BK371.out 1; have hfz13_2 := blk_frozen BK371.out 2; have hfz13_3 := blk_frozen BK371.out 3; have hfz13_4 := blk_frozen BK371.out 4; have hfz13_5 := blk_frozen BK371.out 5) | ((with_reducible refine gate_callee (f := 118) rfl ?_); refine goesL_ (some 12) rfl rfl Try.func118 (by kernel_rfl) rfl #[.int .i64 0, .agg #[.int .i64 a0_0, .int .i64 a0_1, .int .i64 a0_2], .agg #[.int .i64 a1_0, .bool a1_1, .int .i64 a1_2, .string a1_3, .int .i64 a1_4, .string a1_5]] rfl (by (try simp only [List.map_toArray, List.map_cons, List.map_nil]); first | done | rfl | (simp only [List.length_drop, List.length_take]; rfl)) ?_; (with_reducible refine (impl_statsNodes.calls k 0 a0_0 a0_1 a0_2 a1_0 a1_1 a1_2 a1_3 a1_4 a1_5 t373 _ A5.out).mono ?_); rintro e w14 ⟨v374, rfl, ho0, hb⟩; refine ⟨_, rfl, ?_⟩; have n0_ := Aside0.mk (Kd.R_lower ho0 (below_size (below_later HB.out))); have n1_ := Aside0.mk (blk_below (blk_later BK370.out) hb); have n2_ := Aside0.mk (blk_below (blk_later BK371.out) hb); have n3_ := Aside0.mk (below_step (below_later HB.out) hb); clear BK370; clear BK371; clear HB; have HO375 := n0_; have BK370 := n1_; have BK371 := n2_; have HB := n3_; clear n0_ n1_ n2_ n3_; (try clear hb); (try clear hb2); (try clear hk); (try clear hi); (try clear ho0)))
    go_ret2
    exact ⟨_, by first | rfl | (simp [errW_none, errW_some] <;> rfl) | (simp [*, errW_none, errW_some] <;> rfl), by (with_reducible repeat (first | apply Kd.R_alloc | apply Kd.R_drewN | apply Kd.R_drew)); exact HO375.out, below_later HB.out⟩
  · replace c4 := Bool.eq_false_iff.mpr c4
    subst c4
    have H1 : (some (([] : List (S53)), false)) = some (r1, r2) := by rw [if_neg (show ¬ (false = true) by decide)] at H; exact H
    clear H
    have H := H1
    clear H1
    simp only [Option.some.injEq, Prod.mk.injEq] at H
    obtain ⟨rfl, rfl⟩ := H
    go_enter Try.func59, Try.ntmps59
    go_wp2_with (first | ((with_reducible refine gate_dst (N := 2) rfl ?_); refine box_event ?hg (N := 2) ?hd (cs := #[.int .i64 a0_0, .int .i64 a0_1, .int .i64 a0_2]) (t := 87) ?hr ?_; (case hd => rfl); (case hg => rfl); (case hr => first | (go_simp; done) | (go_simp; rfl)); intro gb370 hg w15 hbox hb; have n0_ := Aside0.mk (below_step (below_later HB.out) hb); have n1_ := Aside0.mk (hbox); have n2_ := Aside0.mk ((by rw [hg]; exact (below_size (below_later HB.out)) : w.heap.size ≤ gb370)); have n3_ := Aside0.mk ((by rw [hg]; exact (below_size (below_later HB.out)) : w.heap.size ≤ gb370)); clear HB; have HB := n0_; have BK370 := n1_; have GW370 := n2_; have GE370 := n3_; clear n0_ n1_ n2_ n3_; clear hb hbox hg) | ((with_reducible refine gate_dst (N := 3) rfl ?_); refine box_event ?hg (N := 3) ?hd (cs := #[.int .i64 a1_0, .bool a1_1, .int .i64 a1_2, .string a1_3, .int .i64 a1_4, .string a1_5]) (t := 91) ?hr ?_; (case hd => rfl); (case hg => rfl); (case hr => first | (go_simp; done) | (go_simp; rfl)); intro gb371 hg w16 hbox hb; have n0_ := Aside0.mk (blk_below (blk_later BK370.out) hb); have n1_ := Aside0.mk (below_step (below_later HB.out) hb); have n2_ := Aside0.mk (hbox); have n3_ := Aside0.mk ((by rw [hg]; exact (below_size (below_later HB.out)) : w.heap.size ≤ gb371)); have n4_ := Aside0.mk ((by rw [hg]; exact (below_size (below_later HB.out)) : w.heap.size ≤ gb371)); have n5_ := Aside0.mk ((by rw [hg]; exact Nat.ne_of_lt (blk_lt (blk_later BK370.out)) : gb370 ≠ gb371)); have n6_ := Aside0.mk ((by rw [hg]; exact Nat.ne_of_gt (blk_lt (blk_later BK370.out)) : gb371 ≠ gb370)); clear BK370; clear HB; have BK370 := n0_; have HB := n1_; have BK371 := n2_; have GW371 := n3_; have GE371 := n4_; have NB370_371 := n5_; have NB371_370 := n6_; clear n0_ n1_ n2_ n3_ n4_ n5_ n6_; clear hb hbox hg; have hnb17 := NB370_371.out; have hnc17 := NB371_370.out; have hcz18_0 : w16.cell? ⟨gb370, 0, none⟩ = some (.int .i64 a0_0) := (blk_cell BK370.out 0).trans rfl; have hcz18_1 : w16.cell? ⟨gb370, 1, none⟩ = some (.int .i64 a0_1) := (blk_cell BK370.out 1).trans rfl; have hcz18_2 : w16.cell? ⟨gb370, 2, none⟩ = some (.int .i64 a0_2) := (blk_cell BK370.out 2).trans rfl; have hfz18_0 := blk_frozen BK370.out 0; have hfz18_1 := blk_frozen BK370.out 1; have hfz18_2 := blk_frozen BK370.out 2; have hcz19_0 : w16.cell? ⟨gb371, 0, none⟩ = some (.int .i64 a1_0) := (blk_cell BK371.out 0).trans rfl; have hcz19_1 : w16.cell? ⟨gb371, 1, none⟩ = some (.bool a1_1) := (blk_cell BK371.out 1).trans rfl; have hcz19_2 : w16.cell? ⟨gb371, 2, none⟩ = some (.int .i64 a1_2) := (blk_cell BK371.out 2).trans rfl; have hcz19_3 : w16.cell? ⟨gb371, 3, none⟩ = some (.string a1_3) := (blk_cell BK371.out 3).trans rfl; have hcz19_4 : w16.cell? ⟨gb371, 4, none⟩ = some (.int .i64 a1_4) := (blk_cell BK371.out 4).trans rfl; have hcz19_5 : w16.cell? ⟨gb371, 5, none⟩ = some (.string a1_5) := (blk_cell BK371.out 5).trans rfl; have hfz19_0 := blk_frozen BK371.out 0; have hfz19_1 := blk_frozen BK371.out 1; have hfz19_2 := blk_frozen BK371.out 2; have hfz19_3 := blk_frozen BK371.out 3; have hfz19_4 := blk_frozen BK371.out 4; have hfz19_5 := blk_frozen BK371.out 5) | ((with_reducible refine gate_callee (f := 117) rfl ?_); refine goesL_ (some 8) rfl rfl Try.func117 (by kernel_rfl) rfl #[.agg #[.int .i64 a0_0, .int .i64 a0_1, .int .i64 a0_2], .agg #[.int .i64 a1_0, .bool a1_1, .int .i64 a1_2, .string a1_3, .int .i64 a1_4, .string a1_5]] rfl (by (try simp only [List.map_toArray, List.map_cons, List.map_nil]); first | done | rfl | (simp only [List.length_drop, List.length_take]; rfl)) ?_; (with_reducible refine (impl_statsOk.calls k a0_0 a0_1 a0_2 a1_0 a1_1 a1_2 a1_3 a1_4 a1_5 false _ A3.out).mono ?_); rintro e w20 ⟨rfl, hb⟩; refine ⟨_, rfl, ?_⟩; have n0_ := Aside0.mk (blk_below (blk_later BK370.out) hb); have n1_ := Aside0.mk (blk_below (blk_later BK371.out) hb); have n2_ := Aside0.mk (below_step (below_later HB.out) hb); clear BK370; clear BK371; clear HB; have BK370 := n0_; have BK371 := n1_; have HB := n2_; clear n0_ n1_ n2_; (try clear hb); (try clear hb2); (try clear hk); (try clear hi)))
    go_ret2
    exact ⟨_, by first | rfl | (simp [errW_none, errW_some] <;> rfl) | (simp [*, errW_none, errW_some] <;> rfl), by first | exact Kd.R_nil _ _ _ _ _ | exact Kd.N_nil _ _ _ _ _ | exact Kd.V_nil _ _ _ _ _ | exact Kd.Q_nil _ _ _ _ _ | exact Kd.S_nil _ _ _ _ _, below_later HB.out⟩

end Go.Proofs.Ytnfamhegbfjggaa.PFnExactStatsTree
