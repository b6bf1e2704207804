/- The machine's side of FnDict, written by wip/tools/hyb.py of this repo: each Go function as a plain Lean function, and the proof that the call comes to just its answer. No condition. -/
import Derived.Test.YtgbhjjhnkiagfaaPFnDictx0
import Derived.Test.YtgbhjjhnkiagfaaPFnDictx3
namespace Go.Proofs.Ytgbhjjhnkiagfaa.PFnDict
open Go.RowKit Go.Proofs.YtgbhjjhnkiagfaaW.PrintWords Go.Proofs.YtgbhjjhnkiagfaaW.PrintLast Go.Proofs.YtgbhjjhnkiagfaaW.PrintMore Go.Proofs.YtgbhjjhnkiagfaaW.PrintMore2
attribute [local go_sem] max2_int min2_int max_two min_two max_three min_three max_four min_four   -- for this text's walks alone
set_option linter.unusedVariables false
set_option linter.unusedSimpArgs false

/-! ### impl_valsOk: function 30 -/
def impl_valsOk.l0 : Nat → Int → List (S31) → List (S31) → Int → Int → Option (Bool)
 | 0, _, _, _, _, _ => none
 | k + 1, x0, x1, x7, x8, x9 => if x9 < x8 then (if 0 ≤ x9 then (if x9 < (x7.length : Int) then ((impl_ValOk.f x0 ((rd_T31 x7 x9).f0) ((rd_T31 x7 x9).f1)).bind fun t300 => (if t300 = true then (impl_valsOk.l0 k x0 x1 x7 x8 (wrap64 (x9 + 1))) else (some false))) else (none)) else (none)) else (if (x1.length : Int) ≤ 2000 then ((impl_TypeOk.f x0).bind fun t301 => (some t301)) else (some false))
def impl_valsOk.f (k : Nat) (a0 : Int) (l1 : List (S31)) : Option (Bool) := impl_valsOk.l0 k a0 l1 l1 (l1.length : Int) 0
theorem impl_valsOk.mono_l : ∀ k, (∀ y0 y1 y2 y3 y4, LeO (impl_valsOk.l0 k y0 y1 y2 y3 y4) (impl_valsOk.l0 (k + 1) y0 y1 y2 y3 y4))
 | 0 => fun _ _ _ _ _ r h => by simp [impl_valsOk.l0] at h
 | k + 1 => by
  have ih0 := impl_valsOk.mono_l k
  ·
   intro y0 y1 y2 y3 y4
   unfold impl_valsOk.l0
   repeat' first
   | (with_reducible exact ih0 _ _ _ _ _)
   | (with_reducible exact LeO.refl _)
   | (with_reducible exact LeO.none _)
   | (with_reducible refine LeO.ite ?_ ?_)
   | (with_reducible refine LeO.bind ?_ (fun _ => ?_))
   | exact ih0 _ _ _ _ _
   | exact LeO.none _
   | refine LeO.ite ?_ ?_
   | refine LeO.bind ?_ (fun _ => ?_)
theorem impl_valsOk.mono : ∀ a0 a1 k, LeO (impl_valsOk.f k a0 a1) (impl_valsOk.f (k + 1) a0 a1) := by
 intro a0 a1 k
 have ih0 := impl_valsOk.mono_l k
 unfold impl_valsOk.f
 repeat' first
   | (with_reducible exact ih0 _ _ _ _ _)
   | (with_reducible exact LeO.refl _)
   | (with_reducible exact LeO.none _)
   | (with_reducible refine LeO.ite ?_ ?_)
   | (with_reducible refine LeO.bind ?_ (fun _ => ?_))
   | exact ih0 _ _ _ _ _
   | exact LeO.none _
   | refine LeO.ite ?_ ?_
   | refine LeO.bind ?_ (fun _ => ?_)
set_option maxHeartbeats 8000000 in
set_option maxRecDepth 100000 in
theorem impl_valsOk.calls (k : Nat) (a0 : Int) (A1 : Option Addr) (c1 : Nat) (l1 : List (S31)) (r : Bool) (w : World) (hr1 : Kd.C k31 w A1 l1.length l1) (hc1 : l1.length ≤ c1) (h : impl_valsOk.f k a0 l1 = some r) :
  Calls Try.prog 30 #[.int .i64 a0, .slice A1 l1.length c1] w fun e w' => e = .returned (.bool r) ∧ Below w.heap.size w w' := by
 have hu31 := Try.underlying31
 have HR1 := Aside0.mk hr1
 have HC1 := Aside0.mk hc1
 clear hr1 hc1
 have HB := Aside0.mk (Below.refl w.heap.size w)
 have H : (impl_valsOk.l0 k a0 l1 l1 (l1.length : Int) 0) = some r := h
 clear h
 have H' := Aside0.mk H
 clear H
 go_enter Try.func30, Try.ntmps30
 go_wp2
 go_loopg [9] k (fun kq v9 w' => ∃ (x9_1 : Int), v9 = .int .i64 x9_1 ∧ Aside0 (impl_valsOk.l0 kq a0 l1 l1 (l1.length : Int) x9_1 = some r) ∧ Aside0 (kq ≤ k) ∧ Aside0 (Below w.heap.size w w'))
 case atStart => exact ⟨(0), (by first | rfl | (simp; done) | (simp [*]; done)), H', ⟨Nat.le_refl _⟩, ⟨by repeat (first | (with_reducible first | exact HB.out | apply below_alloc | apply pw_below_drewN | apply below_drew1) | exact HB.out)⟩⟩
 case round =>
  clear H'
  try clear c1
  try clear p2
  obtain ⟨x9_1, rfl, HA, HK1, HB⟩ := hrel
  cases gk with
  | zero => exact absurd HA.out (by simp [impl_valsOk.l0])
  | succ k1 =>
   have H := HA.out
   clear HA
   simp only [impl_valsOk.l0] at H
   by_cases c3 : x9_1 < (l1.length : Int)
   ·
    rw [if_pos c3] at H
    have c3b0 : decide (x9_1 < (l1.length : Int)) = true := decide_eq_true c3
    clear c3
    by_cases c4 : 0 ≤ x9_1
    ·
     rw [if_pos c4] at H
     have c4b0 : decide (0 ≤ x9_1) = true := decide_eq_true c4
     clear c4
     by_cases c5 : x9_1 < (l1.length : Int)
     ·
      rw [if_pos c5] at H
      have c5b0 : decide (x9_1 < (l1.length : Int)) = true := decide_eq_true c5
      clear c5
      replace H := Option.bind_eq_some_iff.mp H
      obtain ⟨t300, A60, H⟩ := H
      replace H : (if t300 = true then (impl_valsOk.l0 k1 a0 l1 l1 (l1.length : Int) (wrap64 (x9_1 + 1))) else (some false)) = some r := H
      have A6 := Aside0.mk A60
      clear A60
      by_cases c7 : t300 = true
      ·
       subst c7
       have H1 : (impl_valsOk.l0 k1 a0 l1 l1 (l1.length : Int) (wrap64 (x9_1 + 1))) = some r := by rw [if_pos rfl] at H; exact H
       clear H
       have H := H1
       clear H1
       have H' := Aside0.mk H
       clear H
       have p298 : 0 ≤ (x9_1 : Int) := of_decide_eq_true (by first | (with_reducible assumption) | assumption)
       have q298 : x9_1 < (l1.length : Int) := of_decide_eq_true (by first | (with_reducible assumption) | assumption)
       obtain ⟨ad298, e298, hx298_0, hx298_1⟩ := at_T31 HR1.out x9_1 p298 q298
       cases e298
       replace hx298_0 := (HB.out.cell (World.block_lt_of_cell? w _ hx298_0)).trans hx298_0
       replace hx298_1 := (HB.out.cell (World.block_lt_of_cell? w _ hx298_1)).trans hx298_1
       replace p298 := eq_true p298
       replace q298 := eq_true q298
       go_wp2_with (first | ((with_reducible refine gate_dst (N := 6) rfl ?_); refine box_event ?hg (N := 6) ?hd (cs := #[.int .i64 0, .string (⟨#[]⟩ : ByteArray)]) (t := 31) ?hr ?_; (case hd => rfl); (case hg => rfl); (case hr => first | (go_simp; done) | (go_simp; rfl)); intro gb299 hg w8 hbox hb; have n0_ := Aside0.mk (below_step (by repeat (first | (with_reducible first | exact HB.out | apply below_alloc | apply pw_below_drewN | apply below_drew1) | exact HB.out)) hb); have n1_ := Aside0.mk (hbox); have n2_ := Aside0.mk ((by rw [hg]; exact (below_size (by repeat (first | (with_reducible first | exact HB.out | apply below_alloc | apply pw_below_drewN | apply below_drew1) | exact HB.out))) : w.heap.size ≤ gb299)); have n3_ := Aside0.mk ((by rw [hg]; exact (below_size (by repeat (first | (with_reducible first | exact HB.out | apply below_alloc | apply pw_below_drewN | apply below_drew1) | exact HB.out))) : w.heap.size ≤ gb299)); clear HB; have HB := n0_; have BK299 := n1_; have GW299 := n2_; have GE299 := n3_; clear n0_ n1_ n2_ n3_; clear hb hbox hg; have hcz9_0 : w8.cell? ⟨gb299, 0, none⟩ = some (.int .i64 0) := (blk_cell BK299.out 0).trans rfl; have hcz9_1 : w8.cell? ⟨gb299, 1, none⟩ = some (.string (⟨#[]⟩ : ByteArray)) := (blk_cell BK299.out 1).trans rfl; have hfz9_0 := blk_frozen BK299.out 0; have hfz9_1 := blk_frozen BK299.out 1) | ((with_reducible refine gate_callee (f := 64) rfl ?_); refine goesL_ (some 15) rfl rfl Try.func64 (by kernel_rfl) rfl #[.int .i64 a0, .agg #[.int .i64 ((rd_T31 l1 x9_1).f0), .string ((rd_T31 l1 x9_1).f1)]] rfl (by (try simp only [List.map_toArray, List.map_cons, List.map_nil]); first | done | rfl | (simp only [List.length_drop, List.length_take]; rfl)) ?_; (with_reducible refine (impl_ValOk.calls a0 ((rd_T31 l1 x9_1).f0) ((rd_T31 l1 x9_1).f1) true _ A6.out).mono ?_); rintro e w10 ⟨rfl, hb⟩; refine ⟨_, rfl, ?_⟩; have n0_ := Aside0.mk (blk_below (g := gb299) (o := .cells #[.int .i64 ((rd_T31 l1 x9_1).f0), .string ((rd_T31 l1 x9_1).f1)] 31 (0, 0)) (by (with_reducible repeat (first | refine blk_drewN ?_ _ | refine blk_drew ?_ | refine blk_alloc ?_ _)); refine blk_put (cs := #[.int .i64 ((rd_T31 l1 x9_1).f0), .string (⟨#[]⟩ : ByteArray)]) ?_ 1 _ rfl; (with_reducible repeat (first | refine blk_drewN ?_ _ | refine blk_drew ?_ | refine blk_alloc ?_ _)); refine blk_put (cs := #[.int .i64 0, .string (⟨#[]⟩ : ByteArray)]) ?_ 0 _ rfl; (with_reducible repeat (first | refine blk_drewN ?_ _ | refine blk_drew ?_ | refine blk_alloc ?_ _)); exact BK299.out) hb); have n1_ := Aside0.mk (below_step (by repeat (first | (with_reducible first | exact HB.out | apply below_alloc | apply pw_below_drewN | apply below_drew1 | refine below_set ?_ GE299.out) | exact HB.out)) hb); clear BK299; clear HB; have BK299 := n0_; have HB := n1_; clear n0_ n1_; (try clear hb); (try clear hb2); (try clear hk); (try clear hi)))
       go_roundg k1
       case measure => have := HK1.out; omega
       case rel => exact ⟨(wrap64 (x9_1 + 1)), (by first | rfl | (simp; done) | (simp [*]; done)), H', ⟨by have := HK1.out; omega⟩, ⟨by repeat (first | (with_reducible first | exact HB.out | apply below_alloc | apply pw_below_drewN | apply below_drew1 | refine below_set ?_ GE299.out) | exact HB.out)⟩⟩
      ·
       replace c7 := Bool.eq_false_iff.mpr c7
       subst c7
       have H1 : (some false) = some r := by rw [if_neg (show ¬ (false = true) by decide)] at H; exact H
       clear H
       have H := H1
       clear H1
       obtain rfl := Option.some.inj H
       have p298 : 0 ≤ (x9_1 : Int) := of_decide_eq_true (by first | (with_reducible assumption) | assumption)
       have q298 : x9_1 < (l1.length : Int) := of_decide_eq_true (by first | (with_reducible assumption) | assumption)
       obtain ⟨ad298, e298, hx298_0, hx298_1⟩ := at_T31 HR1.out x9_1 p298 q298
       cases e298
       replace hx298_0 := (HB.out.cell (World.block_lt_of_cell? w _ hx298_0)).trans hx298_0
       replace hx298_1 := (HB.out.cell (World.block_lt_of_cell? w _ hx298_1)).trans hx298_1
       replace p298 := eq_true p298
       replace q298 := eq_true q298
       go_wp2_with (first | ((with_reducible refine gate_dst (N := 6) rfl ?_); refine box_event ?hg (N := 6) ?hd (cs := #[.int .i64 0, .string (⟨#[]⟩ : ByteArray)]) (t := 31) ?hr ?_; (case hd => rfl); (case hg => rfl); (case hr => first | (go_simp; done) | (go_simp; rfl)); intro gb299 hg w11 hbox hb; have n0_ := Aside0.mk (below_step (by repeat (first | (with_reducible first | exact HB.out | apply below_alloc | apply pw_below_drewN | apply below_drew1) | exact HB.out)) hb); have n1_ := Aside0.mk (hbox); have n2_ := Aside0.mk ((by rw [hg]; exact (below_size (by repeat (first | (with_reducible first | exact HB.out | apply below_alloc | apply pw_below_drewN | apply below_drew1) | exact HB.out))) : w.heap.size ≤ gb299)); have n3_ := Aside0.mk ((by rw [hg]; exact (below_size (by repeat (first | (with_reducible first | exact HB.out | apply below_alloc | apply pw_below_drewN | apply below_drew1) | exact HB.out))) : w.heap.size ≤ gb299)); clear HB; have HB := n0_; have BK299 := n1_; have GW299 := n2_; have GE299 := n3_; clear n0_ n1_ n2_ n3_; clear hb hbox hg; have hcz12_0 : w11.cell? ⟨gb299, 0, none⟩ = some (.int .i64 0) := (blk_cell BK299.out 0).trans rfl; have hcz12_1 : w11.cell? ⟨gb299, 1, none⟩ = some (.string (⟨#[]⟩ : ByteArray)) := (blk_cell BK299.out 1).trans rfl; have hfz12_0 := blk_frozen BK299.out 0; have hfz12_1 := blk_frozen BK299.out 1) | ((with_reducible refine gate_callee (f := 64) rfl ?_); refine goesL_ (some 15) rfl rfl Try.func64 (by kernel_rfl) rfl #[.int .i64 a0, .agg #[.int .i64 ((rd_T31 l1 x9_1).f0), .string ((rd_T31 l1 x9_1).f1)]] rfl (by (try simp only [List.map_toArray, List.map_cons, List.map_nil]); first | done | rfl | (simp only [List.length_drop, List.length_take]; rfl)) ?_; (with_reducible refine (impl_ValOk.calls a0 ((rd_T31 l1 x9_1).f0) ((rd_T31 l1 x9_1).f1) false _ A6.out).mono ?_); rintro e w13 ⟨rfl, hb⟩; refine ⟨_, rfl, ?_⟩; have n0_ := Aside0.mk (blk_below (g := gb299) (o := .cells #[.int .i64 ((rd_T31 l1 x9_1).f0), .string ((rd_T31 l1 x9_1).f1)] 31 (0, 0)) (by (with_reducible repeat (first | refine blk_drewN ?_ _ | refine blk_drew ?_ | refine blk_alloc ?_ _)); refine blk_put (cs := #[.int .i64 ((rd_T31 l1 x9_1).f0), .string (⟨#[]⟩ : ByteArray)]) ?_ 1 _ rfl; (with_reducible repeat (first | refine blk_drewN ?_ _ | refine blk_drew ?_ | refine blk_alloc ?_ _)); refine blk_put (cs := #[.int .i64 0, .string (⟨#[]⟩ : ByteArray)]) ?_ 0 _ rfl; (with_reducible repeat (first | refine blk_drewN ?_ _ | refine blk_drew ?_ | refine blk_alloc ?_ _)); exact BK299.out) hb); have n1_ := Aside0.mk (below_step (by repeat (first | (with_reducible first | exact HB.out | apply below_alloc | apply pw_below_drewN | apply below_drew1 | refine below_set ?_ GE299.out) | exact HB.out)) hb); clear BK299; clear HB; have BK299 := n0_; have HB := n1_; clear n0_ n1_; (try clear hb); (try clear hb2); (try clear hk); (try clear hi)))
       go_ret
       exact ⟨by first | rfl | (simp [errW_none, errW_some] <;> rfl) | (simp [*, errW_none, errW_some] <;> rfl), by repeat (first | (with_reducible first | exact HB.out | apply below_alloc | apply pw_below_drewN | apply below_drew1 | refine below_set ?_ GE299.out) | exact HB.out)⟩
     ·
      rw [if_neg c5] at H
      exact absurd H (by simp)
    ·
     rw [if_neg c4] at H
     exact absurd H (by simp)
   ·
    rw [if_neg c3] at H
    have c3b0 : decide (x9_1 < (l1.length : Int)) = false := decide_eq_false c3
    clear c3
    by_cases c14 : (l1.length : Int) ≤ 2000
    ·
     rw [if_pos c14] at H
     have c14b0 : decide ((l1.length : Int) ≤ 2000) = true := decide_eq_true c14
     have c14b1 : decide (l1.length ≤ 2000) = true := decide_eq_true (by omega)
     clear c14
     replace H := Option.bind_eq_some_iff.mp H
     obtain ⟨t301, A150, H⟩ := H
     replace H : (some t301) = some r := H
     have A15 := Aside0.mk A150
     clear A150
     obtain rfl := Option.some.inj H
     go_wp2_with (first | (go_at_call 65; (with_reducible refine (impl_TypeOk.calls a0 t301 _ A15.out).mono ?_); rintro e w' ⟨rfl, ⟨nd, rfl⟩⟩))
     go_ret
     exact ⟨by first | rfl | (simp [errW_none, errW_some] <;> rfl) | (simp [*, errW_none, errW_some] <;> rfl), by repeat (first | (with_reducible first | exact HB.out | apply below_alloc | apply pw_below_drewN | apply below_drew1) | exact HB.out)⟩
    ·
     rw [if_neg c14] at H
     have c14b0 : decide ((l1.length : Int) ≤ 2000) = false := decide_eq_false c14
     have c14b1 : decide (l1.length ≤ 2000) = false := decide_eq_false (by omega)
     clear c14
     obtain rfl := Option.some.inj H
     go_wp2
     go_ret
     exact ⟨by first | rfl | (simp [errW_none, errW_some] <;> rfl) | (simp [*, errW_none, errW_some] <;> rfl), by repeat (first | (with_reducible first | exact HB.out | apply below_alloc | apply pw_below_drewN | apply below_drew1) | exact HB.out)⟩

/-! ### A map of the call's own, keyed by a struct of a number and a text, that tells of each key where it first stands in a list -/
theorem vk_row : (31 : TypeId) < Try.prog.types.size := of_decide_eq_true (by kernel_rfl)
theorem vk_wide : (match Try.prog.underlying 31 with | some (.array _ _) | some (.struct _) => true | _ => false) = true := by kernel_rfl
theorem vk_laid : laidOutB Try.prog = true := by kernel_rfl
theorem vk_law : Go.Maps.Keyed Try.prog 31 := Go.Maps.Keyed.of_law (deep_law_laid vk_laid (m := 3) (by omega) vk_row (by kernel_rfl) vk_wide)
theorem vk_type : Try.prog.keyType 31 = true := by kernel_rfl
theorem vk_cells : Try.prog.cellsOf 31 = 2 := by kernel_rfl
theorem vk_deep : ∃ n, Try.prog.types.size + 1 = n + 2 := ⟨Try.prog.types.size - 1, by have h : (31 : Nat) < Try.prog.types.size := vk_row; omega⟩
def vk_ok (x : S31) : Bool := (Lit.int .i64 x.f0).wf && decide (x.f1.size ≤ maxLen)
def vk_eq (x y : S31) : Bool := decide (x.f0 = y.f0) && decide (x.f1 = y.f1)
def vk_mem (x : S31) (xs : List (S31 × Int)) : Bool := xs.any (fun p => vk_eq x p.1)
def vk_at (x : S31) : List (S31 × Int) → Int
 | [] => 0
 | p :: r => if vk_eq x p.1 = true then p.2 else vk_at x r
def vk_in (n : Int) : Bool := (Lit.int .i64 n).wf
def vk_cell (x : S31) : Value := .agg #[.int .i64 x.f0, .string x.f1]
theorem vk_eq_iff {x y : S31} : vk_eq x y = true ↔ x = y := by
 cases x; cases y; simp [vk_eq]
theorem vk_key {x : S31} (h : vk_ok x = true) : ∃ kl, keyOf Try.prog 31 (vk_cell x) = some kl := by
 have hu := Try.underlying31
 simp only [vk_ok, Bool.and_eq_true, decide_eq_true_eq] at h
 obtain ⟨n, hn⟩ := vk_deep
 unfold keyOf vk_cell
 rw [hu]
 simp only []
 rw [vk_type, hn]
 have hi := Try.underlying3
 have hs := Try.underlying9
 have ci : Try.prog.cellsOf 3 = 1 := by kernel_rfl
 have cs : Try.prog.cellsOf 9 = 1 := by kernel_rfl
 simp [Value.formed, hu, vk_cells, Program.keyLits, Value.cells, hi, hs, ci, cs, h.1, h.2]
def mapBlock : Value → Option Nat
 | .map (some b) => some b
 | _ => none
/-- A map of the call's own: it reads as this list of keys and numbers (the first one counts). The first two arguments say nothing. -/
def Kd.Mp {α : Type} (_ : Kd α) (_ : Nat) (W : World) (base : Nat) (ok : Nat → Prop) (v : Value) (xs : List (S31 × Int)) : Prop :=
 (∀ k, mapBlock v = some k → ok k) ∧ ∃ b, v = .map (some b) ∧ base ≤ b ∧ ∃ D : DataW Unit, W.ownsMap Try.prog 31 (plainElem Try.prog 3) b xs.length D ∧ Go.Maps.IsMap D ∧
  ∀ x kl, keyOf Try.prog 31 (vk_cell x) = some kl → Go.Maps.has D kl = vk_mem x xs ∧ D.atKey kl (.lit (.int .i64 0)) = .lit (.int .i64 (vk_at x xs))
section
variable {α : Type} {d : Kd α} {e : Nat} {W W1 w0 : World} {base : Nat} {ok ok' : Nat → Prop} {v : Value} {xs : List (S31 × Int)}
theorem blk_lt0 {W : World} {g : Nat} {o : Obj} (h : W.heap[g]? = some o) : g < W.heap.size := (Array.getElem?_eq_some_iff.1 h).1
theorem Kd.Mp_grown0 (h : Kd.Mp d e W base ok v xs) {row : Option Nat} (hg : W.grownBy W1 row) (hne : mapBlock v ≠ row) : Kd.Mp d e W1 base ok v xs := by
 obtain ⟨h0, b, rfl, hb, D, ho, hD, hx⟩ := h
 exact ⟨h0, b, rfl, hb, D, ho.kept hg hne, hD, hx⟩
theorem Kd.Mp_below (h : Kd.Mp d e W base ok v xs) (hB : Below W.heap.size W W1) : Kd.Mp d e W1 base ok v xs := by
 obtain ⟨h0, b, rfl, hb, D, ho, hD, hx⟩ := h
 exact ⟨h0, b, rfl, hb, D, ho.kept (grown_of_below hB none) (by simp), hD, hx⟩
theorem Kd.Mp_alloc (h : Kd.Mp d e W base ok v xs) (o : Obj) : Kd.Mp d e (W.alloc o) base ok v xs := Kd.Mp_below h (below_alloc (Below.refl _ _) o)
theorem Kd.Mp_drewN (h : Kd.Mp d e W base ok v xs) (m : Nat) : Kd.Mp d e (W.drewN m) base ok v xs := Kd.Mp_below h (pw_below_drewN (Below.refl _ _) m)
theorem Kd.Mp_drew (h : Kd.Mp d e W base ok v xs) : Kd.Mp d e W.drew base ok v xs := Kd.Mp_below h (below_drew (Below.refl _ _))
theorem Kd.Mp_at {w' : World} {m : Nat} (hq : W.drewN m = w') (h : Kd.Mp d e W base ok v xs) : Kd.Mp d e w' base ok v xs := by subst hq; exact Kd.Mp_drewN h m
theorem Kd.Mp_lower (h : Kd.Mp d e W base ok v xs) {base2 : Nat} (hb2 : base2 ≤ base) : Kd.Mp d e W base2 ok v xs := by
 obtain ⟨h0, b, rfl, hb, r⟩ := h
 exact ⟨h0, b, rfl, Nat.le_trans hb2 hb, r⟩
theorem Kd.Mp_mono (h : Kd.Mp d e W base ok v xs) (hok : ∀ k, ok k → ok' k) : Kd.Mp d e W base ok' v xs := ⟨fun k hk => hok k (h.1 k hk), h.2⟩
theorem Kd.Mp_map (h : Kd.Mp d e W base ok v xs) : ∀ k, mapBlock v = some k → ∃ es clock, W.heap[k]? = some (.map es clock) := by
 obtain ⟨_, b, rfl, _, D, ⟨es, clock, hb, _⟩, _⟩ := h
 intro k hk
 have : b = k := by simpa [mapBlock] using hk
 subst this
 exact ⟨es, clock, hb⟩
theorem Kd.Mp_ne {g t : Nat} {cells : Array Value} {fr : Nat × Nat} (h : Kd.Mp d e W base ok v xs) (hb : W.heap[g]? = some (.cells cells t fr)) : some g ≠ mapBlock v := by
 intro he
 obtain ⟨es, clock, h2⟩ := Kd.Mp_map h g he.symm
 rw [hb] at h2
 cases h2
theorem Kd.Mp_blk {g : Nat} {o : Obj} (hb : W.heap[g]? = some o) (hg : W.grownBy W1 (mapBlock v)) (h : Kd.Mp d e W base ok v xs) (ho : ∀ es c, o ≠ .map es c) : W1.heap[g]? = some o :=
 (hg.block g (blk_lt0 hb) (fun he => by
  obtain ⟨es, clock, h2⟩ := Kd.Mp_map h g he.symm
  rw [hb] at h2
  exact ho es clock (Option.some.inj h2))).trans hb
theorem Kd.Mp_types (h : Kd.Mp d e W base ok v xs) {g t : Nat} {cells : Array Value} (hb : W.heap[g]? = some (.cells cells t (0, 0))) (_ : True) : Kd.Mp d e W base (fun k => ok k ∧ k ≠ g) v xs :=
 ⟨fun k hk => ⟨h.1 k hk, fun he => Kd.Mp_ne h hb (by rw [← he]; exact hk.symm)⟩, h.2⟩
theorem Kd.Mp_far (h : Kd.Mp d e W base ok v xs) {p : Addr} (hok : ∀ k, ok k → k ≠ p.block) (u : Value) : Kd.Mp d e (W.setCell p u) base ok v xs := by
 obtain ⟨h0, b, rfl, hb, D, ⟨es, clock, hh, r⟩, hD, hx⟩ := h
 exact ⟨h0, b, rfl, hb, D, ⟨es, clock, (Below.heap_setCell W p u b (hok b (h0 b rfl))).trans hh, r⟩, hD, hx⟩
theorem Kd.Mp_over' {u : Value} {e' : Nat} (h : Kd.Mp d e W base ok v xs) (hty : ∀ k, u.ownBlock = some k → ∃ cells, W.heap[k]? = some (.cells cells e' (0, 0))) (_ : True) (hg : W.grownBy W1 u.ownBlock) : Kd.Mp d e W1 base ok v xs := by
 refine Kd.Mp_grown0 h hg (fun he => ?_)
 have hb : ∃ b, mapBlock v = some b := by
  obtain ⟨_, b, rfl, _⟩ := h
  exact ⟨b, rfl⟩
 obtain ⟨b, hb⟩ := hb
 obtain ⟨cells, hc⟩ := hty b (he.symm.trans hb)
 exact Kd.Mp_ne h hc hb.symm
theorem R_map {β : Type} {d2 : Kd β} {e2 base2 : Nat} {ok2 : Nat → Prop} {u : Value} {ys : List β} (h : Kd.Mp d e W base ok v xs) (ho : d2.R e2 W base2 ok2 u ys) (hg : W.grownBy W1 (mapBlock v)) : d2.R e2 W1 base2 ok2 u ys := by
 refine Kd.R_mono (Kd.R_step (Kd.R_bound ho) (fun k hk hlt => hg.block k hlt (fun he => ?_))) (fun k hk => hk.1)
 obtain ⟨_, _, _, q, _, cells, hc⟩ := hk
 exact Kd.Mp_ne h hc he
end
section
variable {ops : Array Oper} {rest : List Oper} {o : Oper} {a : Act} {Q : Exit → Act → World → Prop} {α : Type}
theorem map_made (d : Kd α) (e : Nat) {w0 W : World} (base : Nat) (hgd : o.guard = none) {N : Tmp} (_hd : o.dst = some N) (ho : o.op = .makeMap 55 none) (HB : Below base w0 W) (hbase : base ≤ W.heap.size)
  (h : ∀ v w1, Kd.Mp d e w1 base (fun _ => True) v [] → Below base w0 w1 → W.grownBy w1 none → wpList Try.prog ops Q rest (a.put o.dst v) w1) : wpList Try.prog ops Q (o :: rest) a W := by
 refine Kd.event_run hgd (w1 := W.alloc (.map #[] 0)) (v := .map (some W.heap.size)) ?_ ?_
 ·
  have hm := @run_makeMap Try.prog 55 W
  simp [execOp, ho, hm, Result.andThen]
 ·
  exact h _ _ ⟨fun _ _ => trivial, _, rfl, hbase, _, World.ownsMap_made W Try.prog 31 _, ⟨_, rfl⟩, fun x kl _ => ⟨by simp [vk_mem, Go.Maps.has], by simp [vk_at, DataW.atKey]⟩⟩ (HB.alloc hbase _) (World.grownBy_alloc W _ none)
theorem map_look {W : World} (d : Kd α) (e : Nat) (base : Nat) (ok : Nat → Prop) (v : Value) (xs : List (S31 × Int)) (hgd : o.guard = none) {N : Tmp} (_hd : o.dst = some N) (m y : Operand) (ho : o.op = .lookup 55 m y true) (x : S31) (hx : vk_ok x = true) (hm : a.eval m = v) (hy : a.eval y = vk_cell x) (HM : Kd.Mp d e W base ok v xs)
  (h : wpList Try.prog ops Q rest (a.put o.dst (.tuple #[.int .i64 (vk_at x xs), .bool (vk_mem x xs)])) W) : wpList Try.prog ops Q (o :: rest) a W := by
 obtain ⟨kl, hk⟩ := vk_key hx
 obtain ⟨_, b, rfl, hb, D, hown, hD, hx2⟩ := HM
 obtain ⟨e1, e2⟩ := hx2 x kl hk
 refine wpList_lookup_own_ok_int W hgd m y 55 ho 31 3 .i64 vk_law Try.underlying55 Try.underlying3 (by kernel_rfl) b xs.length D hm hown _ kl hy hk ?_
 intro c hc _
 rw [e2] at hc
 obtain rfl : vk_at x xs = c := by injection hc with hc; injection hc
 rw [e1]
 exact h
theorem map_put {w0 W : World} (d : Kd α) (e : Nat) (base : Nat) (ok : Nat → Prop) (v : Value) (xs : List (S31 × Int)) (hgd : o.guard = none) (m y z : Operand) (ho : o.op = .mapUpdate 55 m y z) (x : S31) (n : Int) (hx : vk_ok x = true) (hn : vk_in n = true) (hm : a.eval m = v) (hy : a.eval y = vk_cell x) (hz : a.eval z = .int .i64 n) (HM : Kd.Mp d e W base ok v xs)
  (hlen : xs.length < 5864062014805) (HB : Below base w0 W) (hbase : base ≤ W.heap.size)
  (h : ∀ w1, Kd.Mp d e w1 base ok v ((x, n) :: xs) → Below base w0 w1 → W.grownBy w1 (mapBlock v) → wpList Try.prog ops Q rest (a.put o.dst undef) w1) : wpList Try.prog ops Q (o :: rest) a W := by
 obtain ⟨kl, hk⟩ := vk_key hx
 obtain ⟨h0, b, rfl, hb, D, hown, hD, hx2⟩ := HM
 refine wpList_mapUpdate_own W hgd m y z 55 ho 31 3 vk_law Try.underlying55 (plainElem Try.prog 3) b xs.length D hm hown (by simp only [maxLen]; omega) _ _ kl hy hz hk (.lit (.int .i64 n)) [] (plainElem_int Try.underlying3 hn) ?_
 intro w1 hown1 hg1
 refine h w1 ⟨h0, b, rfl, hb, _, hown1, Go.Maps.IsMap.put hD _ _, fun x' kl' hk' => ?_⟩ (HB.grown hg1 hbase (fun k hk => ?_)) hg1
 ·
  obtain ⟨e3, e4⟩ := hx2 x' kl' hk'
  by_cases hq : kl' = kl
  ·
   subst hq
   have hisk := vk_law.key hk
   have hxx : x' = x := by
    have := vk_law.inj hk' hk
    cases x; cases x'; simpa [vk_cell] using this
   subst hxx
   rw [Go.Maps.has_put_same hD hisk, Go.Maps.atKey_put_same hD hisk]
   simp [vk_mem, vk_at, vk_eq_iff.2 rfl]
  ·
   have hne : vk_eq x' x = false := by
    cases hh : vk_eq x' x
    ·
     rfl
    ·
     refine absurd ?_ hq
     obtain rfl := vk_eq_iff.1 hh
     rw [hk] at hk'; exact (Option.some.inj hk').symm
   rw [Go.Maps.has_put_other hq, Go.Maps.atKey_put_other hq, e3, e4]
   simp [vk_mem, vk_at, hne]
 ·
  injection hk with hk
  omega
end
/-! ### impl_DictOf: function 8 -/
def impl_DictOf.l0 : Nat → List (S31) → List Int → List (S31 × Int) → List (S31) → Int → Int → Option ((List (S31)) × List Int × Bool)
 | 0, _, _, _, _, _, _ => none
 | k + 1, x7, x8, x9, x21, x22, x23 => if x23 < x22 then (if 0 ≤ x23 then (if x23 < (x21.length : Int) then (if vk_ok (⟨(rd_T31 x21 x23).f0, (rd_T31 x21 x23).f1⟩ : S31) = true then (if (vk_mem (⟨(rd_T31 x21 x23).f0, (rd_T31 x21 x23).f1⟩ : S31) x9 = true) then (if x8.length < 17592186044416 then (impl_DictOf.l0 k x7 (x8 ++ [vk_at (⟨(rd_T31 x21 x23).f0, (rd_T31 x21 x23).f1⟩ : S31) x9]) x9 x21 x22 (wrap64 (x23 + 1))) else (none)) else (if vk_in (x7.length : Int) = true then (if x9.length < 5864062014805 then (if x7.length < 5864062014805 then (if x8.length < 17592186044416 then (impl_DictOf.l0 k (x7 ++ [(⟨(rd_T31 x21 x23).f0, (rd_T31 x21 x23).f1⟩ : S31)]) (x8 ++ [(x7.length : Int)]) (((⟨(rd_T31 x21 x23).f0, (rd_T31 x21 x23).f1⟩ : S31), (x7.length : Int)) :: x9) x21 x22 (wrap64 (x23 + 1))) else (none)) else (none)) else (none)) else (none))) else (none)) else (none)) else (none)) else (some (x7, x8, true))
def impl_DictOf.f (k : Nat) (a0 : Int) (l1 : List (S31)) : Option ((List (S31)) × List Int × Bool) := (impl_valsOk.f k a0 l1).bind fun t302 => (if t302 = true then (impl_DictOf.l0 k (([] : List (S31))) (([] : List Int)) ([]) l1 (l1.length : Int) 0) else (some (([] : List (S31)), ([] : List Int), false)))
theorem impl_DictOf.mono_l : ∀ k, (∀ y0 y1 y2 y3 y4 y5, LeO (impl_DictOf.l0 k y0 y1 y2 y3 y4 y5) (impl_DictOf.l0 (k + 1) y0 y1 y2 y3 y4 y5))
 | 0 => fun _ _ _ _ _ _ r h => by simp [impl_DictOf.l0] at h
 | k + 1 => by
  have ih0 := impl_DictOf.mono_l k
  ·
   intro y0 y1 y2 y3 y4 y5
   unfold impl_DictOf.l0
   repeat' first
   | (with_reducible exact ih0 _ _ _ _ _ _)
   | (with_reducible exact impl_valsOk.mono _ _ _)
   | (with_reducible exact LeO.refl _)
   | (with_reducible exact LeO.none _)
   | (with_reducible refine LeO.ite ?_ ?_)
   | (with_reducible refine LeO.bind ?_ (fun _ => ?_))
   | exact ih0 _ _ _ _ _ _
   | exact impl_valsOk.mono _ _ _
   | exact LeO.none _
   | refine LeO.ite ?_ ?_
   | refine LeO.bind ?_ (fun _ => ?_)
theorem impl_DictOf.mono : ∀ a0 a1 k, LeO (impl_DictOf.f k a0 a1) (impl_DictOf.f (k + 1) a0 a1) := by
 intro a0 a1 k
 have ih0 := impl_DictOf.mono_l k
 unfold impl_DictOf.f
 repeat' first
   | (with_reducible exact ih0 _ _ _ _ _ _)
   | (with_reducible exact impl_valsOk.mono _ _ _)
   | (with_reducible exact LeO.refl _)
   | (with_reducible exact LeO.none _)
   | (with_reducible refine LeO.ite ?_ ?_)
   | (with_reducible refine LeO.bind ?_ (fun _ => ?_))
   | exact ih0 _ _ _ _ _ _
   | exact impl_valsOk.mono _ _ _
   | exact LeO.none _
   | refine LeO.ite ?_ ?_
   | refine LeO.bind ?_ (fun _ => ?_)
set_option maxHeartbeats 8000000 in
set_option maxRecDepth 100000 in
theorem impl_DictOf.calls (k : Nat) (a0 : Int) (A1 : Option Addr) (c1 : Nat) (l1 : List (S31)) (r1 : List (S31)) (r2 : List Int) (r3 : Bool) (w : World) (hr1 : Kd.C k31 w A1 l1.length l1) (hc1 : l1.length ≤ c1) (h : impl_DictOf.f k a0 l1 = some (r1, r2, r3)) :
  Calls Try.prog 8 #[.int .i64 a0, .slice A1 l1.length c1] w fun e w' => ∃ v0_ v1_ : Value, e = .returned (.tuple #[v0_, v1_, .bool r3]) ∧ Kd.R k31 31 w' w.heap.size (fun _ => True) v0_ r1 ∧ Kd.R (Kd.int .i64) 3 w' w.heap.size (fun _ => True) v1_ r2 ∧ Below w.heap.size w w' := by
 have hu31 := Try.underlying31
 have HR1 := Aside0.mk hr1
 have HC1 := Aside0.mk hc1
 clear hr1 hc1
 have HB := Aside0.mk (Below.refl w.heap.size w)
 have H : ((impl_valsOk.f k a0 l1).bind fun t302 => (if t302 = true then (impl_DictOf.l0 k (([] : List (S31))) (([] : List Int)) ([]) l1 (l1.length : Int) 0) else (some (([] : List (S31)), ([] : List Int), false)))) = some (r1, r2, r3) := h
 clear h
 replace H := Option.bind_eq_some_iff.mp H
 obtain ⟨t302, A30, H⟩ := H
 replace H : (if t302 = true then (impl_DictOf.l0 k (([] : List (S31))) (([] : List Int)) ([]) l1 (l1.length : Int) 0) else (some (([] : List (S31)), ([] : List Int), false))) = some (r1, r2, r3) := H
 have A3 := Aside0.mk A30
 clear A30
 by_cases c4 : t302 = true
 ·
  subst c4
  have H1 : (impl_DictOf.l0 k (([] : List (S31))) (([] : List Int)) ([]) l1 (l1.length : Int) 0) = some (r1, r2, r3) := by rw [if_pos rfl] at H; exact H
  clear H
  have H := H1
  clear H1
  obtain ⟨y303, hy303⟩ : ∃ y_ : List (S31), y_ = (([] : List (S31))) := ⟨_, rfl⟩
  replace H : (impl_DictOf.l0 k y303 (([] : List Int)) ([]) l1 (l1.length : Int) 0) = some (r1, r2, r3) := by first | (rw [hy303]; with_reducible exact H) | (have H2_ := (Option.bind_some _ _).symm.trans H; rw [hy303]; with_reducible exact H2_) | (have H2_ := (Option.bind_some _ _).symm.trans H; with_reducible exact H2_) | with_reducible exact H | (rw [hy303]; exact H) | exact H
  have Ny303 := Aside0.mk hy303
  clear hy303
  obtain ⟨y306, hy306⟩ : ∃ y_ : List Int, y_ = (([] : List Int)) := ⟨_, rfl⟩
  replace H : (impl_DictOf.l0 k y303 y306 ([]) l1 (l1.length : Int) 0) = some (r1, r2, r3) := by first | (rw [hy306]; with_reducible exact H) | (have H2_ := (Option.bind_some _ _).symm.trans H; rw [hy306]; with_reducible exact H2_) | (have H2_ := (Option.bind_some _ _).symm.trans H; with_reducible exact H2_) | with_reducible exact H | (rw [hy306]; exact H) | exact H
  have Ny306 := Aside0.mk hy306
  clear hy306
  obtain ⟨y309, hy309⟩ : ∃ y_ : List (S31 × Int), y_ = ([]) := ⟨_, rfl⟩
  replace H : (impl_DictOf.l0 k y303 y306 y309 l1 (l1.length : Int) 0) = some (r1, r2, r3) := by first | (rw [hy309]; with_reducible exact H) | (have H2_ := (Option.bind_some _ _).symm.trans H; rw [hy309]; with_reducible exact H2_) | (have H2_ := (Option.bind_some _ _).symm.trans H; with_reducible exact H2_) | with_reducible exact H | (rw [hy309]; exact H) | exact H
  have Ny309 := Aside0.mk hy309
  clear hy309
  have H' := Aside0.mk H
  clear H
  go_enter Try.func8, Try.ntmps8
  go_wp2_with (first | ((with_reducible refine gate_callee (f := 30) rfl ?_); refine goesL_ (some 16) rfl rfl Try.func30 (by kernel_rfl) rfl #[.int .i64 a0, .slice A1 l1.length c1] rfl (by (try simp only [List.map_toArray, List.map_cons, List.map_nil]); first | done | rfl | (simp only [List.length_drop, List.length_take]; rfl)) ?_; (with_reducible refine (impl_valsOk.calls k a0 _ _ l1 true _ ?side1 ?side2 A3.out).mono ?_); (case side1 => repeat (first | exact HR1.out | (with_reducible refine Kd.C_alloc ?_ _) | (with_reducible refine Kd.C_drewN ?_ _) | (with_reducible refine Kd.C_drew ?_))); (case side2 => exact HC1.out); rintro e w5 ⟨rfl, hb⟩; refine ⟨_, rfl, ?_⟩; have n0_ := Aside0.mk (below_step (by repeat (first | (with_reducible first | exact HB.out | apply below_alloc | apply pw_below_drewN | apply below_drew1) | exact HB.out)) hb); clear HB; have HB := n0_; clear n0_; (try clear hb); (try clear hb2); (try clear hk); (try clear hi)) | ((with_reducible refine gate_dst (N := 18) rfl ?_); refine Kd.R_lit k31 _ 31 ?hg (N := 18) ?hd (xs := ([] : List (S31))) (inner := []) (ok := fun _ => True) (okp := fun _ => True) ?hr ?hp (fun _ hk => hk) trivial (Below.refl _ _) (Nat.le_refl _) (by simp) ?_; (case hd => rfl); (case hg => rfl); (case hr => first | (go_simp; done) | (go_simp; rfl)); (case hp => exact (Reps.none _ _)); intro v304 w6 ho7 hb hg_ hnew_; clear hg_ hnew_; (first | rw [← Ny303.out] at ho7 | (simp only [Int.reduceToNat] at ho7; rw [← Ny303.out] at ho7)); have n0_ := Aside0.mk (Kd.R_lower ho7 (below_size (by repeat (first | (with_reducible first | exact HB.out | apply below_alloc | apply pw_below_drewN | apply below_drew1) | exact HB.out)))); have n1_ := Aside0.mk (below_step (by repeat (first | (with_reducible first | exact HB.out | apply below_alloc | apply pw_below_drewN | apply below_drew1) | exact HB.out)) hb); clear HB; have HO305 := n0_; have HB := n1_; clear n0_ n1_; clear hb ho7) | ((with_reducible refine gate_dst (N := 19) rfl ?_); refine Kd.R_lit (Kd.int .i64) _ 3 ?hg (N := 19) ?hd (xs := ([] : List Int)) (inner := []) (ok := fun _ => True) (okp := fun _ => True) ?hr ?hp (fun _ hk => hk) trivial (Below.refl _ _) (Nat.le_refl _) (by simp) ?_; (case hd => rfl); (case hg => rfl); (case hr => first | (go_simp; done) | (go_simp; rfl)); (case hp => exact (Reps.none _ _)); intro v307 w8 ho9 hb hg_ hnew_; clear hg_ hnew_; (first | rw [← Ny306.out] at ho9 | (simp only [Int.reduceToNat] at ho9; rw [← Ny306.out] at ho9)); have n0_ := Aside0.mk (Kd.R_below (by (with_reducible repeat (first | apply Kd.R_alloc | apply Kd.R_drewN | apply Kd.R_drew)); exact HO305.out) hb); have n1_ := Aside0.mk (Kd.R_lower ho9 (below_size (by repeat (first | (with_reducible first | exact HB.out | apply below_alloc | apply pw_below_drewN | apply below_drew1) | exact HB.out)))); have n2_ := Aside0.mk (below_step (by repeat (first | (with_reducible first | exact HB.out | apply below_alloc | apply pw_below_drewN | apply below_drew1) | exact HB.out)) hb); clear HO305; clear HB; have HO305 := n0_; have HO308 := n1_; have HB := n2_; clear n0_ n1_ n2_; clear hb ho9) | ((with_reducible refine gate_dst (N := 20) rfl ?_); refine map_made k31 9000055 _ rfl (N := 20) rfl rfl (Below.refl _ _) (Nat.le_refl _) ?_; intro v310 w10 ho11 hb hg_; clear hg_; rw [← Ny309.out] at ho11; have n0_ := Aside0.mk (Kd.R_below (by (with_reducible repeat (first | apply Kd.R_alloc | apply Kd.R_drewN | apply Kd.R_drew)); exact HO305.out) hb); have n1_ := Aside0.mk (Kd.R_below (by (with_reducible repeat (first | apply Kd.R_alloc | apply Kd.R_drewN | apply Kd.R_drew)); exact HO308.out) hb); have n2_ := Aside0.mk (Kd.Mp_lower ho11 (below_size (by repeat (first | (with_reducible first | exact HB.out | apply below_alloc | apply pw_below_drewN | apply below_drew1) | exact HB.out)))); have n3_ := Aside0.mk (below_step (by repeat (first | (with_reducible first | exact HB.out | apply below_alloc | apply pw_below_drewN | apply below_drew1) | exact HB.out)) hb); clear HO305; clear HO308; clear HB; have HO305 := n0_; have HO308 := n1_; have HO311 := n2_; have HB := n3_; clear n0_ n1_ n2_ n3_; clear hb ho11))
  go_loopg [7, 8, 23] k (fun kq v7 v8 v23 w' => ∃ (x7_1 : List (S31)) (x8_1 : List Int) (x9_1 : List (S31 × Int)) (x23_1 : Int), v23 = .int .i64 x23_1 ∧ Aside0 (impl_DictOf.l0 kq x7_1 x8_1 x9_1 l1 (l1.length : Int) x23_1 = some (r1, r2, r3)) ∧ Aside0 (kq ≤ k) ∧ Aside0 (Kd.R k31 31 w' w.heap.size (fun _ => True) v7 x7_1) ∧ Aside0 (Kd.R (Kd.int .i64) 3 w' w.heap.size (fun _ => True) v8 x8_1) ∧ Aside0 (Kd.Mp k31 9000055 w' w.heap.size (fun _ => True) v310 x9_1) ∧ Aside0 (Below w.heap.size w w'))
  case atStart => exact ⟨(y303), (y306), (y309), (0), (by first | rfl | (simp; done) | (simp [*]; done)), H', ⟨Nat.le_refl _⟩, ⟨by (with_reducible repeat (first | apply Kd.R_alloc | apply Kd.R_drewN | apply Kd.R_drew)); exact HO305.out⟩, ⟨by (with_reducible repeat (first | apply Kd.R_alloc | apply Kd.R_drewN | apply Kd.R_drew)); exact HO308.out⟩, ⟨by (with_reducible repeat (first | apply Kd.Mp_alloc | apply Kd.Mp_drewN | apply Kd.Mp_drew)); exact HO311.out⟩, ⟨by repeat (first | (with_reducible first | exact HB.out | apply below_alloc | apply pw_below_drewN | apply below_drew1) | exact HB.out)⟩⟩
  case round =>
   clear H'
   try clear c1
   try clear p2
   try clear c3
   try clear c4
   try clear c8
   obtain ⟨x7_1, x8_1, x9_1, x23_1, rfl, HA, HK1, HO_7, HO_8, HO_9, HB⟩ := hrel
   cases gk with
   | zero => exact absurd HA.out (by simp [impl_DictOf.l0])
   | succ k1 =>
    have H := HA.out
    clear HA
    simp only [impl_DictOf.l0] at H
    by_cases c12 : x23_1 < (l1.length : Int)
    ·
     rw [if_pos c12] at H
     have c12b0 : decide (x23_1 < (l1.length : Int)) = true := decide_eq_true c12
     clear c12
     by_cases c13 : 0 ≤ x23_1
     ·
      rw [if_pos c13] at H
      have c13b0 : decide (0 ≤ x23_1) = true := decide_eq_true c13
      clear c13
      by_cases c14 : x23_1 < (l1.length : Int)
      ·
       rw [if_pos c14] at H
       have c14b0 : decide (x23_1 < (l1.length : Int)) = true := decide_eq_true c14
       clear c14
       by_cases c15 : vk_ok (⟨(rd_T31 l1 x23_1).f0, (rd_T31 l1 x23_1).f1⟩ : S31) = true
       ·
        rw [if_pos c15] at H
        have LMc15 := Aside0.mk c15
        clear c15
        by_cases c16 : (vk_mem (⟨(rd_T31 l1 x23_1).f0, (rd_T31 l1 x23_1).f1⟩ : S31) x9_1 = true)
        ·
         rw [if_pos c16] at H
         have c16b0 : vk_mem (⟨(rd_T31 l1 x23_1).f0, (rd_T31 l1 x23_1).f1⟩ : S31) x9_1 = true := c16
         clear c16
         by_cases c17 : x8_1.length < 17592186044416
         ·
          rw [if_pos c17] at H
          have LMc17 := Aside0.mk c17
          clear c17
          obtain ⟨y314, hy314⟩ : ∃ y_ : List Int, y_ = (x8_1 ++ [vk_at (⟨(rd_T31 l1 x23_1).f0, (rd_T31 l1 x23_1).f1⟩ : S31) x9_1]) := ⟨_, rfl⟩
          replace H : (impl_DictOf.l0 k1 x7_1 y314 x9_1 l1 (l1.length : Int) (wrap64 (x23_1 + 1))) = some (r1, r2, r3) := by first | (rw [hy314]; with_reducible exact H) | (have H2_ := (Option.bind_some _ _).symm.trans H; rw [hy314]; with_reducible exact H2_) | (have H2_ := (Option.bind_some _ _).symm.trans H; with_reducible exact H2_) | with_reducible exact H | (rw [hy314]; exact H) | exact H
          have Ny314 := Aside0.mk hy314
          clear hy314
          have H' := Aside0.mk H
          clear H
          have p312 : 0 ≤ (x23_1 : Int) := of_decide_eq_true (by first | (with_reducible assumption) | assumption)
          have q312 : x23_1 < (l1.length : Int) := of_decide_eq_true (by first | (with_reducible assumption) | assumption)
          obtain ⟨ad312, e312, hx312_0, hx312_1⟩ := at_T31 HR1.out x23_1 p312 q312
          cases e312
          replace hx312_0 := (HB.out.cell (World.block_lt_of_cell? w _ hx312_0)).trans hx312_0
          replace hx312_1 := (HB.out.cell (World.block_lt_of_cell? w _ hx312_1)).trans hx312_1
          replace p312 := eq_true p312
          replace q312 := eq_true q312
          go_wp2_with (first | ((with_reducible refine gate_dst (N := 11) rfl ?_); refine box_event ?hg (N := 11) ?hd (cs := #[.int .i64 0, .string (⟨#[]⟩ : ByteArray)]) (t := 31) ?hr ?_; (case hd => rfl); (case hg => rfl); (case hr => first | (go_simp; done) | (go_simp; rfl)); intro gb313 hg w18 hbox hb; have n0_ := Aside0.mk (Kd.R_below (Kd.R_elderB (by (with_reducible repeat (first | apply Kd.R_alloc | apply Kd.R_drewN | apply Kd.R_drew)); exact HO_7.out) gb313 (Nat.le_of_eq hg.symm)) hb); have n1_ := Aside0.mk (Kd.R_below (by (with_reducible repeat (first | apply Kd.R_alloc | apply Kd.R_drewN | apply Kd.R_drew)); exact HO_8.out) hb); have n2_ := Aside0.mk (Kd.Mp_below (by (with_reducible repeat (first | apply Kd.Mp_alloc | apply Kd.Mp_drewN | apply Kd.Mp_drew)); exact HO_9.out) hb); have n3_ := Aside0.mk (below_step (by repeat (first | (with_reducible first | exact HB.out | apply below_alloc | apply pw_below_drewN | apply below_drew1) | exact HB.out)) hb); have n4_ := Aside0.mk (hbox); have n5_ := Aside0.mk ((by rw [hg]; exact (below_size (by repeat (first | (with_reducible first | exact HB.out | apply below_alloc | apply pw_below_drewN | apply below_drew1) | exact HB.out))) : w.heap.size ≤ gb313)); have n6_ := Aside0.mk ((by rw [hg]; exact (below_size (by repeat (first | (with_reducible first | exact HB.out | apply below_alloc | apply pw_below_drewN | apply below_drew1) | exact HB.out))) : w.heap.size ≤ gb313)); clear HO_7; clear HO_8; clear HO_9; clear HB; have HO_7 := n0_; have HO_8 := n1_; have HO_9 := n2_; have HB := n3_; have BK313 := n4_; have GW313 := n5_; have GE313 := n6_; clear n0_ n1_ n2_ n3_ n4_ n5_ n6_; clear hb hbox hg; have hcz19_0 : w18.cell? ⟨gb313, 0, none⟩ = some (.int .i64 0) := (blk_cell BK313.out 0).trans rfl; have hcz19_1 : w18.cell? ⟨gb313, 1, none⟩ = some (.string (⟨#[]⟩ : ByteArray)) := (blk_cell BK313.out 1).trans rfl; have hfz19_0 := blk_frozen BK313.out 0; have hfz19_1 := blk_frozen BK313.out 1) | ((with_reducible refine gate_dst (N := 30) rfl ?_); refine map_look k31 9000055 w.heap.size (fun _ => True) v310 x9_1 rfl (N := 30) rfl (.tmp 28) (.tmp 29) rfl (⟨(rd_T31 l1 x23_1).f0, (rd_T31 l1 x23_1).f1⟩ : S31) LMc15.out rfl (by first | (go_simp; done) | (go_simp; rfl)) (by (with_reducible repeat (first | apply Kd.Mp_alloc | apply Kd.Mp_drewN | apply Kd.Mp_drew)); exact (Kd.Mp_mono (Kd.Mp_far (p := ⟨gb313, 1, none⟩) (Kd.Mp_far (p := ⟨gb313, 0, none⟩) (Kd.Mp_types HO_9.out BK313.out (by decide)) (fun _ hk => hk.2) (.int .i64 ((rd_T31 l1 x23_1).f0))) (fun _ hk => hk.2) (.string ((rd_T31 l1 x23_1).f1))) (fun _ h_ => h_.1))) ?_) | ((with_reducible refine gate_builtin (b := .append) (xs := #[.tmp 44, .tmp 46]) rfl ?_); at_builtin; refine Kd.R_append (Kd.int .i64) (w0 := w) w.heap.size rfl (.tmp 44) (.tmp 46) 27 3 (.int .i64 0) 8 rfl Try.underlying27 info3 rfl (by decide) (by omega) u8 x8_1 (vk_at (⟨(rd_T31 l1 x23_1).f0, (rd_T31 l1 x23_1).f1⟩ : S31) x9_1) [.int .i64 (vk_at (⟨(rd_T31 l1 x23_1).f0, (rd_T31 l1 x23_1).f1⟩ : S31) x9_1)] (fun _ => True) (fun _ => False) rfl (by first | (go_simp; done) | (go_simp; rfl)) ?aP (fun _ hk => hk.elim) ?aF ?aO ?aB ?aS ?aL ?_; (case aP => exact rfl); (case aB => exact (by repeat (first | (with_reducible first | exact HB.out | apply below_alloc | apply pw_below_drewN | apply below_drew1 | refine below_set ?_ GE313.out) | exact HB.out))); (case aF => exact (fun _ _ => trivial)); (case aO => exact (by (with_reducible repeat (first | apply Kd.R_alloc | apply Kd.R_drewN | apply Kd.R_drew)); exact Kd.R_mono (Kd.R_far (p := ⟨gb313, 1, none⟩) (Kd.R_far (p := ⟨gb313, 0, none⟩) (Kd.R_types HO_8.out BK313.out (by decide)) (fun _ hk => hk.2) (.int .i64 ((rd_T31 l1 x23_1).f0))) (fun _ hk => hk.2) (.string ((rd_T31 l1 x23_1).f1))) (fun _ hk => trivial))); (case aS => exact (below_size (by repeat (first | (with_reducible first | exact HB.out | apply below_alloc | apply pw_below_drewN | apply below_drew1 | refine below_set ?_ GE313.out) | exact HB.out)))); (case aL => have := LMc17.out; omega); intro v315 w20 ho hb hg hat; rw [← Ny314.out] at ho; have n0_ := Aside0.mk (Kd.R_over' (by (with_reducible repeat (first | apply Kd.R_alloc | apply Kd.R_drewN | apply Kd.R_drew)); exact (Kd.R_mono (Kd.R_far (p := ⟨gb313, 1, none⟩) (Kd.R_far (p := ⟨gb313, 0, none⟩) (Kd.R_mono HO_7.out (fun k_ hk => (⟨hk, hk.2⟩ : _ ∧ k_ ≠ gb313))) (fun _ hk => hk.2) (.int .i64 ((rd_T31 l1 x23_1).f0))) (fun _ hk => hk.2) (.string ((rd_T31 l1 x23_1).f1))) (fun _ h_ => h_.1))) (Kd.R_typed (by (with_reducible repeat (first | apply Kd.R_alloc | apply Kd.R_drewN | apply Kd.R_drew)); exact (Kd.R_mono (Kd.R_far (p := ⟨gb313, 1, none⟩) (Kd.R_far (p := ⟨gb313, 0, none⟩) (Kd.R_types HO_8.out BK313.out (by decide)) (fun _ hk => hk.2) (.int .i64 ((rd_T31 l1 x23_1).f0))) (fun _ hk => hk.2) (.string ((rd_T31 l1 x23_1).f1))) (fun _ h_ => h_.1)))) (by decide) hg); have n1_ := Aside0.mk (Kd.Mp_over' (by (with_reducible repeat (first | apply Kd.Mp_alloc | apply Kd.Mp_drewN | apply Kd.Mp_drew)); exact (Kd.Mp_mono (Kd.Mp_far (p := ⟨gb313, 1, none⟩) (Kd.Mp_far (p := ⟨gb313, 0, none⟩) (Kd.Mp_types HO_9.out BK313.out (by decide)) (fun _ hk => hk.2) (.int .i64 ((rd_T31 l1 x23_1).f0))) (fun _ hk => hk.2) (.string ((rd_T31 l1 x23_1).f1))) (fun _ h_ => h_.1))) (Kd.R_typed (by (with_reducible repeat (first | apply Kd.R_alloc | apply Kd.R_drewN | apply Kd.R_drew)); exact (Kd.R_mono (Kd.R_far (p := ⟨gb313, 1, none⟩) (Kd.R_far (p := ⟨gb313, 0, none⟩) (Kd.R_types HO_8.out BK313.out (by decide)) (fun _ hk => hk.2) (.int .i64 ((rd_T31 l1 x23_1).f0))) (fun _ hk => hk.2) (.string ((rd_T31 l1 x23_1).f1))) (fun _ h_ => h_.1)))) (by decide) hg); have n2_ := Aside0.mk (blk_grown (g := gb313) (o := .cells #[.int .i64 ((rd_T31 l1 x23_1).f0), .string ((rd_T31 l1 x23_1).f1)] 31 (0, 0)) (by (with_reducible repeat (first | refine blk_drewN ?_ _ | refine blk_drew ?_ | refine blk_alloc ?_ _)); refine blk_put (cs := #[.int .i64 ((rd_T31 l1 x23_1).f0), .string (⟨#[]⟩ : ByteArray)]) ?_ 1 _ rfl; (with_reducible repeat (first | refine blk_drewN ?_ _ | refine blk_drew ?_ | refine blk_alloc ?_ _)); refine blk_put (cs := #[.int .i64 0, .string (⟨#[]⟩ : ByteArray)]) ?_ 0 _ rfl; (with_reducible repeat (first | refine blk_drewN ?_ _ | refine blk_drew ?_ | refine blk_alloc ?_ _)); exact BK313.out) hg (Kd.R_ne HO_8.out BK313.out (by decide))); have n3_ := Aside0.mk (hb); have n4_ := Aside0.mk (ho); clear HO_7; clear HO_9; clear BK313; clear HB; clear HO_8; have HO_7 := n0_; have HO_9 := n1_; have BK313 := n2_; have HB := n3_; have HO316 := n4_; clear n0_ n1_ n2_ n3_ n4_; clear ho hb hg hat))
          go_roundg k1
          case measure => have := HK1.out; omega
          case rel => exact ⟨(x7_1), (y314), (x9_1), (wrap64 (x23_1 + 1)), (by first | rfl | (simp; done) | (simp [*]; done)), H', ⟨by have := HK1.out; omega⟩, ⟨by (with_reducible repeat (first | apply Kd.R_alloc | apply Kd.R_drewN | apply Kd.R_drew)); exact Kd.R_mono HO_7.out (fun _ hk => trivial)⟩, ⟨by (with_reducible repeat (first | apply Kd.R_alloc | apply Kd.R_drewN | apply Kd.R_drew)); exact HO316.out⟩, ⟨by (with_reducible repeat (first | apply Kd.Mp_alloc | apply Kd.Mp_drewN | apply Kd.Mp_drew)); exact HO_9.out⟩, ⟨by repeat (first | (with_reducible first | exact HB.out | apply below_alloc | apply pw_below_drewN | apply below_drew1 | refine below_set ?_ GE313.out) | exact HB.out)⟩⟩
         ·
          rw [if_neg c17] at H
          exact absurd H (by simp)
        ·
         rw [if_neg c16] at H
         have c16b0 : vk_mem (⟨(rd_T31 l1 x23_1).f0, (rd_T31 l1 x23_1).f1⟩ : S31) x9_1 = false := by simpa using c16
         clear c16
         by_cases c21 : vk_in (x7_1.length : Int) = true
         ·
          rw [if_pos c21] at H
          have LMc21 := Aside0.mk c21
          clear c21
          by_cases c22 : x9_1.length < 5864062014805
          ·
           rw [if_pos c22] at H
           have LMc22 := Aside0.mk c22
           clear c22
           obtain ⟨y317, hy317⟩ : ∃ y_ : List (S31 × Int), y_ = (((⟨(rd_T31 l1 x23_1).f0, (rd_T31 l1 x23_1).f1⟩ : S31), (x7_1.length : Int)) :: x9_1) := ⟨_, rfl⟩
           replace H : (if x7_1.length < 5864062014805 then (if x8_1.length < 17592186044416 then (impl_DictOf.l0 k1 (x7_1 ++ [(⟨(rd_T31 l1 x23_1).f0, (rd_T31 l1 x23_1).f1⟩ : S31)]) (x8_1 ++ [(x7_1.length : Int)]) y317 l1 (l1.length : Int) (wrap64 (x23_1 + 1))) else (none)) else (none)) = some (r1, r2, r3) := by first | (rw [hy317]; with_reducible exact H) | (have H2_ := (Option.bind_some _ _).symm.trans H; rw [hy317]; with_reducible exact H2_) | (have H2_ := (Option.bind_some _ _).symm.trans H; with_reducible exact H2_) | with_reducible exact H | (rw [hy317]; exact H) | exact H
           have Ny317 := Aside0.mk hy317
           clear hy317
           by_cases c23 : x7_1.length < 5864062014805
           ·
            rw [if_pos c23] at H
            have LMc23 := Aside0.mk c23
            clear c23
            obtain ⟨y319, hy319⟩ : ∃ y_ : List (S31), y_ = (x7_1 ++ [(⟨(rd_T31 l1 x23_1).f0, (rd_T31 l1 x23_1).f1⟩ : S31)]) := ⟨_, rfl⟩
            replace H : (if x8_1.length < 17592186044416 then (impl_DictOf.l0 k1 y319 (x8_1 ++ [(x7_1.length : Int)]) y317 l1 (l1.length : Int) (wrap64 (x23_1 + 1))) else (none)) = some (r1, r2, r3) := by first | (rw [hy319]; with_reducible exact H) | (have H2_ := (Option.bind_some _ _).symm.trans H; rw [hy319]; with_reducible exact H2_) | (have H2_ := (Option.bind_some _ _).symm.trans H; with_reducible exact H2_) | with_reducible exact H | (rw [hy319]; exact H) | exact H
            have Ny319 := Aside0.mk hy319
            clear hy319
            by_cases c24 : x8_1.length < 17592186044416
            ·
             rw [if_pos c24] at H
             have LMc24 := Aside0.mk c24
             clear c24
             obtain ⟨y322, hy322⟩ : ∃ y_ : List Int, y_ = (x8_1 ++ [(x7_1.length : Int)]) := ⟨_, rfl⟩
             replace H : (impl_DictOf.l0 k1 y319 y322 y317 l1 (l1.length : Int) (wrap64 (x23_1 + 1))) = some (r1, r2, r3) := by first | (rw [hy322]; with_reducible exact H) | (have H2_ := (Option.bind_some _ _).symm.trans H; rw [hy322]; with_reducible exact H2_) | (have H2_ := (Option.bind_some _ _).symm.trans H; with_reducible exact H2_) | with_reducible exact H | (rw [hy322]; exact H) | exact H
             have Ny322 := Aside0.mk hy322
             clear hy322
             have H' := Aside0.mk H
             clear H
             have p312 : 0 ≤ (x23_1 : Int) := of_decide_eq_true (by first | (with_reducible assumption) | assumption)
             have q312 : x23_1 < (l1.length : Int) := of_decide_eq_true (by first | (with_reducible assumption) | assumption)
             obtain ⟨ad312, e312, hx312_0, hx312_1⟩ := at_T31 HR1.out x23_1 p312 q312
             cases e312
             replace hx312_0 := (HB.out.cell (World.block_lt_of_cell? w _ hx312_0)).trans hx312_0
             replace hx312_1 := (HB.out.cell (World.block_lt_of_cell? w _ hx312_1)).trans hx312_1
             replace p312 := eq_true p312
             replace q312 := eq_true q312
             go_wp2_with (first | ((with_reducible refine gate_dst (N := 11) rfl ?_); refine box_event ?hg (N := 11) ?hd (cs := #[.int .i64 0, .string (⟨#[]⟩ : ByteArray)]) (t := 31) ?hr ?_; (case hd => rfl); (case hg => rfl); (case hr => first | (go_simp; done) | (go_simp; rfl)); intro gb313 hg w25 hbox hb; have n0_ := Aside0.mk (Kd.R_below (Kd.R_elderB (by (with_reducible repeat (first | apply Kd.R_alloc | apply Kd.R_drewN | apply Kd.R_drew)); exact HO_7.out) gb313 (Nat.le_of_eq hg.symm)) hb); have n1_ := Aside0.mk (Kd.R_below (by (with_reducible repeat (first | apply Kd.R_alloc | apply Kd.R_drewN | apply Kd.R_drew)); exact HO_8.out) hb); have n2_ := Aside0.mk (Kd.Mp_below (by (with_reducible repeat (first | apply Kd.Mp_alloc | apply Kd.Mp_drewN | apply Kd.Mp_drew)); exact HO_9.out) hb); have n3_ := Aside0.mk (below_step (by repeat (first | (with_reducible first | exact HB.out | apply below_alloc | apply pw_below_drewN | apply below_drew1) | exact HB.out)) hb); have n4_ := Aside0.mk (hbox); have n5_ := Aside0.mk ((by rw [hg]; exact (below_size (by repeat (first | (with_reducible first | exact HB.out | apply below_alloc | apply pw_below_drewN | apply below_drew1) | exact HB.out))) : w.heap.size ≤ gb313)); have n6_ := Aside0.mk ((by rw [hg]; exact (below_size (by repeat (first | (with_reducible first | exact HB.out | apply below_alloc | apply pw_below_drewN | apply below_drew1) | exact HB.out))) : w.heap.size ≤ gb313)); clear HO_7; clear HO_8; clear HO_9; clear HB; have HO_7 := n0_; have HO_8 := n1_; have HO_9 := n2_; have HB := n3_; have BK313 := n4_; have GW313 := n5_; have GE313 := n6_; clear n0_ n1_ n2_ n3_ n4_ n5_ n6_; clear hb hbox hg; have hcz26_0 : w25.cell? ⟨gb313, 0, none⟩ = some (.int .i64 0) := (blk_cell BK313.out 0).trans rfl; have hcz26_1 : w25.cell? ⟨gb313, 1, none⟩ = some (.string (⟨#[]⟩ : ByteArray)) := (blk_cell BK313.out 1).trans rfl; have hfz26_0 := blk_frozen BK313.out 0; have hfz26_1 := blk_frozen BK313.out 1) | ((with_reducible refine gate_dst (N := 30) rfl ?_); refine map_look k31 9000055 w.heap.size (fun _ => True) v310 x9_1 rfl (N := 30) rfl (.tmp 28) (.tmp 29) rfl (⟨(rd_T31 l1 x23_1).f0, (rd_T31 l1 x23_1).f1⟩ : S31) LMc15.out rfl (by first | (go_simp; done) | (go_simp; rfl)) (by (with_reducible repeat (first | apply Kd.Mp_alloc | apply Kd.Mp_drewN | apply Kd.Mp_drew)); exact (Kd.Mp_mono (Kd.Mp_far (p := ⟨gb313, 1, none⟩) (Kd.Mp_far (p := ⟨gb313, 0, none⟩) (Kd.Mp_types HO_9.out BK313.out (by decide)) (fun _ hk => hk.2) (.int .i64 ((rd_T31 l1 x23_1).f0))) (fun _ hk => hk.2) (.string ((rd_T31 l1 x23_1).f1))) (fun _ h_ => h_.1))) ?_; obtain ⟨Ao27, co27, eo27⟩ := Kd.R_slice HO_7.out; subst eo27) | (at_mapUpdate; refine map_put (w0 := w) k31 9000055 w.heap.size (fun _ => True) v310 x9_1 rfl (.tmp 37) (.tmp 38) (.tmp 39) rfl (⟨(rd_T31 l1 x23_1).f0, (rd_T31 l1 x23_1).f1⟩ : S31) (x7_1.length : Int) LMc15.out LMc21.out rfl (by first | (go_simp; done) | (go_simp; rfl)) (by first | (go_simp; done) | (go_simp; rfl)) (by (with_reducible repeat (first | apply Kd.Mp_alloc | apply Kd.Mp_drewN | apply Kd.Mp_drew)); exact (Kd.Mp_mono (Kd.Mp_far (p := ⟨gb313, 1, none⟩) (Kd.Mp_far (p := ⟨gb313, 0, none⟩) (Kd.Mp_types HO_9.out BK313.out (by decide)) (fun _ hk => hk.2) (.int .i64 ((rd_T31 l1 x23_1).f0))) (fun _ hk => hk.2) (.string ((rd_T31 l1 x23_1).f1))) (fun _ h_ => h_.1))) LMc22.out (by repeat (first | (with_reducible first | exact HB.out | apply below_alloc | apply pw_below_drewN | apply below_drew1 | refine below_set ?_ GE313.out) | exact HB.out)) (below_size (by repeat (first | (with_reducible first | exact HB.out | apply below_alloc | apply pw_below_drewN | apply below_drew1 | refine below_set ?_ GE313.out) | exact HB.out))) ?_; intro w28 ho hb hg; rw [← Ny317.out] at ho; have n0_ := Aside0.mk (R_map (by (with_reducible repeat (first | apply Kd.Mp_alloc | apply Kd.Mp_drewN | apply Kd.Mp_drew)); exact (Kd.Mp_mono (Kd.Mp_far (p := ⟨gb313, 1, none⟩) (Kd.Mp_far (p := ⟨gb313, 0, none⟩) (Kd.Mp_types HO_9.out BK313.out (by decide)) (fun _ hk => hk.2) (.int .i64 ((rd_T31 l1 x23_1).f0))) (fun _ hk => hk.2) (.string ((rd_T31 l1 x23_1).f1))) (fun _ h_ => h_.1))) (by (with_reducible repeat (first | apply Kd.R_alloc | apply Kd.R_drewN | apply Kd.R_drew)); exact (Kd.R_mono (Kd.R_far (p := ⟨gb313, 1, none⟩) (Kd.R_far (p := ⟨gb313, 0, none⟩) (Kd.R_mono HO_7.out (fun k_ hk => (⟨hk, hk.2⟩ : _ ∧ k_ ≠ gb313))) (fun _ hk => hk.2) (.int .i64 ((rd_T31 l1 x23_1).f0))) (fun _ hk => hk.2) (.string ((rd_T31 l1 x23_1).f1))) (fun _ h_ => h_.1))) hg); have n1_ := Aside0.mk (R_map (by (with_reducible repeat (first | apply Kd.Mp_alloc | apply Kd.Mp_drewN | apply Kd.Mp_drew)); exact (Kd.Mp_mono (Kd.Mp_far (p := ⟨gb313, 1, none⟩) (Kd.Mp_far (p := ⟨gb313, 0, none⟩) (Kd.Mp_types HO_9.out BK313.out (by decide)) (fun _ hk => hk.2) (.int .i64 ((rd_T31 l1 x23_1).f0))) (fun _ hk => hk.2) (.string ((rd_T31 l1 x23_1).f1))) (fun _ h_ => h_.1))) (by (with_reducible repeat (first | apply Kd.R_alloc | apply Kd.R_drewN | apply Kd.R_drew)); exact (Kd.R_mono (Kd.R_far (p := ⟨gb313, 1, none⟩) (Kd.R_far (p := ⟨gb313, 0, none⟩) (Kd.R_types HO_8.out BK313.out (by decide)) (fun _ hk => hk.2) (.int .i64 ((rd_T31 l1 x23_1).f0))) (fun _ hk => hk.2) (.string ((rd_T31 l1 x23_1).f1))) (fun _ h_ => h_.1))) hg); have n2_ := Aside0.mk (Kd.Mp_blk (g := gb313) (o := .cells #[.int .i64 ((rd_T31 l1 x23_1).f0), .string ((rd_T31 l1 x23_1).f1)] 31 (0, 0)) (by (with_reducible repeat (first | refine blk_drewN ?_ _ | refine blk_drew ?_ | refine blk_alloc ?_ _)); refine blk_put (cs := #[.int .i64 ((rd_T31 l1 x23_1).f0), .string (⟨#[]⟩ : ByteArray)]) ?_ 1 _ rfl; (with_reducible repeat (first | refine blk_drewN ?_ _ | refine blk_drew ?_ | refine blk_alloc ?_ _)); refine blk_put (cs := #[.int .i64 0, .string (⟨#[]⟩ : ByteArray)]) ?_ 0 _ rfl; (with_reducible repeat (first | refine blk_drewN ?_ _ | refine blk_drew ?_ | refine blk_alloc ?_ _)); exact BK313.out) hg (by (with_reducible repeat (first | apply Kd.Mp_alloc | apply Kd.Mp_drewN | apply Kd.Mp_drew)); exact (Kd.Mp_mono (Kd.Mp_far (p := ⟨gb313, 1, none⟩) (Kd.Mp_far (p := ⟨gb313, 0, none⟩) (Kd.Mp_types HO_9.out BK313.out (by decide)) (fun _ hk => hk.2) (.int .i64 ((rd_T31 l1 x23_1).f0))) (fun _ hk => hk.2) (.string ((rd_T31 l1 x23_1).f1))) (fun _ h_ => h_.1))) (by intro _ _ h_; cases h_)); have n3_ := Aside0.mk (hb); have n4_ := Aside0.mk (ho); clear HO_7; clear HO_8; clear BK313; clear HB; clear HO_9; have HO_7 := n0_; have HO_8 := n1_; have BK313 := n2_; have HB := n3_; have HO318 := n4_; clear n0_ n1_ n2_ n3_ n4_; clear ho hb hg; have hcz29_0 : w28.cell? ⟨gb313, 0, none⟩ = some (.int .i64 ((rd_T31 l1 x23_1).f0)) := (blk_cell BK313.out 0).trans rfl; have hcz29_1 : w28.cell? ⟨gb313, 1, none⟩ = some (.string ((rd_T31 l1 x23_1).f1)) := (blk_cell BK313.out 1).trans rfl; have hfz29_0 := blk_frozen BK313.out 0; have hfz29_1 := blk_frozen BK313.out 1) | ((with_reducible refine gate_builtin (b := .append) (xs := #[.tmp 40, .tmp 42]) rfl ?_); at_builtin; refine Kd.R_append k31 (w0 := w) w.heap.size rfl (.tmp 40) (.tmp 42) 24 31 (.agg #[(.int .i64 0), (.string ⟨#[]⟩)]) 24 rfl Try.underlying24 info31 rfl (by decide) (by omega) (.slice Ao27 x7_1.length co27) x7_1 (⟨(rd_T31 l1 x23_1).f0, (rd_T31 l1 x23_1).f1⟩ : S31) [.int .i64 ((rd_T31 l1 x23_1).f0), .string ((rd_T31 l1 x23_1).f1)] (fun k_ => k_ ≠ gb313) (fun _ => False) rfl rfl ?aP (fun _ hk => hk.elim) ?aF ?aO ?aB ?aS ?aL ?_; (case aP => exact k31_mkM _ _ _ (⟨(rd_T31 l1 x23_1).f0, (rd_T31 l1 x23_1).f1⟩ : S31)); (case aB => exact (by repeat (first | (with_reducible first | exact HB.out | apply below_alloc | apply pw_below_drewN | apply below_drew1 | refine below_set ?_ GE313.out) | exact HB.out))); (case aF => exact (fun k_ hk => Kd.freshB (g := gb313) (o := .cells #[.int .i64 ((rd_T31 l1 x23_1).f0), .string ((rd_T31 l1 x23_1).f1)] 31 (0, 0)) (by (with_reducible repeat (first | refine blk_drewN ?_ _ | refine blk_drew ?_ | refine blk_alloc ?_ _)); exact BK313.out) k_ hk)); (case aO => exact (by (with_reducible repeat (first | apply Kd.R_alloc | apply Kd.R_drewN | apply Kd.R_drew)); exact Kd.R_mono HO_7.out (fun _ hk => hk.2))); (case aS => exact (below_size (by repeat (first | (with_reducible first | exact HB.out | apply below_alloc | apply pw_below_drewN | apply below_drew1 | refine below_set ?_ GE313.out) | exact HB.out)))); (case aL => have := LMc23.out; omega); intro v320 w30 ho hb hg hat; rw [← Ny319.out] at ho; have n0_ := Aside0.mk (Kd.R_over' (by (with_reducible repeat (first | apply Kd.R_alloc | apply Kd.R_drewN | apply Kd.R_drew)); exact HO_8.out) (Kd.R_typed (by (with_reducible repeat (first | apply Kd.R_alloc | apply Kd.R_drewN | apply Kd.R_drew)); exact HO_7.out)) (by decide) hg); have n1_ := Aside0.mk (blk_grown (g := gb313) (o := .cells #[.int .i64 ((rd_T31 l1 x23_1).f0), .string ((rd_T31 l1 x23_1).f1)] 31 (0, 0)) (by (with_reducible repeat (first | refine blk_drewN ?_ _ | refine blk_drew ?_ | refine blk_alloc ?_ _)); exact BK313.out) hg (Kd.R_away HO_7.out (fun _ hk => hk.2))); have n2_ := Aside0.mk (Kd.Mp_over' (by (with_reducible repeat (first | apply Kd.Mp_alloc | apply Kd.Mp_drewN | apply Kd.Mp_drew)); exact HO318.out) (Kd.R_typed (by (with_reducible repeat (first | apply Kd.R_alloc | apply Kd.R_drewN | apply Kd.R_drew)); exact HO_7.out)) (by decide) hg); have n3_ := Aside0.mk (hb); have n4_ := Aside0.mk (ho); clear HO_8; clear BK313; clear HO318; clear HB; clear HO_7; have HO_8 := n0_; have BK313 := n1_; have HO318 := n2_; have HB := n3_; have HO321 := n4_; clear n0_ n1_ n2_ n3_ n4_; clear ho hb hg hat) | ((with_reducible refine gate_builtin (b := .append) (xs := #[.tmp 44, .tmp 46]) rfl ?_); at_builtin; refine Kd.R_append (Kd.int .i64) (w0 := w) w.heap.size rfl (.tmp 44) (.tmp 46) 27 3 (.int .i64 0) 8 rfl Try.underlying27 info3 rfl (by decide) (by omega) u8 x8_1 (x7_1.length : Int) [.int .i64 (x7_1.length : Int)] (fun _ => True) (fun _ => False) rfl rfl ?aP (fun _ hk => hk.elim) ?aF ?aO ?aB ?aS ?aL ?_; (case aP => exact rfl); (case aB => exact (by repeat (first | (with_reducible first | exact HB.out | apply below_alloc | apply pw_below_drewN | apply below_drew1 | refine below_set ?_ GE313.out) | exact HB.out))); (case aF => exact (fun _ _ => trivial)); (case aO => exact (by (with_reducible repeat (first | apply Kd.R_alloc | apply Kd.R_drewN | apply Kd.R_drew)); exact HO_8.out)); (case aS => exact (below_size (by repeat (first | (with_reducible first | exact HB.out | apply below_alloc | apply pw_below_drewN | apply below_drew1 | refine below_set ?_ GE313.out) | exact HB.out)))); (case aL => have := LMc24.out; omega); intro v323 w31 ho hb hg hat; rw [← Ny322.out] at ho; have n0_ := Aside0.mk (blk_grown (g := gb313) (o := .cells #[.int .i64 ((rd_T31 l1 x23_1).f0), .string ((rd_T31 l1 x23_1).f1)] 31 (0, 0)) (by (with_reducible repeat (first | refine blk_drewN ?_ _ | refine blk_drew ?_ | refine blk_alloc ?_ _)); exact BK313.out) hg (Kd.R_ne HO_8.out BK313.out (by decide))); have n1_ := Aside0.mk (Kd.Mp_over' (by (with_reducible repeat (first | apply Kd.Mp_alloc | apply Kd.Mp_drewN | apply Kd.Mp_drew)); exact HO318.out) (Kd.R_typed (by (with_reducible repeat (first | apply Kd.R_alloc | apply Kd.R_drewN | apply Kd.R_drew)); exact HO_8.out)) (by decide) hg); have n2_ := Aside0.mk (Kd.R_over' (by (with_reducible repeat (first | apply Kd.R_alloc | apply Kd.R_drewN | apply Kd.R_drew)); exact HO321.out) (Kd.R_typed (by (with_reducible repeat (first | apply Kd.R_alloc | apply Kd.R_drewN | apply Kd.R_drew)); exact HO_8.out)) (by decide) hg); have n3_ := Aside0.mk (hb); have n4_ := Aside0.mk (ho); clear BK313; clear HO318; clear HO321; clear HB; clear HO_8; have BK313 := n0_; have HO318 := n1_; have HO321 := n2_; have HB := n3_; have HO324 := n4_; clear n0_ n1_ n2_ n3_ n4_; clear ho hb hg hat))
             go_roundg k1
             case measure => have := HK1.out; omega
             case rel => exact ⟨(y319), (y322), (y317), (wrap64 (x23_1 + 1)), (by first | rfl | (simp; done) | (simp [*]; done)), H', ⟨by have := HK1.out; omega⟩, ⟨by (with_reducible repeat (first | apply Kd.R_alloc | apply Kd.R_drewN | apply Kd.R_drew)); exact Kd.R_mono HO321.out (fun _ hk => trivial)⟩, ⟨by (with_reducible repeat (first | apply Kd.R_alloc | apply Kd.R_drewN | apply Kd.R_drew)); exact HO324.out⟩, ⟨by (with_reducible repeat (first | apply Kd.Mp_alloc | apply Kd.Mp_drewN | apply Kd.Mp_drew)); exact HO318.out⟩, ⟨by repeat (first | (with_reducible first | exact HB.out | apply below_alloc | apply pw_below_drewN | apply below_drew1 | refine below_set ?_ GE313.out) | exact HB.out)⟩⟩
            ·
             rw [if_neg c24] at H
             exact absurd H (by simp)
           ·
            rw [if_neg c23] at H
            exact absurd H (by simp)
          ·
           rw [if_neg c22] at H
           exact absurd H (by simp)
         ·
          rw [if_neg c21] at H
          exact absurd H (by simp)
       ·
        rw [if_neg c15] at H
        exact absurd H (by simp)
      ·
       rw [if_neg c14] at H
       exact absurd H (by simp)
     ·
      rw [if_neg c13] at H
      exact absurd H (by simp)
    ·
     rw [if_neg c12] at H
     have c12b0 : decide (x23_1 < (l1.length : Int)) = false := decide_eq_false c12
     clear c12
     simp only [Option.some.injEq, Prod.mk.injEq] at H
     obtain ⟨rfl, rfl, rfl⟩ := H
     go_wp2
     go_ret3
     exact ⟨_, _, by first | rfl | (simp [errW_none, errW_some] <;> rfl) | (simp [*, errW_none, errW_some] <;> rfl), by (with_reducible repeat (first | apply Kd.R_alloc | apply Kd.R_drewN | apply Kd.R_drew)); exact HO_7.out, by (with_reducible repeat (first | apply Kd.R_alloc | apply Kd.R_drewN | apply Kd.R_drew)); exact HO_8.out, by repeat (first | (with_reducible first | exact HB.out | apply below_alloc | apply pw_below_drewN | apply below_drew1) | exact HB.out)⟩
 ·
  replace c4 := Bool.eq_false_iff.mpr c4
  subst c4
  have H1 : (some (([] : List (S31)), ([] : List Int), false)) = some (r1, r2, r3) := by rw [if_neg (show ¬ (false = true) by decide)] at H; exact H
  clear H
  have H := H1
  clear H1
  simp only [Option.some.injEq, Prod.mk.injEq] at H
  obtain ⟨rfl, rfl, rfl⟩ := H
  go_enter Try.func8, Try.ntmps8
  go_wp2_with (first | ((with_reducible refine gate_callee (f := 30) rfl ?_); refine goesL_ (some 16) rfl rfl Try.func30 (by kernel_rfl) rfl #[.int .i64 a0, .slice A1 l1.length c1] rfl (by (try simp only [List.map_toArray, List.map_cons, List.map_nil]); first | done | rfl | (simp only [List.length_drop, List.length_take]; rfl)) ?_; (with_reducible refine (impl_valsOk.calls k a0 _ _ l1 false _ ?side1 ?side2 A3.out).mono ?_); (case side1 => repeat (first | exact HR1.out | (with_reducible refine Kd.C_alloc ?_ _) | (with_reducible refine Kd.C_drewN ?_ _) | (with_reducible refine Kd.C_drew ?_))); (case side2 => exact HC1.out); rintro e w32 ⟨rfl, hb⟩; refine ⟨_, rfl, ?_⟩; have n0_ := Aside0.mk (below_step (by repeat (first | (with_reducible first | exact HB.out | apply below_alloc | apply pw_below_drewN | apply below_drew1) | exact HB.out)) hb); clear HB; have HB := n0_; clear n0_; (try clear hb); (try clear hb2); (try clear hk); (try clear hi)))
  go_ret3
  exact ⟨_, _, by first | rfl | (simp [errW_none, errW_some] <;> rfl) | (simp [*, errW_none, errW_some] <;> rfl), by first | exact Kd.R_nil _ _ _ _ _ | exact Kd.N_nil _ _ _ _ _ | exact Kd.V_nil _ _ _ _ _ | exact Kd.Q_nil _ _ _ _ _ | exact Kd.S_nil _ _ _ _ _, by first | exact Kd.R_nil _ _ _ _ _ | exact Kd.N_nil _ _ _ _ _ | exact Kd.V_nil _ _ _ _ _ | exact Kd.Q_nil _ _ _ _ _ | exact Kd.S_nil _ _ _ _ _, by repeat (first | (with_reducible first | exact HB.out | apply below_alloc | apply pw_below_drewN | apply below_drew1) | exact HB.out)⟩

/-! ### spec_l5Type: function 66 -/
def spec_l5Type.f (a0 : Int) : Option (Bool) := if a0 = 0 then (some true) else (if a0 = 1 then (some true) else (if a0 = 2 then (some true) else (if a0 = 5 then (some true) else (if a0 = 6 then (some true) else (some false)))))
set_option maxHeartbeats 8000000 in
set_option maxRecDepth 100000 in
theorem spec_l5Type.calls (a0 : Int) (r : Bool) (w : World) (h : spec_l5Type.f a0 = some r) :
  Calls Try.prog 66 #[.int .i64 a0] w fun e w' => e = .returned (.bool r) ∧ Drawn0 w w' := by
 have H : (if a0 = 0 then (some true) else (if a0 = 1 then (some true) else (if a0 = 2 then (some true) else (if a0 = 5 then (some true) else (if a0 = 6 then (some true) else (some false)))))) = some r := h
 clear h
 by_cases c2 : a0 = 0
 ·
  rw [if_pos c2] at H
  have c2b0 : (a0 == 0) = true := beq_iff_eq.mpr c2
  have c2b1 : (a0 != 0) = false := bne_eq_false_iff_eq.mpr c2
  clear c2
  obtain rfl := Option.some.inj H
  go_enter Try.func66, Try.ntmps66
  go_wp2
  go_ret
  exact ⟨by first | rfl | (simp; done) | (simp [*]; done), by repeat (first | exact Drawn0.refl _ | apply Drawn0.step)⟩
 ·
  rw [if_neg c2] at H
  have c2b0 : (a0 == 0) = false := beq_eq_false_iff_ne.mpr c2
  have c2b1 : (a0 != 0) = true := bne_iff_ne.mpr c2
  by_cases c3 : a0 = 1
  ·
   rw [if_pos c3] at H
   have c3b0 : (a0 == 1) = true := beq_iff_eq.mpr c3
   have c3b1 : (a0 != 1) = false := bne_eq_false_iff_eq.mpr c3
   clear c3
   obtain rfl := Option.some.inj H
   go_enter Try.func66, Try.ntmps66
   go_wp2
   go_ret
   exact ⟨by first | rfl | (simp; done) | (simp [*]; done), by repeat (first | exact Drawn0.refl _ | apply Drawn0.step)⟩
  ·
   rw [if_neg c3] at H
   have c3b0 : (a0 == 1) = false := beq_eq_false_iff_ne.mpr c3
   have c3b1 : (a0 != 1) = true := bne_iff_ne.mpr c3
   by_cases c4 : a0 = 2
   ·
    rw [if_pos c4] at H
    have c4b0 : (a0 == 2) = true := beq_iff_eq.mpr c4
    have c4b1 : (a0 != 2) = false := bne_eq_false_iff_eq.mpr c4
    clear c4
    obtain rfl := Option.some.inj H
    go_enter Try.func66, Try.ntmps66
    go_wp2
    go_ret
    exact ⟨by first | rfl | (simp; done) | (simp [*]; done), by repeat (first | exact Drawn0.refl _ | apply Drawn0.step)⟩
   ·
    rw [if_neg c4] at H
    have c4b0 : (a0 == 2) = false := beq_eq_false_iff_ne.mpr c4
    have c4b1 : (a0 != 2) = true := bne_iff_ne.mpr c4
    by_cases c5 : a0 = 5
    ·
     rw [if_pos c5] at H
     have c5b0 : (a0 == 5) = true := beq_iff_eq.mpr c5
     have c5b1 : (a0 != 5) = false := bne_eq_false_iff_eq.mpr c5
     clear c5
     obtain rfl := Option.some.inj H
     go_enter Try.func66, Try.ntmps66
     go_wp2
     go_ret
     exact ⟨by first | rfl | (simp; done) | (simp [*]; done), by repeat (first | exact Drawn0.refl _ | apply Drawn0.step)⟩
    ·
     rw [if_neg c5] at H
     have c5b0 : (a0 == 5) = false := beq_eq_false_iff_ne.mpr c5
     have c5b1 : (a0 != 5) = true := bne_iff_ne.mpr c5
     by_cases c6 : a0 = 6
     ·
      rw [if_pos c6] at H
      have c6b0 : (a0 == 6) = true := beq_iff_eq.mpr c6
      have c6b1 : (a0 != 6) = false := bne_eq_false_iff_eq.mpr c6
      clear c6
      obtain rfl := Option.some.inj H
      go_enter Try.func66, Try.ntmps66
      go_wp2
      go_ret
      exact ⟨by first | rfl | (simp; done) | (simp [*]; done), by repeat (first | exact Drawn0.refl _ | apply Drawn0.step)⟩
     ·
      rw [if_neg c6] at H
      have c6b0 : (a0 == 6) = false := beq_eq_false_iff_ne.mpr c6
      have c6b1 : (a0 != 6) = true := bne_iff_ne.mpr c6
      obtain rfl := Option.some.inj H
      go_enter Try.func66, Try.ntmps66
      go_wp2
      go_ret
      exact ⟨by first | rfl | (simp; done) | (simp [*]; done), by repeat (first | exact Drawn0.refl _ | apply Drawn0.step)⟩

/-! ### spec_l1In: function 85 -/
def spec_l1In.f (a0 : Int) (a1 : Int) (a2 : Int) : Option (Bool) := if a0 ≥ a1 then (some (decide (a0 ≤ a2))) else (some false)
set_option maxHeartbeats 8000000 in
set_option maxRecDepth 100000 in
theorem spec_l1In.calls (a0 : Int) (a1 : Int) (a2 : Int) (r : Bool) (w : World) (h : spec_l1In.f a0 a1 a2 = some r) :
  Calls Try.prog 85 #[.int .i64 a0, .int .i64 a1, .int .i64 a2] w fun e w' => e = .returned (.bool r) ∧ Drawn0 w w' := by
 have H : (if a0 ≥ a1 then (some (decide (a0 ≤ a2))) else (some false)) = some r := h
 clear h
 by_cases c4 : a0 ≥ a1
 ·
  rw [if_pos c4] at H
  have c4b0 : decide (a1 ≤ a0) = true := decide_eq_true c4
  clear c4
  obtain rfl := Option.some.inj H
  go_enter Try.func85, Try.ntmps85
  go_wp2
  go_ret
  exact ⟨by first | rfl | (simp; done) | (simp [*]; done), by repeat (first | exact Drawn0.refl _ | apply Drawn0.step)⟩
 ·
  rw [if_neg c4] at H
  have c4b0 : decide (a1 ≤ a0) = false := decide_eq_false c4
  clear c4
  obtain rfl := Option.some.inj H
  go_enter Try.func85, Try.ntmps85
  go_wp2
  go_ret
  exact ⟨by first | rfl | (simp; done) | (simp [*]; done), by repeat (first | exact Drawn0.refl _ | apply Drawn0.step)⟩

/-! ### spec_l4Int: function 106 -/
def spec_l4Int.f (a0 : Int) : Option (Bool) := (spec_l1In.f a0 (-2147483648) 2147483647).bind fun t325 => (some t325)
set_option maxHeartbeats 8000000 in
set_option maxRecDepth 100000 in
theorem spec_l4Int.calls (a0 : Int) (r : Bool) (w : World) (h : spec_l4Int.f a0 = some r) :
  Calls Try.prog 106 #[.int .i64 a0] w fun e w' => e = .returned (.bool r) ∧ Drawn0 w w' := by
 have H : ((spec_l1In.f a0 (-2147483648) 2147483647).bind fun t325 => (some t325)) = some r := h
 clear h
 replace H := Option.bind_eq_some_iff.mp H
 obtain ⟨t325, A20, H⟩ := H
 replace H : (some t325) = some r := H
 have A2 := Aside0.mk A20
 clear A20
 obtain rfl := Option.some.inj H
 go_enter Try.func106, Try.ntmps106
 go_wp2_with (first | ((with_reducible refine gate_callee (f := 85) rfl ?_); refine goesL_ (some 4) rfl rfl Try.func85 (by kernel_rfl) rfl #[.int .i64 a0, .int .i64 (-2147483648), .int .i64 2147483647] rfl (by (try simp only [List.map_toArray, List.map_cons, List.map_nil]); first | done | rfl | (simp only [List.length_drop, List.length_take]; rfl)) ?_; (with_reducible refine (spec_l1In.calls a0 (-2147483648) 2147483647 t325 _ A2.out).mono ?_); rintro e w' ⟨rfl, ⟨nd, rfl⟩⟩; refine ⟨_, rfl, ?_⟩))
 go_ret
 exact ⟨by first | rfl | (simp; done) | (simp [*]; done), by repeat (first | exact Drawn0.refl _ | apply Drawn0.step)⟩

/-! ### spec_ValOk: function 67 -/
def spec_ValOk.j0 : Nat → Int → Bool → Int → ByteArray → Option (Bool)
 | 0, _, _, _, _ => none
 | k + 1, x5, x26, x327000, x327001 => if x26 = true then (some (x327001.toList == ([] : List UInt8))) else (if x5 = 6 then (if x327000 = 0 then (some (decide ((x327001.size : Int) ≤ 40))) else (some false)) else (some false))
def spec_ValOk.f (k : Nat) (a0 : Int) (a1_0 : Int) (a1_1 : ByteArray) : Option (Bool) := if a0 = 0 then ((spec_l1In.f a1_0 0 1).bind fun t327 => (if t327 = true then (some (a1_1.toList == ([] : List UInt8))) else (some false))) else (if a0 = 1 then ((spec_l4Int.f a1_0).bind fun t328 => (if t328 = true then (some (a1_1.toList == ([] : List UInt8))) else (some false))) else (if a0 = 2 then (spec_ValOk.j0 k a0 (a0 == 2) a1_0 a1_1) else (spec_ValOk.j0 k a0 (a0 == 5) a1_0 a1_1)))
theorem spec_ValOk.mono_l : ∀ k, (∀ y0 y1 y2 y3, LeO (spec_ValOk.j0 k y0 y1 y2 y3) (spec_ValOk.j0 (k + 1) y0 y1 y2 y3))
 | 0 => fun _ _ _ _ r h => by simp [spec_ValOk.j0] at h
 | k + 1 => by
  have ih0 := spec_ValOk.mono_l k
  ·
   intro y0 y1 y2 y3
   unfold spec_ValOk.j0
   repeat' first
   | (with_reducible exact ih0 _ _ _ _)
   | (with_reducible exact LeO.refl _)
   | (with_reducible exact LeO.none _)
   | (with_reducible refine LeO.ite ?_ ?_)
   | (with_reducible refine LeO.bind ?_ (fun _ => ?_))
   | exact ih0 _ _ _ _
   | exact LeO.none _
   | refine LeO.ite ?_ ?_
   | refine LeO.bind ?_ (fun _ => ?_)
theorem spec_ValOk.mono : ∀ a0 a1 a2 k, LeO (spec_ValOk.f k a0 a1 a2) (spec_ValOk.f (k + 1) a0 a1 a2) := by
 intro a0 a1 a2 k
 have ih0 := spec_ValOk.mono_l k
 unfold spec_ValOk.f
 repeat' first
   | (with_reducible exact ih0 _ _ _ _)
   | (with_reducible exact LeO.refl _)
   | (with_reducible exact LeO.none _)
   | (with_reducible refine LeO.ite ?_ ?_)
   | (with_reducible refine LeO.bind ?_ (fun _ => ?_))
   | exact ih0 _ _ _ _
   | exact LeO.none _
   | refine LeO.ite ?_ ?_
   | refine LeO.bind ?_ (fun _ => ?_)
set_option maxHeartbeats 8000000 in
set_option maxRecDepth 100000 in
theorem spec_ValOk.calls (k : Nat) (a0 : Int) (a1_0 : Int) (a1_1 : ByteArray) (r : Bool) (w : World) (h : spec_ValOk.f k a0 a1_0 a1_1 = some r) :
  Calls Try.prog 67 #[.int .i64 a0, .agg #[.int .i64 a1_0, .string a1_1]] w fun e w' => e = .returned (.bool r) ∧ Below w.heap.size w w' := by
 have hu31 := Try.underlying31
 have HB := Aside0.mk (Below.refl w.heap.size w)
 have H : (if a0 = 0 then ((spec_l1In.f a1_0 0 1).bind fun t327 => (if t327 = true then (some (a1_1.toList == ([] : List UInt8))) else (some false))) else (if a0 = 1 then ((spec_l4Int.f a1_0).bind fun t328 => (if t328 = true then (some (a1_1.toList == ([] : List UInt8))) else (some false))) else (if a0 = 2 then (spec_ValOk.j0 k a0 (a0 == 2) a1_0 a1_1) else (spec_ValOk.j0 k a0 (a0 == 5) a1_0 a1_1)))) = some r := h
 clear h
 by_cases c3 : a0 = 0
 ·
  rw [if_pos c3] at H
  have c3b0 : (a0 == 0) = true := beq_iff_eq.mpr c3
  have c3b1 : (a0 != 0) = false := bne_eq_false_iff_eq.mpr c3
  clear c3
  replace H := Option.bind_eq_some_iff.mp H
  obtain ⟨t327, A40, H⟩ := H
  replace H : (if t327 = true then (some (a1_1.toList == ([] : List UInt8))) else (some false)) = some r := H
  have A4 := Aside0.mk A40
  clear A40
  by_cases c5 : t327 = true
  ·
   subst c5
   have H1 : (some (a1_1.toList == ([] : List UInt8))) = some r := by rw [if_pos rfl] at H; exact H
   clear H
   have H := H1
   clear H1
   obtain rfl := Option.some.inj H
   go_enter Try.func67, Try.ntmps67
   go_wp2_with (first | ((with_reducible refine gate_dst (N := 3) rfl ?_); (try (refine gate_guard (by rfl) ?_; dsimp only)); refine box_event ?hg (N := 3) ?hd (cs := #[.int .i64 a1_0, .string a1_1]) (t := 31) ?hr ?_; (case hd => rfl); (case hg => rfl); (case hr => first | (go_simp; done) | (go_simp; rfl)); intro gb326 hg w6 hbox hb; have n0_ := Aside0.mk (below_step (by repeat (first | (with_reducible first | exact HB.out | apply below_alloc | apply pw_below_drewN | apply below_drew1) | exact HB.out)) hb); have n1_ := Aside0.mk (hbox); have n2_ := Aside0.mk ((by rw [hg]; exact (below_size (by repeat (first | (with_reducible first | exact HB.out | apply below_alloc | apply pw_below_drewN | apply below_drew1) | exact HB.out))) : w.heap.size ≤ gb326)); have n3_ := Aside0.mk ((by rw [hg]; exact (below_size (by repeat (first | (with_reducible first | exact HB.out | apply below_alloc | apply pw_below_drewN | apply below_drew1) | exact HB.out))) : w.heap.size ≤ gb326)); clear HB; have HB := n0_; have BK326 := n1_; have GW326 := n2_; have GE326 := n3_; clear n0_ n1_ n2_ n3_; clear hb hbox hg; have hcz7_0 : w6.cell? ⟨gb326, 0, none⟩ = some (.int .i64 a1_0) := (blk_cell BK326.out 0).trans rfl; have hcz7_1 : w6.cell? ⟨gb326, 1, none⟩ = some (.string a1_1) := (blk_cell BK326.out 1).trans rfl; have hfz7_0 := blk_frozen BK326.out 0; have hfz7_1 := blk_frozen BK326.out 1) | ((with_reducible refine gate_callee (f := 85) rfl ?_); refine goesL_ (some 10) rfl rfl Try.func85 (by kernel_rfl) rfl #[.int .i64 a1_0, .int .i64 0, .int .i64 1] rfl (by (try simp only [List.map_toArray, List.map_cons, List.map_nil]); first | done | rfl | (simp only [List.length_drop, List.length_take]; rfl)) ?_; (with_reducible refine (spec_l1In.calls a1_0 0 1 true _ A4.out).mono ?_); rintro e w' ⟨rfl, ⟨nd, rfl⟩⟩; refine ⟨_, rfl, ?_⟩))
   go_ret
   exact ⟨by first | rfl | (simp [errW_none, errW_some] <;> rfl) | (simp [*, errW_none, errW_some] <;> rfl), by repeat (first | (with_reducible first | exact HB.out | apply below_alloc | apply pw_below_drewN | apply below_drew1 | refine below_set ?_ GE326.out) | exact HB.out)⟩
  ·
   replace c5 := Bool.eq_false_iff.mpr c5
   subst c5
   have H1 : (some false) = some r := by rw [if_neg (show ¬ (false = true) by decide)] at H; exact H
   clear H
   have H := H1
   clear H1
   obtain rfl := Option.some.inj H
   go_enter Try.func67, Try.ntmps67
   go_wp2_with (first | ((with_reducible refine gate_dst (N := 3) rfl ?_); (try (refine gate_guard (by rfl) ?_; dsimp only)); refine box_event ?hg (N := 3) ?hd (cs := #[.int .i64 a1_0, .string a1_1]) (t := 31) ?hr ?_; (case hd => rfl); (case hg => rfl); (case hr => first | (go_simp; done) | (go_simp; rfl)); intro gb326 hg w8 hbox hb; have n0_ := Aside0.mk (below_step (by repeat (first | (with_reducible first | exact HB.out | apply below_alloc | apply pw_below_drewN | apply below_drew1) | exact HB.out)) hb); have n1_ := Aside0.mk (hbox); have n2_ := Aside0.mk ((by rw [hg]; exact (below_size (by repeat (first | (with_reducible first | exact HB.out | apply below_alloc | apply pw_below_drewN | apply below_drew1) | exact HB.out))) : w.heap.size ≤ gb326)); have n3_ := Aside0.mk ((by rw [hg]; exact (below_size (by repeat (first | (with_reducible first | exact HB.out | apply below_alloc | apply pw_below_drewN | apply below_drew1) | exact HB.out))) : w.heap.size ≤ gb326)); clear HB; have HB := n0_; have BK326 := n1_; have GW326 := n2_; have GE326 := n3_; clear n0_ n1_ n2_ n3_; clear hb hbox hg; have hcz9_0 : w8.cell? ⟨gb326, 0, none⟩ = some (.int .i64 a1_0) := (blk_cell BK326.out 0).trans rfl; have hcz9_1 : w8.cell? ⟨gb326, 1, none⟩ = some (.string a1_1) := (blk_cell BK326.out 1).trans rfl; have hfz9_0 := blk_frozen BK326.out 0; have hfz9_1 := blk_frozen BK326.out 1) | ((with_reducible refine gate_callee (f := 85) rfl ?_); refine goesL_ (some 10) rfl rfl Try.func85 (by kernel_rfl) rfl #[.int .i64 a1_0, .int .i64 0, .int .i64 1] rfl (by (try simp only [List.map_toArray, List.map_cons, List.map_nil]); first | done | rfl | (simp only [List.length_drop, List.length_take]; rfl)) ?_; (with_reducible refine (spec_l1In.calls a1_0 0 1 false _ A4.out).mono ?_); rintro e w' ⟨rfl, ⟨nd, rfl⟩⟩; refine ⟨_, rfl, ?_⟩))
   go_ret
   exact ⟨by first | rfl | (simp [errW_none, errW_some] <;> rfl) | (simp [*, errW_none, errW_some] <;> rfl), by repeat (first | (with_reducible first | exact HB.out | apply below_alloc | apply pw_below_drewN | apply below_drew1 | refine below_set ?_ GE326.out) | exact HB.out)⟩
 ·
  rw [if_neg c3] at H
  have c3b0 : (a0 == 0) = false := beq_eq_false_iff_ne.mpr c3
  have c3b1 : (a0 != 0) = true := bne_iff_ne.mpr c3
  by_cases c10 : a0 = 1
  ·
   rw [if_pos c10] at H
   have c10b0 : (a0 == 1) = true := beq_iff_eq.mpr c10
   have c10b1 : (a0 != 1) = false := bne_eq_false_iff_eq.mpr c10
   clear c10
   replace H := Option.bind_eq_some_iff.mp H
   obtain ⟨t328, A110, H⟩ := H
   replace H : (if t328 = true then (some (a1_1.toList == ([] : List UInt8))) else (some false)) = some r := H
   have A11 := Aside0.mk A110
   clear A110
   by_cases c12 : t328 = true
   ·
    subst c12
    have H1 : (some (a1_1.toList == ([] : List UInt8))) = some r := by rw [if_pos rfl] at H; exact H
    clear H
    have H := H1
    clear H1
    obtain rfl := Option.some.inj H
    go_enter Try.func67, Try.ntmps67
    go_wp2_with (first | ((with_reducible refine gate_dst (N := 3) rfl ?_); (try (refine gate_guard (by rfl) ?_; dsimp only)); refine box_event ?hg (N := 3) ?hd (cs := #[.int .i64 a1_0, .string a1_1]) (t := 31) ?hr ?_; (case hd => rfl); (case hg => rfl); (case hr => first | (go_simp; done) | (go_simp; rfl)); intro gb326 hg w13 hbox hb; have n0_ := Aside0.mk (below_step (by repeat (first | (with_reducible first | exact HB.out | apply below_alloc | apply pw_below_drewN | apply below_drew1) | exact HB.out)) hb); have n1_ := Aside0.mk (hbox); have n2_ := Aside0.mk ((by rw [hg]; exact (below_size (by repeat (first | (with_reducible first | exact HB.out | apply below_alloc | apply pw_below_drewN | apply below_drew1) | exact HB.out))) : w.heap.size ≤ gb326)); have n3_ := Aside0.mk ((by rw [hg]; exact (below_size (by repeat (first | (with_reducible first | exact HB.out | apply below_alloc | apply pw_below_drewN | apply below_drew1) | exact HB.out))) : w.heap.size ≤ gb326)); clear HB; have HB := n0_; have BK326 := n1_; have GW326 := n2_; have GE326 := n3_; clear n0_ n1_ n2_ n3_; clear hb hbox hg; have hcz14_0 : w13.cell? ⟨gb326, 0, none⟩ = some (.int .i64 a1_0) := (blk_cell BK326.out 0).trans rfl; have hcz14_1 : w13.cell? ⟨gb326, 1, none⟩ = some (.string a1_1) := (blk_cell BK326.out 1).trans rfl; have hfz14_0 := blk_frozen BK326.out 0; have hfz14_1 := blk_frozen BK326.out 1) | ((with_reducible refine gate_callee (f := 106) rfl ?_); refine goesL_ (some 20) rfl rfl Try.func106 (by kernel_rfl) rfl #[.int .i64 a1_0] rfl (by (try simp only [List.map_toArray, List.map_cons, List.map_nil]); first | done | rfl | (simp only [List.length_drop, List.length_take]; rfl)) ?_; (with_reducible refine (spec_l4Int.calls a1_0 true _ A11.out).mono ?_); rintro e w' ⟨rfl, ⟨nd, rfl⟩⟩; refine ⟨_, rfl, ?_⟩))
    go_ret
    exact ⟨by first | rfl | (simp [errW_none, errW_some] <;> rfl) | (simp [*, errW_none, errW_some] <;> rfl), by repeat (first | (with_reducible first | exact HB.out | apply below_alloc | apply pw_below_drewN | apply below_drew1 | refine below_set ?_ GE326.out) | exact HB.out)⟩
   ·
    replace c12 := Bool.eq_false_iff.mpr c12
    subst c12
    have H1 : (some false) = some r := by rw [if_neg (show ¬ (false = true) by decide)] at H; exact H
    clear H
    have H := H1
    clear H1
    obtain rfl := Option.some.inj H
    go_enter Try.func67, Try.ntmps67
    go_wp2_with (first | ((with_reducible refine gate_dst (N := 3) rfl ?_); (try (refine gate_guard (by rfl) ?_; dsimp only)); refine box_event ?hg (N := 3) ?hd (cs := #[.int .i64 a1_0, .string a1_1]) (t := 31) ?hr ?_; (case hd => rfl); (case hg => rfl); (case hr => first | (go_simp; done) | (go_simp; rfl)); intro gb326 hg w15 hbox hb; have n0_ := Aside0.mk (below_step (by repeat (first | (with_reducible first | exact HB.out | apply below_alloc | apply pw_below_drewN | apply below_drew1) | exact HB.out)) hb); have n1_ := Aside0.mk (hbox); have n2_ := Aside0.mk ((by rw [hg]; exact (below_size (by repeat (first | (with_reducible first | exact HB.out | apply below_alloc | apply pw_below_drewN | apply below_drew1) | exact HB.out))) : w.heap.size ≤ gb326)); have n3_ := Aside0.mk ((by rw [hg]; exact (below_size (by repeat (first | (with_reducible first | exact HB.out | apply below_alloc | apply pw_below_drewN | apply below_drew1) | exact HB.out))) : w.heap.size ≤ gb326)); clear HB; have HB := n0_; have BK326 := n1_; have GW326 := n2_; have GE326 := n3_; clear n0_ n1_ n2_ n3_; clear hb hbox hg; have hcz16_0 : w15.cell? ⟨gb326, 0, none⟩ = some (.int .i64 a1_0) := (blk_cell BK326.out 0).trans rfl; have hcz16_1 : w15.cell? ⟨gb326, 1, none⟩ = some (.string a1_1) := (blk_cell BK326.out 1).trans rfl; have hfz16_0 := blk_frozen BK326.out 0; have hfz16_1 := blk_frozen BK326.out 1) | ((with_reducible refine gate_callee (f := 106) rfl ?_); refine goesL_ (some 20) rfl rfl Try.func106 (by kernel_rfl) rfl #[.int .i64 a1_0] rfl (by (try simp only [List.map_toArray, List.map_cons, List.map_nil]); first | done | rfl | (simp only [List.length_drop, List.length_take]; rfl)) ?_; (with_reducible refine (spec_l4Int.calls a1_0 false _ A11.out).mono ?_); rintro e w' ⟨rfl, ⟨nd, rfl⟩⟩; refine ⟨_, rfl, ?_⟩))
    go_ret
    exact ⟨by first | rfl | (simp [errW_none, errW_some] <;> rfl) | (simp [*, errW_none, errW_some] <;> rfl), by repeat (first | (with_reducible first | exact HB.out | apply below_alloc | apply pw_below_drewN | apply below_drew1 | refine below_set ?_ GE326.out) | exact HB.out)⟩
  ·
   rw [if_neg c10] at H
   have c10b0 : (a0 == 1) = false := beq_eq_false_iff_ne.mpr c10
   have c10b1 : (a0 != 1) = true := bne_iff_ne.mpr c10
   have HC17 := Aside0.mk H
   clear H
   go_enter Try.func67, Try.ntmps67
   go_upto_if 26 with (first | ((with_reducible refine gate_dst (N := 3) rfl ?_); (try (refine gate_guard (by rfl) ?_; dsimp only)); refine box_event ?hg (N := 3) ?hd (cs := #[.int .i64 a1_0, .string a1_1]) (t := 31) ?hr ?_; (case hd => rfl); (case hg => rfl); (case hr => first | (go_simp; done) | (go_simp; rfl)); intro gb326 hg w18 hbox hb; have n0_ := Aside0.mk (below_step (by repeat (first | (with_reducible first | exact HB.out | apply below_alloc | apply pw_below_drewN | apply below_drew1) | exact HB.out)) hb); have n1_ := Aside0.mk (hbox); have n2_ := Aside0.mk ((by rw [hg]; exact (below_size (by repeat (first | (with_reducible first | exact HB.out | apply below_alloc | apply pw_below_drewN | apply below_drew1) | exact HB.out))) : w.heap.size ≤ gb326)); have n3_ := Aside0.mk ((by rw [hg]; exact (below_size (by repeat (first | (with_reducible first | exact HB.out | apply below_alloc | apply pw_below_drewN | apply below_drew1) | exact HB.out))) : w.heap.size ≤ gb326)); clear HB; have HB := n0_; have BK326 := n1_; have GW326 := n2_; have GE326 := n3_; clear n0_ n1_ n2_ n3_; clear hb hbox hg))
   (try simp only [Act.put, List.setIfInBounds_toArray, List.set_cons_zero, List.set_cons_succ])
   go_cut [26] (fun v26 wc => ∃ (kq : Nat) (x26_16 : Bool), v26 = .bool x26_16 ∧ Aside0 (spec_ValOk.j0 kq a0 x26_16 a1_0 a1_1 = some r) ∧ Aside0 (kq ≤ k) ∧ Aside0 (wc.heap[gb326]? = some (.cells #[.int .i64 a1_0, .string a1_1] 31 (0, 0))) ∧ Aside0 (Below w.heap.size w wc))
   case first =>
    have H := HC17.out
    clear HC17
    by_cases c19 : a0 = 2
    ·
     rw [if_pos c19] at H
     have c19b0 : (a0 == 2) = true := beq_iff_eq.mpr c19
     have c19b1 : (a0 != 2) = false := bne_eq_false_iff_eq.mpr c19
     clear c19
     (first | rw [c19b0] | rw [c19b1] | (simp only [i64_w, i32_w]; rw [c19b0]) | skip)
     have H' := Aside0.mk H
     clear H
     go_wp2
     go_meet
     case rel => exact ⟨_, ((a0 == 2)), (by first | rfl | (simp; done) | (simp [*]; done)), H', ⟨by first | omega | exact Nat.le_refl _⟩, ⟨by (with_reducible repeat (first | refine blk_drewN ?_ _ | refine blk_drew ?_ | refine blk_alloc ?_ _)); exact BK326.out⟩, ⟨by repeat (first | (with_reducible first | exact HB.out | apply below_alloc | apply pw_below_drewN | apply below_drew1 | refine below_set ?_ GE326.out) | exact HB.out)⟩⟩
    ·
     rw [if_neg c19] at H
     have c19b0 : (a0 == 2) = false := beq_eq_false_iff_ne.mpr c19
     have c19b1 : (a0 != 2) = true := bne_iff_ne.mpr c19
     (first | rw [c19b0] | rw [c19b1] | (simp only [i64_w, i32_w]; rw [c19b0]) | skip)
     have H' := Aside0.mk H
     clear H
     go_wp2
     go_meet
     case rel => exact ⟨_, ((a0 == 5)), (by first | rfl | (simp; done) | (simp [*]; done)), H', ⟨by first | omega | exact Nat.le_refl _⟩, ⟨by (with_reducible repeat (first | refine blk_drewN ?_ _ | refine blk_drew ?_ | refine blk_alloc ?_ _)); exact BK326.out⟩, ⟨by repeat (first | (with_reducible first | exact HB.out | apply below_alloc | apply pw_below_drewN | apply below_drew1 | refine below_set ?_ GE326.out) | exact HB.out)⟩⟩
   case rest =>
    clear HC17
    try clear c1
    try clear p2
    try clear c3
    try clear c3b0
    try clear c3b1
    try clear c5
    try clear c6
    try clear c8
    try clear c10
    try clear c10b0
    try clear c10b1
    try clear c12
    try clear c19
    try clear c19b0
    try clear c19b1
    try clear hcz14_0
    try clear hcz14_1
    try clear hcz16_0
    try clear hcz16_1
    try clear hcz7_0
    try clear hcz7_1
    try clear hcz9_0
    try clear hcz9_1
    try clear hfz14_0
    try clear hfz14_1
    try clear hfz16_0
    try clear hfz16_1
    try clear hfz7_0
    try clear hfz7_1
    try clear hfz9_0
    try clear hfz9_1
    obtain ⟨kq, x26_16, rfl, HA, HJ16, BK326, HB⟩ := hcut
    cases kq with
    | zero => exact absurd HA.out (by simp [spec_ValOk.j0])
    | succ kj16 =>
     have H := HA.out
     clear HA
     simp only [spec_ValOk.j0] at H
     by_cases c20 : x26_16 = true
     ·
      subst c20
      have H1 : (some (a1_1.toList == ([] : List UInt8))) = some r := by rw [if_pos rfl] at H; exact H
      clear H
      have H := H1
      clear H1
      obtain rfl := Option.some.inj H
      have hcz21_0 : wc.cell? ⟨gb326, 0, none⟩ = some (.int .i64 a1_0) := (blk_cell BK326.out 0).trans rfl
      have hcz21_1 : wc.cell? ⟨gb326, 1, none⟩ = some (.string a1_1) := (blk_cell BK326.out 1).trans rfl
      have hfz21_0 := blk_frozen BK326.out 0
      have hfz21_1 := blk_frozen BK326.out 1
      go_wp2
      go_ret
      exact ⟨by first | rfl | (simp [errW_none, errW_some] <;> rfl) | (simp [*, errW_none, errW_some] <;> rfl), by repeat (first | (with_reducible first | exact HB.out | apply below_alloc | apply pw_below_drewN | apply below_drew1 | refine below_set ?_ GE326.out) | exact HB.out)⟩
     ·
      replace c20 := Bool.eq_false_iff.mpr c20
      subst c20
      have H1 : (if a0 = 6 then (if a1_0 = 0 then (some (decide ((a1_1.size : Int) ≤ 40))) else (some false)) else (some false)) = some r := by rw [if_neg (show ¬ (false = true) by decide)] at H; exact H
      clear H
      have H := H1
      clear H1
      by_cases c22 : a0 = 6
      ·
       rw [if_pos c22] at H
       have c22b0 : (a0 == 6) = true := beq_iff_eq.mpr c22
       have c22b1 : (a0 != 6) = false := bne_eq_false_iff_eq.mpr c22
       clear c22
       by_cases c23 : a1_0 = 0
       ·
        rw [if_pos c23] at H
        have c23b0 : (a1_0 == 0) = true := beq_iff_eq.mpr c23
        have c23b1 : (a1_0 != 0) = false := bne_eq_false_iff_eq.mpr c23
        clear c23
        obtain rfl := Option.some.inj H
        have hcz24_0 : wc.cell? ⟨gb326, 0, none⟩ = some (.int .i64 a1_0) := (blk_cell BK326.out 0).trans rfl
        have hcz24_1 : wc.cell? ⟨gb326, 1, none⟩ = some (.string a1_1) := (blk_cell BK326.out 1).trans rfl
        have hfz24_0 := blk_frozen BK326.out 0
        have hfz24_1 := blk_frozen BK326.out 1
        go_wp2
        go_ret
        exact ⟨by first | rfl | (simp [errW_none, errW_some] <;> rfl) | (simp [*, errW_none, errW_some] <;> rfl), by repeat (first | (with_reducible first | exact HB.out | apply below_alloc | apply pw_below_drewN | apply below_drew1 | refine below_set ?_ GE326.out) | exact HB.out)⟩
       ·
        rw [if_neg c23] at H
        have c23b0 : (a1_0 == 0) = false := beq_eq_false_iff_ne.mpr c23
        have c23b1 : (a1_0 != 0) = true := bne_iff_ne.mpr c23
        obtain rfl := Option.some.inj H
        have hcz25_0 : wc.cell? ⟨gb326, 0, none⟩ = some (.int .i64 a1_0) := (blk_cell BK326.out 0).trans rfl
        have hcz25_1 : wc.cell? ⟨gb326, 1, none⟩ = some (.string a1_1) := (blk_cell BK326.out 1).trans rfl
        have hfz25_0 := blk_frozen BK326.out 0
        have hfz25_1 := blk_frozen BK326.out 1
        go_wp2
        go_ret
        exact ⟨by first | rfl | (simp [errW_none, errW_some] <;> rfl) | (simp [*, errW_none, errW_some] <;> rfl), by repeat (first | (with_reducible first | exact HB.out | apply below_alloc | apply pw_below_drewN | apply below_drew1 | refine below_set ?_ GE326.out) | exact HB.out)⟩
      ·
       rw [if_neg c22] at H
       have c22b0 : (a0 == 6) = false := beq_eq_false_iff_ne.mpr c22
       have c22b1 : (a0 != 6) = true := bne_iff_ne.mpr c22
       obtain rfl := Option.some.inj H
       go_wp2
       go_ret
       exact ⟨by first | rfl | (simp [errW_none, errW_some] <;> rfl) | (simp [*, errW_none, errW_some] <;> rfl), by repeat (first | (with_reducible first | exact HB.out | apply below_alloc | apply pw_below_drewN | apply below_drew1 | refine below_set ?_ GE326.out) | exact HB.out)⟩

end Go.Proofs.Ytgbhjjhnkiagfaa.PFnDict
