/- The machine's side of FnExactDictPack, written by wip/tools/hyb.py of this repo: each Go function as a plain Lean function, and the proof that the call comes to just its answer. No condition. -/
import Derived.Test.YtgiljoeekpfpmaaPFnExactDictPackx0
import Derived.Test.YtgiljoeekpfpmaaPFnExactDictPackx6
import Derived.Test.YtgiljoeekpfpmaaPFnExactDictPackx9
namespace Go.Proofs.Ytgiljoeekpfpmaa.PFnExactDictPack
open Go.RowKit Go.Proofs.YtgiljoeekpfpmaaW.PrintWords Go.Proofs.YtgiljoeekpfpmaaW.PrintLast Go.Proofs.YtgiljoeekpfpmaaW.PrintMore Go.Proofs.YtgiljoeekpfpmaaW.PrintMore2
attribute [local go_sem] max2_int min2_int max_two min_two max_three min_three max_four min_four   -- for this text's walks alone
set_option linter.unusedVariables false
set_option linter.unusedSimpArgs false

/-- A state of type 85 at block g of W; what its slices lead to came in by w0. -/
def IsS85 (w0 W : World) (g : Nat) (f0 : List (S57)) (f1 : List Int) : Prop := ∃ A0 c0, ∃ A1 c1, W.heap[g]? = some (.cells #[.slice A0 f0.length c0, .slice A1 f1.length c1] 85 (0, 0)) ∧ w0.heap.size ≤ g ∧ Kd.C k57 w0 A0 f0.length f0 ∧ Kd.C (Kd.int .i64) w0 A1 f1.length f1
theorem IsS85.grown {w0 W : World} {g : Nat} {f0 : List (S57)} {f1 : List Int} {W1 : World} {row : Option Nat} (h : IsS85 w0 W g f0 f1) (hw : W.grownBy W1 row) (hne : some g ≠ row) : IsS85 w0 W1 g f0 f1 := by
  obtain ⟨A0, c0, A1, c1, hb, hg, hr0, hr1⟩ := h
  exact ⟨A0, c0, A1, c1, blk_grown hb hw hne, hg, hr0, hr1⟩
theorem IsS85.own_neN {w0 W : World} {g : Nat} {f0 : List (S57)} {f1 : List Int} {α : Type} {d : Kd α} {e : Nat} {base : Nat} {ok : Nat → Prop} {v : Value} {xs : List α} (h : IsS85 w0 W g f0 f1) (ho : Kd.N d e W base ok v xs) (ht : e ≠ 85) : some g ≠ v.ownBlock := by
  obtain ⟨A0, c0, A1, c1, hb, hg, hr0, hr1⟩ := h
  exact Kd.N_ne ho hb ht
theorem IsS85.fresh {w0 W : World} {g : Nat} {f0 : List (S57)} {f1 : List Int} (h : IsS85 w0 W g f0 f1) : ∀ k, W.heap.size ≤ k → k ≠ g := by
  obtain ⟨A0, c0, A1, c1, hb, hg, hr0, hr1⟩ := h
  exact Kd.freshB hb
theorem IsS85.kept {w0 W : World} {g : Nat} {f0 : List (S57)} {f1 : List Int} {W1 : World} {S : Nat → Prop} (h : IsS85 w0 W g f0 f1) (hk : Kept W W1 S) (hne : ¬ S g) : IsS85 w0 W1 g f0 f1 := by
  obtain ⟨A0, c0, A1, c1, hb, hg, hr0, hr1⟩ := h
  exact ⟨A0, c0, A1, c1, blk_kept hb hk hne, hg, hr0, hr1⟩
theorem IsS85.below {w0 W : World} {g : Nat} {f0 : List (S57)} {f1 : List Int} {W1 : World} (h : IsS85 w0 W g f0 f1) (hw : Below W.heap.size W W1) : IsS85 w0 W1 g f0 f1 := h.grown (grown_of_below hw none) (by simp)
theorem IsS85.alloc {w0 W : World} {g : Nat} {f0 : List (S57)} {f1 : List Int} (h : IsS85 w0 W g f0 f1) (o : Obj) : IsS85 w0 (W.alloc o) g f0 f1 := h.below (below_alloc (Below.refl _ _) o)
theorem IsS85.drewN {w0 W : World} {g : Nat} {f0 : List (S57)} {f1 : List Int} (h : IsS85 w0 W g f0 f1) (m : Nat) : IsS85 w0 (W.drewN m) g f0 f1 := h
theorem IsS85.drew {w0 W : World} {g : Nat} {f0 : List (S57)} {f1 : List Int} (h : IsS85 w0 W g f0 f1) : IsS85 w0 W.drew g f0 f1 := h
theorem IsS85.at_ {w0 W : World} {g : Nat} {f0 : List (S57)} {f1 : List Int} {w' : World} {m : Nat} (hq : W.drewN m = w') (h : IsS85 w0 W g f0 f1) : IsS85 w0 w' g f0 f1 := by subst hq; exact IsS85.drewN h m
theorem IsS85.apart {w0 W : World} {g : Nat} {f0 : List (S57)} {f1 : List Int} {α : Type} {d : Kd α} {e : Nat} {base : Nat} {ok : Nat → Prop} {v : Value} {xs : List α} (h : IsS85 w0 W g f0 f1) (ho : d.R e W base ok v xs) (ht : ∀ q, q ∈ e :: d.E → q ≠ 85) : d.R e W base (fun k => ok k ∧ k ≠ g) v xs := by
  obtain ⟨A0, c0, A1, c1, hb, hg, hr0, hr1⟩ := h
  exact Kd.R_types ho hb ht
theorem IsS85.own_ne {w0 W : World} {g : Nat} {f0 : List (S57)} {f1 : List Int} {α : Type} {d : Kd α} {e : Nat} {base : Nat} {ok : Nat → Prop} {v : Value} {xs : List α} (h : IsS85 w0 W g f0 f1) (ho : d.R e W base ok v xs) (ht : e ≠ 85) : some g ≠ v.ownBlock := by
  obtain ⟨A0, c0, A1, c1, hb, hg, hr0, hr1⟩ := h
  exact Kd.R_ne ho hb ht
theorem IsS85.apartQ {w0 W : World} {g : Nat} {f0 : List (S57)} {f1 : List Int} {α : Type} {d : Kd α} {e : Nat} {base : Nat} {ok : Nat → Prop} {v : Value} {xs : List α} (h : IsS85 w0 W g f0 f1) (ho : d.Q e W base ok v xs) (ht : ∀ q, q ∈ e :: d.E → q ≠ 85) : d.Q e W base (fun k => ok k ∧ k ≠ g) v xs := by
  obtain ⟨A0, c0, A1, c1, hb, hg, hr0, hr1⟩ := h
  exact Kd.Q_types ho hb ht
theorem IsS85.own_neQ {w0 W : World} {g : Nat} {f0 : List (S57)} {f1 : List Int} {α : Type} {d : Kd α} {e : Nat} {base : Nat} {ok : Nat → Prop} {v : Value} {xs : List α} (h : IsS85 w0 W g f0 f1) (ho : d.Q e W base ok v xs) (ht : e ≠ 85) : some g ≠ v.ownBlock := by
  obtain ⟨A0, c0, A1, c1, hb, hg, hr0, hr1⟩ := h
  exact Kd.Q_ne ho hb ht
theorem IsS85.apartS {w0 W : World} {g : Nat} {f0 : List (S57)} {f1 : List Int} {α : Type} {d : Kd α} {e : Nat} {base : Nat} {ok : Nat → Prop} {v : Value} {xs : List α} (h : IsS85 w0 W g f0 f1) (ho : d.S e W base ok v xs) (ht : ∀ q, q ∈ e :: d.E → q ≠ 85) : d.S e W base (fun k => ok k ∧ k ≠ g) v xs := by
  obtain ⟨A0, c0, A1, c1, hb, hg, hr0, hr1⟩ := h
  exact Kd.S_types ho hb ht
theorem IsS85.own_neS {w0 W : World} {g : Nat} {f0 : List (S57)} {f1 : List Int} {α : Type} {d : Kd α} {e : Nat} {base : Nat} {ok : Nat → Prop} {v : Value} {xs : List α} (h : IsS85 w0 W g f0 f1) (ho : d.S e W base ok v xs) (ht : e ≠ 85) : some g ≠ v.ownBlock := by
  obtain ⟨A0, c0, A1, c1, hb, hg, hr0, hr1⟩ := h
  exact Kd.S_ne ho hb ht
theorem IsS85.lt {w0 W : World} {g : Nat} {f0 : List (S57)} {f1 : List Int} (h : IsS85 w0 W g f0 f1) : g < W.heap.size := by
  obtain ⟨A0, c0, A1, c1, hb, hg, hr0, hr1⟩ := h
  exact blk_lt hb
theorem IsS85.ge {w0 W : World} {g : Nat} {f0 : List (S57)} {f1 : List Int} (h : IsS85 w0 W g f0 f1) : w0.heap.size ≤ g := by
  obtain ⟨A0, c0, A1, c1, hb, hg, hr0, hr1⟩ := h
  exact hg
theorem IsS85.ne_blk {w0 W : World} {g : Nat} {f0 : List (S57)} {f1 : List Int} {a : Nat} {cs : Array Value} {t : TypeId} {fr : Nat × Nat} (h : IsS85 w0 W g f0 f1) (hb2 : W.heap[a]? = some (.cells cs t fr)) (ht : t ≠ 85) : g ≠ a := by
  obtain ⟨A0, c0, A1, c1, hb, hg, hr0, hr1⟩ := h
  rintro rfl
  rw [hb] at hb2
  injection hb2 with hb2
  injection hb2 with _ ht2
  exact ht ht2.symm
theorem IsS85.far {w0 W : World} {g : Nat} {f0 : List (S57)} {f1 : List Int} {p : Addr} (h : IsS85 w0 W g f0 f1) (hne : g ≠ p.block) (u : Value) : IsS85 w0 (W.setCell p u) g f0 f1 := by
  obtain ⟨A0, c0, A1, c1, hb, hg, hr0, hr1⟩ := h
  exact ⟨A0, c0, A1, c1, blk_far hb hne u, hg, hr0, hr1⟩
theorem cellS85_0 {W : World} {g : Nat} {A0 : Option Addr} {c0 : Nat} {A1 : Option Addr} {c1 : Nat} {f0 : List (S57)} {f1 : List Int} (h : W.heap[g]? = some (.cells #[.slice A0 f0.length c0, .slice A1 f1.length c1] 85 (0, 0))) : W.cell? ⟨g, 0, none⟩ = some (.slice A0 f0.length c0) := (blk_cell h 0).trans rfl
theorem cellS85_1 {W : World} {g : Nat} {A0 : Option Addr} {c0 : Nat} {A1 : Option Addr} {c1 : Nat} {f0 : List (S57)} {f1 : List Int} (h : W.heap[g]? = some (.cells #[.slice A0 f0.length c0, .slice A1 f1.length c1] 85 (0, 0))) : W.cell? ⟨g, 1, none⟩ = some (.slice A1 f1.length c1) := (blk_cell h 1).trans rfl
theorem IsS85.new (w0 W : World) (A0 : Option Addr) (c0 : Nat) (A1 : Option Addr) (c1 : Nat) (f0 : List (S57)) (f1 : List Int) (hB : Below w0.heap.size w0 W) (hr0 : Kd.C k57 w0 A0 f0.length f0) (hr1 : Kd.C (Kd.int .i64) w0 A1 f1.length f1) : IsS85 w0 (W.alloc (.cells #[.slice A0 f0.length c0, .slice A1 f1.length c1] 85)) W.heap.size f0 f1 := ⟨A0, c0, A1, c1, by simpa using heap_alloc_new W _, hB.size, hr0, hr1⟩

/-! ### impl_treeOf: function 27 -/
/-- A state whose second field's row lies in the block ahead of its own. -/
def TsS85 (w0 W : World) (g : Nat) (f0 : List (S57)) (f1 : List Int) : Prop := ∃ A0 c0, W.heap[g]? = some (.cells #[.slice A0 f0.length c0, .slice (some ⟨g - 1, 0, none⟩) f1.length f1.length] 85 (0, 0)) ∧ (w0.heap.size ≤ g ∧ W.heap[g - 1]? = some (.cells (nums .i64 f1).toArray 3 (0, 0)) ∧ w0.heap.size ≤ g - 1 ∧ 1 ≤ g ∧ f1.length ≤ 9223372036854775807) ∧ Kd.C k57 w0 A0 f0.length f0
section
variable {w0 W : World} {g : Nat} {f0 : List (S57)} {f1 : List Int}
theorem TsS85.step {W1 : World} (h : TsS85 w0 W g f0 f1) (h1 : W1.heap[g]? = W.heap[g]?) (h2 : W1.heap[g - 1]? = W.heap[g - 1]?) : TsS85 w0 W1 g f0 f1 := by
  obtain ⟨A0, c0, a, ⟨b, c, d, e⟩, f⟩ := h
  exact ⟨A0, c0, h1.trans a, ⟨b, h2.trans c, d, e⟩, f⟩
theorem TsS85.lt (h : TsS85 w0 W g f0 f1) : g < W.heap.size := by
  obtain ⟨A0, c0, a, _⟩ := h
  exact blk_lt a
theorem TsS85.ge (h : TsS85 w0 W g f0 f1) : w0.heap.size ≤ g := by
  obtain ⟨_, _, _, ⟨b, _⟩, _⟩ := h
  exact b
theorem TsS85.ge1 (h : TsS85 w0 W g f0 f1) : w0.heap.size ≤ g - 1 := by
  obtain ⟨_, _, _, ⟨_, _, d, _⟩, _⟩ := h
  exact d
theorem TsS85.below {W1 : World} (h : TsS85 w0 W g f0 f1) (hw : Below W.heap.size W W1) : TsS85 w0 W1 g f0 f1 :=
  h.step (hw.block g h.lt) (hw.block (g - 1) (by have := h.lt; omega))
theorem TsS85.alloc (h : TsS85 w0 W g f0 f1) (o : Obj) : TsS85 w0 (W.alloc o) g f0 f1 := h.below (below_alloc (Below.refl _ _) o)
theorem TsS85.drewN (h : TsS85 w0 W g f0 f1) (m : Nat) : TsS85 w0 (W.drewN m) g f0 f1 := h
theorem TsS85.drew (h : TsS85 w0 W g f0 f1) : TsS85 w0 W.drew g f0 f1 := h
theorem TsS85.at_ {w' : World} {m : Nat} (hq : W.drewN m = w') (h : TsS85 w0 W g f0 f1) : TsS85 w0 w' g f0 f1 := by subst hq; exact TsS85.drewN h m
theorem TsS85.far {p : Addr} (h : TsS85 w0 W g f0 f1) (hne : g ≠ p.block) (hne1 : g - 1 ≠ p.block) (u : Value) : TsS85 w0 (W.setCell p u) g f0 f1 :=
  h.step (Below.heap_setCell W p u g hne) (Below.heap_setCell W p u (g - 1) hne1)
theorem TsS85.acell (h : TsS85 w0 W g f0 f1) {i : Int} (h0 : 0 ≤ i) (h1 : i < (f1.length : Int)) : W.cell? ⟨g - 1, i.toNat, none⟩ = some (.int .i64 (rd f1 i)) := by
  obtain ⟨_, _, _, ⟨_, c, _, _⟩, _⟩ := h
  refine (blk_cell c i.toNat).trans ?_
  have e : i.toNat < f1.length := by omega
  simp [nums, rd, e]
theorem TsS85.afree (h : TsS85 w0 W g f0 f1) (j : Nat) : W.frozen? ⟨g - 1, j, none⟩ = false := by
  obtain ⟨_, _, _, ⟨_, c, _, _⟩, _⟩ := h
  exact blk_frozen c j
theorem TsS85.set_1 (h : TsS85 w0 W g f0 f1) (i : Nat) (x : Int) : TsS85 w0 (W.setCell ⟨g - 1, i, none⟩ (.int .i64 x)) g f0 (f1.set i x) := by
  have hlt := h.lt
  obtain ⟨A0, c0, a, ⟨b, c, d, e⟩, f⟩ := h
  refine ⟨A0, c0, ?_, ⟨b, ?_, d, e.1, by rw [List.length_set]; exact e.2⟩, f⟩
  · rw [List.length_set]; exact (Below.heap_setCell W _ _ g (by show g ≠ g - 1; omega)).trans a
  · have h2 := blk_set c i (.int .i64 x)
    have e2 : ((nums .i64 f1).toArray.setIfInBounds i (.int .i64 x)) = (nums .i64 (f1.set i x)).toArray := by simp [nums, List.map_set]
    rw [← e2]; exact h2
theorem cellT85_0 {A0 : Option Addr} {c0 : Nat} (h : W.heap[g]? = some (.cells #[.slice A0 f0.length c0, .slice (some ⟨g - 1, 0, none⟩) f1.length f1.length] 85 (0, 0))) : W.cell? ⟨g, 0, none⟩ = some (.slice A0 f0.length c0) := (blk_cell h 0).trans rfl
theorem cellT85_1 {A0 : Option Addr} {c0 : Nat} (h : W.heap[g]? = some (.cells #[.slice A0 f0.length c0, .slice (some ⟨g - 1, 0, none⟩) f1.length f1.length] 85 (0, 0))) : W.cell? ⟨g, 1, none⟩ = some (.slice (some ⟨g - 1, 0, none⟩) f1.length f1.length) := (blk_cell h 1).trans rfl
end
theorem arr_ne {g n b : Nat} (h : g < n) (k : n ≤ b) : g - 1 ≠ b := by omega
theorem arr_neS {g n b : Nat} (h : g < n) (k : n ≤ b) : some b ≠ some (g - 1) := by intro e; injection e with e; omega
theorem keep_allocR {w W : World} {g : Nat} {row : Option Nat} (h : KeepBut w W g row) (o : Obj) : KeepBut w (W.alloc o) g row := ⟨Nat.le_trans h.1 (by simp), fun i hi h1 h2 => ((below_alloc (Below.refl W.heap.size W) o).block i (Nat.lt_of_lt_of_le hi h.1)).trans (h.2 i hi h1 h2)⟩
theorem keep_setR {w W : World} {g r : Nat} (h : KeepBut w W g (some r)) (j : Nat) (u : Value) : KeepBut w (W.setCell ⟨r, j, none⟩ u) g (some r) := ⟨Nat.le_trans h.1 (by simp), fun i hi h1 h2 => (Below.heap_setCell W _ u i (fun e => h2 (by rw [e]))).trans (h.2 i hi h1 h2)⟩
/-! ### impl_tree_measure: function 49 -/
mutual
def impl_tree_measure.j0 : Nat → Int → Int → Bool → List (S57) → List Int → Option (Int × List Int)
  | 0, _, _, _, _, _ => none
  | k + 1, x1, x2, x32, x1000, x1001 => if x32 = true then (some ((-1), x1001)) else (if 0 ≤ x1 then (if x1 < (x1000.length : Int) then (impl_tree_measure.l0 k x1 x2 (wrap64 (x1 + 1)) 0 ((rd_T57 x1000 x1).f4) 0 x1000 x1001 ((rd_T57 x1000 x1).f0) ((rd_T57 x1000 x1).f1) ((rd_T57 x1000 x1).f2) ((rd_T57 x1000 x1).f3) ((rd_T57 x1000 x1).f4)) else (none)) else (none))
def impl_tree_measure.l0 : Nat → Int → Int → Int → Int → Int → Int → List (S57) → List Int → Int → Int → Int → ByteArray → Int → Option (Int × List Int)
  | 0, _, _, _, _, _, _, _, _, _, _, _, _, _ => none
  | k + 1, x1, x2, x8, x9, x43, x44, x1000, x1001, x457000, x457001, x457002, x457003, x457004 => if x44 < x43 then (if x8 ≥ (x1000.length : Int) then (some ((-1), x1001)) else (if 0 ≤ x8 then (if x8 < (x1000.length : Int) then (if x457000 = 9 then (if ((rd_T57 x1000 x8).f0) = x457002 then (impl_tree_measure.j2 k x1 x2 x8 x9 x43 x44 (((rd_T57 x1000 x8).f1) != 0) x1000 x1001 x457000 x457001 x457002 x457003 x457004 ((rd_T57 x1000 x8).f0) ((rd_T57 x1000 x8).f1) ((rd_T57 x1000 x8).f2) ((rd_T57 x1000 x8).f3) ((rd_T57 x1000 x8).f4)) else (impl_tree_measure.j2 k x1 x2 x8 x9 x43 x44 true x1000 x1001 x457000 x457001 x457002 x457003 x457004 ((rd_T57 x1000 x8).f0) ((rd_T57 x1000 x8).f1) ((rd_T57 x1000 x8).f2) ((rd_T57 x1000 x8).f3) ((rd_T57 x1000 x8).f4))) else (impl_tree_measure.j2 k x1 x2 x8 x9 x43 x44 false x1000 x1001 x457000 x457001 x457002 x457003 x457004 ((rd_T57 x1000 x8).f0) ((rd_T57 x1000 x8).f1) ((rd_T57 x1000 x8).f2) ((rd_T57 x1000 x8).f3) ((rd_T57 x1000 x8).f4))) else (none)) else (none))) else (if 0 ≤ x1 then (if x1 < (x1001.length : Int) then (some (x8, x1001.set (x1 : Int).toNat x8)) else (none)) else (none))
def impl_tree_measure.j2 : Nat → Int → Int → Int → Int → Int → Int → Bool → List (S57) → List Int → Int → Int → Int → ByteArray → Int → Int → Int → Int → ByteArray → Int → Option (Int × List Int)
  | 0, _, _, _, _, _, _, _, _, _, _, _, _, _, _, _, _, _, _, _ => none
  | k + 1, x1, x2, x8, x9, x43, x44, x74, x1000, x1001, x457000, x457001, x457002, x457003, x457004, x459000, x459001, x459002, x459003, x459004 => if x74 = true then (some ((-1), x1001)) else (if x457000 = 12 then ((impl_within.f x459001 (wrap64 (x9 + 1)) 1000).bind fun t459 => (impl_tree_measure.j3 k x1 x2 x8 x43 x44 (!t459) x1000 x1001 x457000 x457001 x457002 x457003 x457004 x459000 x459001 x459002 x459003 x459004)) else (impl_tree_measure.j3 k x1 x2 x8 x43 x44 false x1000 x1001 x457000 x457001 x457002 x457003 x457004 x459000 x459001 x459002 x459003 x459004))
def impl_tree_measure.j3 : Nat → Int → Int → Int → Int → Int → Bool → List (S57) → List Int → Int → Int → Int → ByteArray → Int → Int → Int → Int → ByteArray → Int → Option (Int × List Int)
  | 0, _, _, _, _, _, _, _, _, _, _, _, _, _, _, _, _, _, _ => none
  | k + 1, x1, x2, x8, x43, x44, x85, x1000, x1001, x457000, x457001, x457002, x457003, x457004, x459000, x459001, x459002, x459003, x459004 => if x85 = true then (some ((-1), x1001)) else ((impl_tree_measure.f k x1000 x1001 x8 (wrap64 (x2 + 1))).bind fun bt460 => (if bt460.1 < 0 then (some ((-1), bt460.2)) else (impl_tree_measure.l0 k x1 x2 bt460.1 x459001 x43 (wrap64 (x44 + 1)) x1000 bt460.2 x457000 x457001 x457002 x457003 x457004)))
def impl_tree_measure.f : Nat → List (S57) → List Int → Int → Int → Option (Int × List Int)
  | 0, _, _, _, _ => none
  | k + 1, s0_0, s0_1, a1, a2 => if a1 ≥ (s0_0.length : Int) then (impl_tree_measure.j0 k a1 a2 true s0_0 s0_1) else (if a2 > 12 then (impl_tree_measure.j0 k a1 a2 true s0_0 s0_1) else (if 0 ≤ a1 then (if a1 < (s0_0.length : Int) then ((impl_nodeOk.f k ((rd_T57 s0_0 a1).f0) ((rd_T57 s0_0 a1).f1) ((rd_T57 s0_0 a1).f2) ((rd_T57 s0_0 a1).f3) ((rd_T57 s0_0 a1).f4)).bind fun t454 => (impl_tree_measure.j0 k a1 a2 (!t454) s0_0 s0_1)) else (none)) else (none)))
end
set_option maxHeartbeats 8000000 in
set_option maxRecDepth 100000 in
theorem impl_tree_measure.calls (k : Nat) : ∀ (g : Nat) (s0_0 : List (S57)) (s0_1 : List Int) (a1 : Int) (a2 : Int) (r1 : Int) (r2 : List Int) (w0 w : World) (hI : TsS85 w0 w g s0_0 s0_1) (hB : Below w0.heap.size w0 w) (h : impl_tree_measure.f k s0_0 s0_1 a1 a2 = some (r1, r2)),
    Calls Try.prog 49 #[.pointer (some ⟨g, 0, none⟩), .int .i64 a1, .int .i64 a2] w fun e w' => e = .returned (.int .i64 r1) ∧ TsS85 w0 w' g s0_0 r2 ∧ Below w0.heap.size w0 w' ∧ KeepBut w w' g (some (g - 1)) := by
  induction k using Nat.strongRecOn with
  | _ k ih =>
  intro g s0_0 s0_1 a1 a2 r1 r2 w0 w hI hB h
  cases k with
  | zero => exact absurd h (by simp [impl_tree_measure.f])
  | succ k =>
  simp only [impl_tree_measure.f] at h
  have hu57 := Try.underlying57
  have HI0 := Aside0.mk hI
  have HLT := Aside0.mk hI.lt
  have HK := Aside0.mk (KeepBut.refl w g (some (g - 1)))
  have HL := Aside0.mk hB.size
  clear hI
  have HW0 := Aside0.mk hB.size
  have HB := Aside0.mk hB
  clear hB
  have H : (if a1 ≥ (s0_0.length : Int) then (impl_tree_measure.j0 k a1 a2 true s0_0 s0_1) else (if a2 > 12 then (impl_tree_measure.j0 k a1 a2 true s0_0 s0_1) else (if 0 ≤ a1 then (if a1 < (s0_0.length : Int) then ((impl_nodeOk.f k ((rd_T57 s0_0 a1).f0) ((rd_T57 s0_0 a1).f1) ((rd_T57 s0_0 a1).f2) ((rd_T57 s0_0 a1).f3) ((rd_T57 s0_0 a1).f4)).bind fun t454 => (impl_tree_measure.j0 k a1 a2 (!t454) s0_0 s0_1)) else (none)) else (none)))) = some (r1, r2) := h
  clear h
  have HC4 := Aside0.mk H
  clear H
  go_enter Try.func49, Try.ntmps49
  go_upto_region 1 with (fail)
  go_cut [32] (fun v32 wc => ∃ (kq : Nat) (x32_3 : Bool), v32 = .bool x32_3 ∧ Aside0 (impl_tree_measure.j0 kq a1 a2 x32_3 s0_0 s0_1 = some (r1, r2)) ∧ Aside0 (kq ≤ k) ∧ Aside0 (TsS85 w0 wc g s0_0 s0_1) ∧ Aside0 (KeepBut w wc g (some (g - 1))) ∧ Aside0 (Below w0.heap.size w0 wc))
  case first =>
    have H := HC4.out
    clear HC4
    by_cases c5 : a1 ≥ (s0_0.length : Int)
    · rw [if_pos c5] at H
      have c5b0 : decide ((s0_0.length : Int) ≤ a1) = true := decide_eq_true c5
      clear c5
      (first | rw [c5b0] | (simp only [i64_w, i32_w]; rw [c5b0]) | skip)
      have H' := Aside0.mk H
      clear H
      obtain ⟨ASz6_0, cSz6_0, HGz6, hgz6, HSz6_0⟩ := HI0.out
      have hcz6_0 := cellT85_0 HGz6
      have hcz6_1 := cellT85_1 HGz6
      have hfz6_1 := blk_frozen HGz6 1
      clear HGz6 hgz6
      go_wp2
      go_meet
      case rel => exact ⟨_, (true), sr, H', ⟨by first | omega | exact Nat.le_refl _⟩, ⟨by repeat (first | (with_reducible first | exact HI0.out | apply TsS85.alloc | apply TsS85.drewN | apply TsS85.drew | apply TsS85.set_1) | exact HI0.out)⟩, ⟨by repeat (first | (with_reducible first | exact HK.out | apply KeepBut.set_ | apply keep_setR | apply keep_drewN | apply keep_drew | apply keep_allocR) | exact HK.out)⟩, ⟨by repeat (first | (with_reducible first | exact HB.out | apply below_alloc | apply pw_below_drewN | apply below_drew1 | refine below_set ?_ (TsS85.ge HI0.out) | refine below_set ?_ (TsS85.ge1 HI0.out)) | exact HB.out)⟩⟩
    · rw [if_neg c5] at H
      have c5b0 : decide ((s0_0.length : Int) ≤ a1) = false := decide_eq_false c5
      clear c5
      (first | rw [c5b0] | (simp only [i64_w, i32_w]; rw [c5b0]) | skip)
      by_cases c7 : a2 > 12
      · rw [if_pos c7] at H
        have c7b0 : decide (12 < a2) = true := decide_eq_true c7
        clear c7
        have H' := Aside0.mk H
        clear H
        obtain ⟨ASz8_0, cSz8_0, HGz8, hgz8, HSz8_0⟩ := HI0.out
        have hcz8_0 := cellT85_0 HGz8
        have hcz8_1 := cellT85_1 HGz8
        have hfz8_1 := blk_frozen HGz8 1
        clear HGz8 hgz8
        go_wp2
        go_meet
        case rel => exact ⟨_, (true), sr, H', ⟨by first | omega | exact Nat.le_refl _⟩, ⟨by repeat (first | (with_reducible first | exact HI0.out | apply TsS85.alloc | apply TsS85.drewN | apply TsS85.drew | apply TsS85.set_1) | exact HI0.out)⟩, ⟨by repeat (first | (with_reducible first | exact HK.out | apply KeepBut.set_ | apply keep_setR | apply keep_drewN | apply keep_drew | apply keep_allocR) | exact HK.out)⟩, ⟨by repeat (first | (with_reducible first | exact HB.out | apply below_alloc | apply pw_below_drewN | apply below_drew1 | refine below_set ?_ (TsS85.ge HI0.out) | refine below_set ?_ (TsS85.ge1 HI0.out)) | exact HB.out)⟩⟩
      · rw [if_neg c7] at H
        have c7b0 : decide (12 < a2) = false := decide_eq_false c7
        clear c7
        replace H := ifd H
        obtain ⟨c9b0, H⟩ := H
        replace H := ifd H
        obtain ⟨c10b0, H⟩ := H
        replace H := bnd H
        obtain ⟨t454, A11, H⟩ := H
        have H' := Aside0.mk H
        clear H
        obtain ⟨ASz12_0, cSz12_0, HGz12, hgz12, HSz12_0⟩ := HI0.out
        have hcz12_0 := cellT85_0 HGz12
        have hcz12_1 := cellT85_1 HGz12
        have hfz12_1 := blk_frozen HGz12 1
        clear HGz12 hgz12
        have p453 : 0 ≤ (a1 : Int) := dcd
        have q453 : a1 < (s0_0.length : Int) := dcd
        obtain ⟨ad453, e453, hx453_0, hx453_1, hx453_2, hx453_3, hx453_4⟩ := at_T57 HSz12_0 a1 p453 q453
        cases e453
        replace hx453_0 := pw_cell_below HB.out hx453_0
        replace hx453_1 := pw_cell_below HB.out hx453_1
        replace hx453_2 := pw_cell_below HB.out hx453_2
        replace hx453_3 := pw_cell_below HB.out hx453_3
        replace hx453_4 := pw_cell_below HB.out hx453_4
        replace p453 := eq_true p453
        replace q453 := eq_true q453
        go_wp2_with (first | (go_at_call 75; (with_reducible refine (impl_nodeOk.calls k ((rd_T57 s0_0 a1).f0) ((rd_T57 s0_0 a1).f1) ((rd_T57 s0_0 a1).f2) ((rd_T57 s0_0 a1).f3) ((rd_T57 s0_0 a1).f4) t454 _ A11.out).mono ?_); rintro e w13 ⟨rfl, hb⟩; replace HK := Aside0.mk (KeepBut.trans (by repeat (first | (with_reducible first | exact HK.out | apply KeepBut.set_ | apply keep_setR | apply keep_drewN | apply keep_drew | apply keep_allocR) | exact HK.out)) (KeepBut.of_below hb g (some (g - 1))) (.inl rfl)); replace HB := Aside0.mk (below_step (by repeat (first | (with_reducible first | exact HB.out | apply below_alloc | apply pw_below_drewN | apply below_drew1 | refine below_set ?_ (TsS85.ge HI0.out) | refine below_set ?_ (TsS85.ge1 HI0.out)) | exact HB.out)) hb); replace HI0 := Aside0.mk (TsS85.below (by repeat (first | (with_reducible first | exact HI0.out | apply TsS85.alloc | apply TsS85.drewN | apply TsS85.drew | apply TsS85.set_1) | exact HI0.out)) hb); (try clear hb)))
        go_meet
        case rel => exact ⟨_, (!t454), sr, H', ⟨by first | omega | exact Nat.le_refl _⟩, ⟨by repeat (first | (with_reducible first | exact HI0.out | apply TsS85.alloc | apply TsS85.drewN | apply TsS85.drew | apply TsS85.set_1) | exact HI0.out)⟩, ⟨by repeat (first | (with_reducible first | exact HK.out | apply KeepBut.set_ | apply keep_setR | apply keep_drewN | apply keep_drew | apply keep_allocR) | exact HK.out)⟩, ⟨by repeat (first | (with_reducible first | exact HB.out | apply below_alloc | apply pw_below_drewN | apply below_drew1 | refine below_set ?_ (TsS85.ge HI0.out) | refine below_set ?_ (TsS85.ge1 HI0.out)) | exact HB.out)⟩⟩
  case rest =>
    clear HC4
    try clear c1
    obtain ⟨kq, x32_3, rfl, HA, HJ3, HI0, HK, HB⟩ := hcut
    cases kq with
    | zero => exact absurd HA.out (by simp [impl_tree_measure.j0])
    | succ kj3 =>
      have H := HA.out
      clear HA
      simp only [impl_tree_measure.j0] at H
      by_cases c14 : x32_3 = true
      · subst c14
        replace H := ifp rfl H
        simp only [Option.some.injEq, Prod.mk.injEq] at H
        obtain ⟨rfl, rfl⟩ := H
        go_wp2
        go_ret
        exact ⟨by first | rfl | (simp [errW_none, errW_some] <;> rfl) | (simp [*, errW_none, errW_some] <;> rfl), by repeat (first | (with_reducible first | exact HI0.out | apply TsS85.alloc | apply TsS85.drewN | apply TsS85.drew | apply TsS85.set_1) | exact HI0.out), by repeat (first | (with_reducible first | exact HB.out | apply below_alloc | apply pw_below_drewN | apply below_drew1 | refine below_set ?_ (TsS85.ge HI0.out) | refine below_set ?_ (TsS85.ge1 HI0.out)) | exact HB.out), by repeat (first | (with_reducible first | exact HK.out | apply KeepBut.set_ | apply keep_setR | apply keep_drewN | apply keep_drew | apply keep_allocR) | exact HK.out)⟩
      · replace c14 := Bool.eq_false_iff.mpr c14
        subst c14
        replace H := ifn Bool.false_ne_true H
        replace H := ifd H
        obtain ⟨c15b0, H⟩ := H
        replace H := ifd H
        obtain ⟨c16b0, H⟩ := H
        have H' := Aside0.mk H
        clear H
        obtain ⟨ASz17_0, cSz17_0, HGz17, hgz17, HSz17_0⟩ := HI0.out
        have hcz17_0 := cellT85_0 HGz17
        have hcz17_1 := cellT85_1 HGz17
        have hfz17_1 := blk_frozen HGz17 1
        clear HGz17 hgz17
        have p455 : 0 ≤ (a1 : Int) := dcd
        have q455 : a1 < (s0_0.length : Int) := dcd
        obtain ⟨ad455, e455, hx455_0, hx455_1, hx455_2, hx455_3, hx455_4⟩ := at_T57 HSz17_0 a1 p455 q455
        cases e455
        replace hx455_0 := pw_cell_below HB.out hx455_0
        replace hx455_1 := pw_cell_below HB.out hx455_1
        replace hx455_2 := pw_cell_below HB.out hx455_2
        replace hx455_3 := pw_cell_below HB.out hx455_3
        replace hx455_4 := pw_cell_below HB.out hx455_4
        replace p455 := eq_true p455
        replace q455 := eq_true q455
        go_wp2_with (first | ((with_reducible refine gate_dst (N := 7) rfl ?_); refine bx_ 7 #[.int .i64 0, .int .i64 0, .int .i64 0, .string (⟨#[]⟩ : ByteArray), .int .i64 0] 57 ?_; intro gb456 hg w18 hbox hb; have BK456 := Aside0.mk (hbox); have GW456 := Aside0.mk ((by rw [hg]; exact (keep_size (w := w) (g := g) (row := some (g - 1)) (by repeat (first | (with_reducible first | exact HK.out | apply KeepBut.set_ | apply keep_setR | apply keep_drewN | apply keep_drew | apply keep_allocR) | exact HK.out))) : w.heap.size ≤ gb456)); have GE456 := Aside0.mk ((Nat.le_trans HW0.out (by rw [hg]; exact (keep_size (w := w) (g := g) (row := some (g - 1)) (by repeat (first | (with_reducible first | exact HK.out | apply KeepBut.set_ | apply keep_setR | apply keep_drewN | apply keep_drew | apply keep_allocR) | exact HK.out))) : w.heap.size ≤ gb456) : w0.heap.size ≤ gb456)); have NB0_456 := Aside0.mk ((by rw [hg]; exact Nat.ne_of_lt (TsS85.lt (show TsS85 w0 _ g s0_0 s0_1 from by repeat (first | (with_reducible first | exact HI0.out | apply TsS85.alloc | apply TsS85.drewN | apply TsS85.drew | apply TsS85.set_1) | exact HI0.out))) : g ≠ gb456)); have NB456_0 := Aside0.mk ((by rw [hg]; exact Nat.ne_of_gt (TsS85.lt (show TsS85 w0 _ g s0_0 s0_1 from by repeat (first | (with_reducible first | exact HI0.out | apply TsS85.alloc | apply TsS85.drewN | apply TsS85.drew | apply TsS85.set_1) | exact HI0.out))) : gb456 ≠ g)); replace HK := Aside0.mk (KeepBut.trans (by repeat (first | (with_reducible first | exact HK.out | apply KeepBut.set_ | apply keep_setR | apply keep_drewN | apply keep_drew | apply keep_allocR) | exact HK.out)) (KeepBut.of_below hb g (some (g - 1))) (.inl rfl)); replace HB := Aside0.mk (below_step (by repeat (first | (with_reducible first | exact HB.out | apply below_alloc | apply pw_below_drewN | apply below_drew1 | refine below_set ?_ (TsS85.ge HI0.out) | refine below_set ?_ (TsS85.ge1 HI0.out)) | exact HB.out)) hb); replace HI0 := Aside0.mk (TsS85.below (by repeat (first | (with_reducible first | exact HI0.out | apply TsS85.alloc | apply TsS85.drewN | apply TsS85.drew | apply TsS85.set_1) | exact HI0.out)) hb); clear hb hbox hg; have hnb19 := NB456_0.out; have hnc19 := NB0_456.out; obtain ⟨hcz20_0, hcz20_1, hcz20_2, hcz20_3, hcz20_4, hfz20_0, hfz20_1, hfz20_2, hfz20_3, hfz20_4⟩ := cl5 BK456))
        go_loopg [8, 9, 44] kj3 (fun kq v8 v9 v44 w' => ∃ (x8_2 : Int) (x9_2 : Int) (x44_2 : Int) (x1001_2 : List Int), v8 = .int .i64 x8_2 ∧ v9 = .int .i64 x9_2 ∧ v44 = .int .i64 x44_2 ∧ Aside0 (impl_tree_measure.l0 kq a1 a2 x8_2 x9_2 ((rd_T57 s0_0 a1).f4) x44_2 s0_0 x1001_2 ((rd_T57 s0_0 a1).f0) ((rd_T57 s0_0 a1).f1) ((rd_T57 s0_0 a1).f2) ((rd_T57 s0_0 a1).f3) ((rd_T57 s0_0 a1).f4) = some (r1, r2)) ∧ Aside0 (kq ≤ kj3) ∧ Aside0 (w'.heap[gb456]? = some (.cells #[.int .i64 ((rd_T57 s0_0 a1).f0), .int .i64 ((rd_T57 s0_0 a1).f1), .int .i64 ((rd_T57 s0_0 a1).f2), .string ((rd_T57 s0_0 a1).f3), .int .i64 ((rd_T57 s0_0 a1).f4)] 57 (0, 0))) ∧ Aside0 (TsS85 w0 w' g s0_0 x1001_2) ∧ Aside0 (KeepBut w w' g (some (g - 1))) ∧ Aside0 (Below w0.heap.size w0 w'))
        case atStart => exact ⟨(wrap64 (a1 + 1)), (0), (0), (s0_1), sr, sr, sr, H', ⟨Nat.le_refl _⟩, ⟨blk_later BK456.out⟩, ⟨by repeat (first | (with_reducible first | exact HI0.out | apply TsS85.alloc | apply TsS85.drewN | apply TsS85.drew | apply TsS85.set_1 | refine TsS85.far ?_ NB0_456.out (arr_ne HLT.out GW456.out) _) | exact HI0.out)⟩, ⟨by repeat (first | (with_reducible first | exact HK.out | apply KeepBut.set_ | apply keep_setR | apply keep_drewN | apply keep_drew | apply keep_allocR | refine keep_far ?_ (Aside0.out (by with_reducible assumption)) _) | exact HK.out)⟩, ⟨by repeat (first | (with_reducible first | exact HB.out | apply below_alloc | apply pw_below_drewN | apply below_drew1 | refine below_set ?_ (TsS85.ge HI0.out) | refine below_set ?_ (TsS85.ge1 HI0.out) | refine below_set ?_ GE456.out) | exact HB.out)⟩⟩
        case round =>
          clear H'
          try clear c1
          try clear c14
          try clear c15b0
          try clear c16b0
          try clear hcz17_0
          try clear hcz17_1
          try clear hcz20_0
          try clear hcz20_1
          try clear hcz20_2
          try clear hcz20_3
          try clear hcz20_4
          try clear hfz17_1
          try clear hfz20_0
          try clear hfz20_1
          try clear hfz20_2
          try clear hfz20_3
          try clear hfz20_4
          try clear hx455_0
          try clear hx455_1
          try clear hx455_2
          try clear hx455_3
          try clear hx455_4
          try clear p455
          try clear q455
          obtain ⟨x8_2, x9_2, x44_2, x1001_2, rfl, rfl, rfl, HA, HK2, BK456, HI0, HK, HB⟩ := hrel
          cases gk with
          | zero => exact absurd HA.out (by simp [impl_tree_measure.l0])
          | succ k2 =>
            have H := HA.out
            clear HA
            simp only [impl_tree_measure.l0] at H
            by_cases c21 : x44_2 < ((rd_T57 s0_0 a1).f4)
            · rw [if_pos c21] at H
              have c21b0 := decide_eq_true c21
              clear c21
              by_cases c22 : x8_2 ≥ (s0_0.length : Int)
              · rw [if_pos c22] at H
                have c22b0 : decide ((s0_0.length : Int) ≤ x8_2) = true := decide_eq_true c22
                clear c22
                simp only [Option.some.injEq, Prod.mk.injEq] at H
                obtain ⟨rfl, rfl⟩ := H
                obtain ⟨ASz23_0, cSz23_0, HGz23, hgz23, HSz23_0⟩ := HI0.out
                have hcz23_0 := cellT85_0 HGz23
                have hcz23_1 := cellT85_1 HGz23
                have hfz23_1 := blk_frozen HGz23 1
                clear HGz23 hgz23
                go_wp2
                go_ret
                exact ⟨by first | rfl | (simp [errW_none, errW_some] <;> rfl) | (simp [*, errW_none, errW_some] <;> rfl), by repeat (first | (with_reducible first | exact HI0.out | apply TsS85.alloc | apply TsS85.drewN | apply TsS85.drew | apply TsS85.set_1 | refine TsS85.far ?_ NB0_456.out (arr_ne HLT.out GW456.out) _) | exact HI0.out), by repeat (first | (with_reducible first | exact HB.out | apply below_alloc | apply pw_below_drewN | apply below_drew1 | refine below_set ?_ (TsS85.ge HI0.out) | refine below_set ?_ (TsS85.ge1 HI0.out) | refine below_set ?_ GE456.out) | exact HB.out), by repeat (first | (with_reducible first | exact HK.out | apply KeepBut.set_ | apply keep_setR | apply keep_drewN | apply keep_drew | apply keep_allocR | refine keep_far ?_ (Aside0.out (by with_reducible assumption)) _) | exact HK.out)⟩
              · rw [if_neg c22] at H
                have c22b0 : decide ((s0_0.length : Int) ≤ x8_2) = false := decide_eq_false c22
                clear c22
                replace H := ifd H
                obtain ⟨c24b0, H⟩ := H
                replace H := ifd H
                obtain ⟨c25b0, H⟩ := H
                have HC26 := Aside0.mk H
                clear H
                obtain ⟨ASz27_0, cSz27_0, HGz27, hgz27, HSz27_0⟩ := HI0.out
                have hcz27_0 := cellT85_0 HGz27
                have hcz27_1 := cellT85_1 HGz27
                have hfz27_1 := blk_frozen HGz27 1
                clear HGz27 hgz27
                have p457 : 0 ≤ (x8_2 : Int) := dcd
                have q457 : x8_2 < (s0_0.length : Int) := dcd
                obtain ⟨ad457, e457, hx457_0, hx457_1, hx457_2, hx457_3, hx457_4⟩ := at_T57 HSz27_0 x8_2 p457 q457
                cases e457
                replace hx457_0 := pw_cell_below HB.out hx457_0
                replace hx457_1 := pw_cell_below HB.out hx457_1
                replace hx457_2 := pw_cell_below HB.out hx457_2
                replace hx457_3 := pw_cell_below HB.out hx457_3
                replace hx457_4 := pw_cell_below HB.out hx457_4
                replace p457 := eq_true p457
                replace q457 := eq_true q457
                go_upto_region 11 with (first | ((with_reducible refine gate_dst (N := 10) rfl ?_); refine bx_ 10 #[.int .i64 0, .int .i64 0, .int .i64 0, .string (⟨#[]⟩ : ByteArray), .int .i64 0] 57 ?_; intro gb458 hg w28 hbox hb; have BK458 := Aside0.mk (hbox); have GW458 := Aside0.mk ((by rw [hg]; exact (keep_size (w := w) (g := g) (row := some (g - 1)) (by repeat (first | (with_reducible first | exact HK.out | apply KeepBut.set_ | apply keep_setR | apply keep_drewN | apply keep_drew | apply keep_allocR | refine keep_far ?_ (Aside0.out (by with_reducible assumption)) _) | exact HK.out))) : w.heap.size ≤ gb458)); have GE458 := Aside0.mk ((Nat.le_trans HW0.out (by rw [hg]; exact (keep_size (w := w) (g := g) (row := some (g - 1)) (by repeat (first | (with_reducible first | exact HK.out | apply KeepBut.set_ | apply keep_setR | apply keep_drewN | apply keep_drew | apply keep_allocR | refine keep_far ?_ (Aside0.out (by with_reducible assumption)) _) | exact HK.out))) : w.heap.size ≤ gb458) : w0.heap.size ≤ gb458)); have NB456_458 := nbl BK456 hg; have NB458_456 := nbr (nbl BK456 hg); have NB0_458 := Aside0.mk ((by rw [hg]; exact Nat.ne_of_lt (TsS85.lt (show TsS85 w0 _ g s0_0 x1001_2 from by repeat (first | (with_reducible first | exact HI0.out | apply TsS85.alloc | apply TsS85.drewN | apply TsS85.drew | apply TsS85.set_1 | refine TsS85.far ?_ NB0_456.out (arr_ne HLT.out GW456.out) _) | exact HI0.out))) : g ≠ gb458)); have NB458_0 := Aside0.mk ((by rw [hg]; exact Nat.ne_of_gt (TsS85.lt (show TsS85 w0 _ g s0_0 x1001_2 from by repeat (first | (with_reducible first | exact HI0.out | apply TsS85.alloc | apply TsS85.drewN | apply TsS85.drew | apply TsS85.set_1 | refine TsS85.far ?_ NB0_456.out (arr_ne HLT.out GW456.out) _) | exact HI0.out))) : gb458 ≠ g)); replace BK456 := bkb BK456 hb; replace HK := Aside0.mk (KeepBut.trans (by repeat (first | (with_reducible first | exact HK.out | apply KeepBut.set_ | apply keep_setR | apply keep_drewN | apply keep_drew | apply keep_allocR | refine keep_far ?_ (Aside0.out (by with_reducible assumption)) _) | exact HK.out)) (KeepBut.of_below hb g (some (g - 1))) (.inl rfl)); replace HB := Aside0.mk (below_step (by repeat (first | (with_reducible first | exact HB.out | apply below_alloc | apply pw_below_drewN | apply below_drew1 | refine below_set ?_ (TsS85.ge HI0.out) | refine below_set ?_ (TsS85.ge1 HI0.out) | refine below_set ?_ GE456.out) | exact HB.out)) hb); replace HI0 := Aside0.mk (TsS85.below (by repeat (first | (with_reducible first | exact HI0.out | apply TsS85.alloc | apply TsS85.drewN | apply TsS85.drew | apply TsS85.set_1 | refine TsS85.far ?_ NB0_456.out (arr_ne HLT.out GW456.out) _) | exact HI0.out)) hb); clear hb hbox hg; have hnb29 := NB458_456.out; have hnc29 := NB456_458.out; have hnb30 := NB458_0.out; have hnc30 := NB0_458.out; obtain ⟨hcz31_0, hcz31_1, hcz31_2, hcz31_3, hcz31_4, hfz31_0, hfz31_1, hfz31_2, hfz31_3, hfz31_4⟩ := cl5 BK458))
                (try simp only [Act.put, List.setIfInBounds_toArray, List.set_cons_zero, List.set_cons_succ])
                go_cut [74] (fun v74 wc => ∃ (kq : Nat) (x74_25 : Bool), v74 = .bool x74_25 ∧ Aside0 (impl_tree_measure.j2 kq a1 a2 x8_2 x9_2 ((rd_T57 s0_0 a1).f4) x44_2 x74_25 s0_0 x1001_2 ((rd_T57 s0_0 a1).f0) ((rd_T57 s0_0 a1).f1) ((rd_T57 s0_0 a1).f2) ((rd_T57 s0_0 a1).f3) ((rd_T57 s0_0 a1).f4) ((rd_T57 s0_0 x8_2).f0) ((rd_T57 s0_0 x8_2).f1) ((rd_T57 s0_0 x8_2).f2) ((rd_T57 s0_0 x8_2).f3) ((rd_T57 s0_0 x8_2).f4) = some (r1, r2)) ∧ Aside0 (kq ≤ k2) ∧ Aside0 (wc.heap[gb456]? = some (.cells #[.int .i64 ((rd_T57 s0_0 a1).f0), .int .i64 ((rd_T57 s0_0 a1).f1), .int .i64 ((rd_T57 s0_0 a1).f2), .string ((rd_T57 s0_0 a1).f3), .int .i64 ((rd_T57 s0_0 a1).f4)] 57 (0, 0))) ∧ Aside0 (wc.heap[gb458]? = some (.cells #[.int .i64 ((rd_T57 s0_0 x8_2).f0), .int .i64 ((rd_T57 s0_0 x8_2).f1), .int .i64 ((rd_T57 s0_0 x8_2).f2), .string ((rd_T57 s0_0 x8_2).f3), .int .i64 ((rd_T57 s0_0 x8_2).f4)] 57 (0, 0))) ∧ Aside0 (TsS85 w0 wc g s0_0 x1001_2) ∧ Aside0 (KeepBut w wc g (some (g - 1))) ∧ Aside0 (Below w0.heap.size w0 wc))
                case first =>
                  have H := HC26.out
                  clear HC26
                  by_cases c32 : ((rd_T57 s0_0 a1).f0) = 9
                  · rw [if_pos c32] at H
                    have c32b0 : (((rd_T57 s0_0 a1).f0) == 9) = true := beq_iff_eq.mpr c32
                    have c32b1 : (((rd_T57 s0_0 a1).f0) != 9) = false := bne_eq_false_iff_eq.mpr c32
                    clear c32
                    (first | rw [c32b0] | rw [c32b1] | (simp only [i64_w, i32_w]; rw [c32b0]) | skip)
                    by_cases c33 : ((rd_T57 s0_0 x8_2).f0) = ((rd_T57 s0_0 a1).f2)
                    · rw [if_pos c33] at H
                      have c33b0 : (((rd_T57 s0_0 x8_2).f0) == ((rd_T57 s0_0 a1).f2)) = true := beq_iff_eq.mpr c33
                      have c33b1 : (((rd_T57 s0_0 x8_2).f0) != ((rd_T57 s0_0 a1).f2)) = false := bne_eq_false_iff_eq.mpr c33
                      clear c33
                      have H' := Aside0.mk H
                      clear H
                      have hnb34 := NB456_458.out
                      have hnc34 := NB458_456.out
                      have hnb35 := NB456_0.out
                      have hnc35 := NB0_456.out
                      obtain ⟨hcz36_0, hcz36_1, hcz36_2, hcz36_3, hcz36_4, hfz36_0, hfz36_1, hfz36_2, hfz36_3, hfz36_4⟩ := cl5 BK456
                      have hnb37 := NB458_0.out
                      have hnc37 := NB0_458.out
                      obtain ⟨hcz38_0, hcz38_1, hcz38_2, hcz38_3, hcz38_4, hfz38_0, hfz38_1, hfz38_2, hfz38_3, hfz38_4⟩ := cl5 BK458
                      go_wp2
                      go_meet
                      case rel => exact ⟨_, ((((rd_T57 s0_0 x8_2).f1) != 0)), sr, H', ⟨by have := HJ3.out; have := HK2.out; first | omega | exact Nat.le_refl _⟩, ⟨blk_later BK456.out⟩, ⟨blk_later BK458.out⟩, ⟨by repeat (first | (with_reducible first | exact HI0.out | apply TsS85.alloc | apply TsS85.drewN | apply TsS85.drew | apply TsS85.set_1 | refine TsS85.far ?_ NB0_456.out (arr_ne HLT.out GW456.out) _ | refine TsS85.far ?_ NB0_458.out (arr_ne HLT.out GW458.out) _) | exact HI0.out)⟩, ⟨by repeat (first | (with_reducible first | exact HK.out | apply KeepBut.set_ | apply keep_setR | apply keep_drewN | apply keep_drew | apply keep_allocR | refine keep_far ?_ (Aside0.out (by with_reducible assumption)) _) | exact HK.out)⟩, ⟨by repeat (first | (with_reducible first | exact HB.out | apply below_alloc | apply pw_below_drewN | apply below_drew1 | refine below_set ?_ (TsS85.ge HI0.out) | refine below_set ?_ (TsS85.ge1 HI0.out) | refine below_set ?_ GE456.out | refine below_set ?_ GE458.out) | exact HB.out)⟩⟩
                    · rw [if_neg c33] at H
                      have c33b0 : (((rd_T57 s0_0 x8_2).f0) == ((rd_T57 s0_0 a1).f2)) = false := beq_eq_false_iff_ne.mpr c33
                      have c33b1 : (((rd_T57 s0_0 x8_2).f0) != ((rd_T57 s0_0 a1).f2)) = true := bne_iff_ne.mpr c33
                      have H' := Aside0.mk H
                      clear H
                      have hnb39 := NB456_458.out
                      have hnc39 := NB458_456.out
                      have hnb40 := NB456_0.out
                      have hnc40 := NB0_456.out
                      obtain ⟨hcz41_0, hcz41_1, hcz41_2, hcz41_3, hcz41_4, hfz41_0, hfz41_1, hfz41_2, hfz41_3, hfz41_4⟩ := cl5 BK456
                      have hnb42 := NB458_0.out
                      have hnc42 := NB0_458.out
                      obtain ⟨hcz43_0, hcz43_1, hcz43_2, hcz43_3, hcz43_4, hfz43_0, hfz43_1, hfz43_2, hfz43_3, hfz43_4⟩ := cl5 BK458
                      go_wp2
                      go_meet
                      case rel => exact ⟨_, (true), sr, H', ⟨by have := HJ3.out; have := HK2.out; first | omega | exact Nat.le_refl _⟩, ⟨blk_later BK456.out⟩, ⟨blk_later BK458.out⟩, ⟨by repeat (first | (with_reducible first | exact HI0.out | apply TsS85.alloc | apply TsS85.drewN | apply TsS85.drew | apply TsS85.set_1 | refine TsS85.far ?_ NB0_456.out (arr_ne HLT.out GW456.out) _ | refine TsS85.far ?_ NB0_458.out (arr_ne HLT.out GW458.out) _) | exact HI0.out)⟩, ⟨by repeat (first | (with_reducible first | exact HK.out | apply KeepBut.set_ | apply keep_setR | apply keep_drewN | apply keep_drew | apply keep_allocR | refine keep_far ?_ (Aside0.out (by with_reducible assumption)) _) | exact HK.out)⟩, ⟨by repeat (first | (with_reducible first | exact HB.out | apply below_alloc | apply pw_below_drewN | apply below_drew1 | refine below_set ?_ (TsS85.ge HI0.out) | refine below_set ?_ (TsS85.ge1 HI0.out) | refine below_set ?_ GE456.out | refine below_set ?_ GE458.out) | exact HB.out)⟩⟩
                  · rw [if_neg c32] at H
                    have c32b0 : (((rd_T57 s0_0 a1).f0) == 9) = false := beq_eq_false_iff_ne.mpr c32
                    have c32b1 : (((rd_T57 s0_0 a1).f0) != 9) = true := bne_iff_ne.mpr c32
                    (first | rw [c32b0] | rw [c32b1] | (simp only [i64_w, i32_w]; rw [c32b0]) | skip)
                    have H' := Aside0.mk H
                    clear H
                    have hnb44 := NB456_458.out
                    have hnc44 := NB458_456.out
                    have hnb45 := NB456_0.out
                    have hnc45 := NB0_456.out
                    obtain ⟨hcz46_0, hcz46_1, hcz46_2, hcz46_3, hcz46_4, hfz46_0, hfz46_1, hfz46_2, hfz46_3, hfz46_4⟩ := cl5 BK456
                    go_wp2
                    go_meet
                    case rel => exact ⟨_, (false), sr, H', ⟨by have := HJ3.out; have := HK2.out; first | omega | exact Nat.le_refl _⟩, ⟨blk_later BK456.out⟩, ⟨blk_later BK458.out⟩, ⟨by repeat (first | (with_reducible first | exact HI0.out | apply TsS85.alloc | apply TsS85.drewN | apply TsS85.drew | apply TsS85.set_1 | refine TsS85.far ?_ NB0_456.out (arr_ne HLT.out GW456.out) _ | refine TsS85.far ?_ NB0_458.out (arr_ne HLT.out GW458.out) _) | exact HI0.out)⟩, ⟨by repeat (first | (with_reducible first | exact HK.out | apply KeepBut.set_ | apply keep_setR | apply keep_drewN | apply keep_drew | apply keep_allocR | refine keep_far ?_ (Aside0.out (by with_reducible assumption)) _) | exact HK.out)⟩, ⟨by repeat (first | (with_reducible first | exact HB.out | apply below_alloc | apply pw_below_drewN | apply below_drew1 | refine below_set ?_ (TsS85.ge HI0.out) | refine below_set ?_ (TsS85.ge1 HI0.out) | refine below_set ?_ GE456.out | refine below_set ?_ GE458.out) | exact HB.out)⟩⟩
                case rest =>
                  clear HC26
                  try clear c1
                  try clear c14
                  try clear c15b0
                  try clear c16b0
                  try clear c21
                  try clear c21b0
                  try clear c22
                  try clear c22b0
                  try clear c24b0
                  try clear c25b0
                  try clear hcz17_0
                  try clear hcz17_1
                  try clear hcz20_0
                  try clear hcz20_1
                  try clear hcz20_2
                  try clear hcz20_3
                  try clear hcz20_4
                  try clear hcz27_0
                  try clear hcz27_1
                  try clear hcz31_0
                  try clear hcz31_1
                  try clear hcz31_2
                  try clear hcz31_3
                  try clear hcz31_4
                  try clear hfz17_1
                  try clear hfz20_0
                  try clear hfz20_1
                  try clear hfz20_2
                  try clear hfz20_3
                  try clear hfz20_4
                  try clear hfz27_1
                  try clear hfz31_0
                  try clear hfz31_1
                  try clear hfz31_2
                  try clear hfz31_3
                  try clear hfz31_4
                  try clear hx455_0
                  try clear hx455_1
                  try clear hx455_2
                  try clear hx455_3
                  try clear hx455_4
                  try clear hx457_0
                  try clear hx457_1
                  try clear hx457_2
                  try clear hx457_3
                  try clear hx457_4
                  try clear p455
                  try clear p457
                  try clear q455
                  try clear q457
                  obtain ⟨kq, x74_25, rfl, HA, HJ25, BK456, BK458, HI0, HK, HB⟩ := hcut
                  cases kq with
                  | zero => exact absurd HA.out (by simp [impl_tree_measure.j2])
                  | succ kj25 =>
                    have H := HA.out
                    clear HA
                    simp only [impl_tree_measure.j2] at H
                    by_cases c47 : x74_25 = true
                    · subst c47
                      replace H := ifp rfl H
                      simp only [Option.some.injEq, Prod.mk.injEq] at H
                      obtain ⟨rfl, rfl⟩ := H
                      go_wp2
                      go_ret
                      exact ⟨by first | rfl | (simp [errW_none, errW_some] <;> rfl) | (simp [*, errW_none, errW_some] <;> rfl), by repeat (first | (with_reducible first | exact HI0.out | apply TsS85.alloc | apply TsS85.drewN | apply TsS85.drew | apply TsS85.set_1 | refine TsS85.far ?_ NB0_456.out (arr_ne HLT.out GW456.out) _ | refine TsS85.far ?_ NB0_458.out (arr_ne HLT.out GW458.out) _) | exact HI0.out), by repeat (first | (with_reducible first | exact HB.out | apply below_alloc | apply pw_below_drewN | apply below_drew1 | refine below_set ?_ (TsS85.ge HI0.out) | refine below_set ?_ (TsS85.ge1 HI0.out) | refine below_set ?_ GE456.out | refine below_set ?_ GE458.out) | exact HB.out), by repeat (first | (with_reducible first | exact HK.out | apply KeepBut.set_ | apply keep_setR | apply keep_drewN | apply keep_drew | apply keep_allocR | refine keep_far ?_ (Aside0.out (by with_reducible assumption)) _) | exact HK.out)⟩
                    · replace c47 := Bool.eq_false_iff.mpr c47
                      subst c47
                      replace H := ifn Bool.false_ne_true H
                      have HC48 := Aside0.mk H
                      clear H
                      go_upto_region 13 with (fail)
                      go_cut [85] (fun v85 wc => ∃ (kq : Nat) (x85_47 : Bool), v85 = .bool x85_47 ∧ Aside0 (impl_tree_measure.j3 kq a1 a2 x8_2 ((rd_T57 s0_0 a1).f4) x44_2 x85_47 s0_0 x1001_2 ((rd_T57 s0_0 a1).f0) ((rd_T57 s0_0 a1).f1) ((rd_T57 s0_0 a1).f2) ((rd_T57 s0_0 a1).f3) ((rd_T57 s0_0 a1).f4) ((rd_T57 s0_0 x8_2).f0) ((rd_T57 s0_0 x8_2).f1) ((rd_T57 s0_0 x8_2).f2) ((rd_T57 s0_0 x8_2).f3) ((rd_T57 s0_0 x8_2).f4) = some (r1, r2)) ∧ Aside0 (kq ≤ kj25) ∧ Aside0 (wc.heap[gb456]? = some (.cells #[.int .i64 ((rd_T57 s0_0 a1).f0), .int .i64 ((rd_T57 s0_0 a1).f1), .int .i64 ((rd_T57 s0_0 a1).f2), .string ((rd_T57 s0_0 a1).f3), .int .i64 ((rd_T57 s0_0 a1).f4)] 57 (0, 0))) ∧ Aside0 (wc.heap[gb458]? = some (.cells #[.int .i64 ((rd_T57 s0_0 x8_2).f0), .int .i64 ((rd_T57 s0_0 x8_2).f1), .int .i64 ((rd_T57 s0_0 x8_2).f2), .string ((rd_T57 s0_0 x8_2).f3), .int .i64 ((rd_T57 s0_0 x8_2).f4)] 57 (0, 0))) ∧ Aside0 (TsS85 w0 wc g s0_0 x1001_2) ∧ Aside0 (KeepBut w wc g (some (g - 1))) ∧ Aside0 (Below w0.heap.size w0 wc))
                      case first =>
                        have H := HC48.out
                        clear HC48
                        by_cases c49 : ((rd_T57 s0_0 a1).f0) = 12
                        · rw [if_pos c49] at H
                          have c49b0 : (((rd_T57 s0_0 a1).f0) == 12) = true := beq_iff_eq.mpr c49
                          have c49b1 : (((rd_T57 s0_0 a1).f0) != 12) = false := bne_eq_false_iff_eq.mpr c49
                          clear c49
                          (first | rw [c49b0] | rw [c49b1] | (simp only [i64_w, i32_w]; rw [c49b0]) | skip)
                          replace H := bnd H
                          obtain ⟨t459, A50, H⟩ := H
                          have H' := Aside0.mk H
                          clear H
                          have hnb51 := NB456_458.out
                          have hnc51 := NB458_456.out
                          have hnb52 := NB456_0.out
                          have hnc52 := NB0_456.out
                          obtain ⟨hcz53_0, hcz53_1, hcz53_2, hcz53_3, hcz53_4, hfz53_0, hfz53_1, hfz53_2, hfz53_3, hfz53_4⟩ := cl5 BK456
                          have hnb54 := NB458_0.out
                          have hnc54 := NB0_458.out
                          obtain ⟨hcz55_0, hcz55_1, hcz55_2, hcz55_3, hcz55_4, hfz55_0, hfz55_1, hfz55_2, hfz55_3, hfz55_4⟩ := cl5 BK458
                          go_wp2_with (first | (go_at_call 48; (with_reducible refine (impl_within.calls ((rd_T57 s0_0 x8_2).f1) (wrap64 (x9_2 + 1)) 1000 t459 _ A50.out).mono ?_); rintro e w' ⟨rfl, ⟨nd, rfl⟩⟩))
                          go_meet
                          case rel => exact ⟨_, (!t459), sr, H', ⟨by have := HJ3.out; have := HK2.out; have := HJ25.out; first | omega | exact Nat.le_refl _⟩, ⟨blk_later BK456.out⟩, ⟨blk_later BK458.out⟩, ⟨by repeat (first | (with_reducible first | exact HI0.out | apply TsS85.alloc | apply TsS85.drewN | apply TsS85.drew | apply TsS85.set_1 | refine TsS85.far ?_ NB0_456.out (arr_ne HLT.out GW456.out) _ | refine TsS85.far ?_ NB0_458.out (arr_ne HLT.out GW458.out) _) | exact HI0.out)⟩, ⟨by repeat (first | (with_reducible first | exact HK.out | apply KeepBut.set_ | apply keep_setR | apply keep_drewN | apply keep_drew | apply keep_allocR | refine keep_far ?_ (Aside0.out (by with_reducible assumption)) _) | exact HK.out)⟩, ⟨by repeat (first | (with_reducible first | exact HB.out | apply below_alloc | apply pw_below_drewN | apply below_drew1 | refine below_set ?_ (TsS85.ge HI0.out) | refine below_set ?_ (TsS85.ge1 HI0.out) | refine below_set ?_ GE456.out | refine below_set ?_ GE458.out) | exact HB.out)⟩⟩
                        · rw [if_neg c49] at H
                          have c49b0 : (((rd_T57 s0_0 a1).f0) == 12) = false := beq_eq_false_iff_ne.mpr c49
                          have c49b1 : (((rd_T57 s0_0 a1).f0) != 12) = true := bne_iff_ne.mpr c49
                          (first | rw [c49b0] | rw [c49b1] | (simp only [i64_w, i32_w]; rw [c49b0]) | skip)
                          have H' := Aside0.mk H
                          clear H
                          have hnb56 := NB456_458.out
                          have hnc56 := NB458_456.out
                          have hnb57 := NB456_0.out
                          have hnc57 := NB0_456.out
                          obtain ⟨hcz58_0, hcz58_1, hcz58_2, hcz58_3, hcz58_4, hfz58_0, hfz58_1, hfz58_2, hfz58_3, hfz58_4⟩ := cl5 BK456
                          go_wp2
                          go_meet
                          case rel => exact ⟨_, (false), sr, H', ⟨by have := HJ3.out; have := HK2.out; have := HJ25.out; first | omega | exact Nat.le_refl _⟩, ⟨blk_later BK456.out⟩, ⟨blk_later BK458.out⟩, ⟨by repeat (first | (with_reducible first | exact HI0.out | apply TsS85.alloc | apply TsS85.drewN | apply TsS85.drew | apply TsS85.set_1 | refine TsS85.far ?_ NB0_456.out (arr_ne HLT.out GW456.out) _ | refine TsS85.far ?_ NB0_458.out (arr_ne HLT.out GW458.out) _) | exact HI0.out)⟩, ⟨by repeat (first | (with_reducible first | exact HK.out | apply KeepBut.set_ | apply keep_setR | apply keep_drewN | apply keep_drew | apply keep_allocR | refine keep_far ?_ (Aside0.out (by with_reducible assumption)) _) | exact HK.out)⟩, ⟨by repeat (first | (with_reducible first | exact HB.out | apply below_alloc | apply pw_below_drewN | apply below_drew1 | refine below_set ?_ (TsS85.ge HI0.out) | refine below_set ?_ (TsS85.ge1 HI0.out) | refine below_set ?_ GE456.out | refine below_set ?_ GE458.out) | exact HB.out)⟩⟩
                      case rest =>
                        clear HC48
                        try clear c1
                        try clear c14
                        try clear c15b0
                        try clear c16b0
                        try clear c21
                        try clear c21b0
                        try clear c22
                        try clear c22b0
                        try clear c24b0
                        try clear c25b0
                        try clear c47
                        try clear hcz17_0
                        try clear hcz17_1
                        try clear hcz20_0
                        try clear hcz20_1
                        try clear hcz20_2
                        try clear hcz20_3
                        try clear hcz20_4
                        try clear hcz27_0
                        try clear hcz27_1
                        try clear hcz31_0
                        try clear hcz31_1
                        try clear hcz31_2
                        try clear hcz31_3
                        try clear hcz31_4
                        try clear hfz17_1
                        try clear hfz20_0
                        try clear hfz20_1
                        try clear hfz20_2
                        try clear hfz20_3
                        try clear hfz20_4
                        try clear hfz27_1
                        try clear hfz31_0
                        try clear hfz31_1
                        try clear hfz31_2
                        try clear hfz31_3
                        try clear hfz31_4
                        try clear hx455_0
                        try clear hx455_1
                        try clear hx455_2
                        try clear hx455_3
                        try clear hx455_4
                        try clear hx457_0
                        try clear hx457_1
                        try clear hx457_2
                        try clear hx457_3
                        try clear hx457_4
                        try clear p455
                        try clear p457
                        try clear q455
                        try clear q457
                        obtain ⟨kq, x85_47, rfl, HA, HJ47, BK456, BK458, HI0, HK, HB⟩ := hcut
                        cases kq with
                        | zero => exact absurd HA.out (by simp [impl_tree_measure.j3])
                        | succ kj47 =>
                          have H := HA.out
                          clear HA
                          simp only [impl_tree_measure.j3] at H
                          by_cases c59 : x85_47 = true
                          · subst c59
                            replace H := ifp rfl H
                            simp only [Option.some.injEq, Prod.mk.injEq] at H
                            obtain ⟨rfl, rfl⟩ := H
                            go_wp2
                            go_ret
                            exact ⟨by first | rfl | (simp [errW_none, errW_some] <;> rfl) | (simp [*, errW_none, errW_some] <;> rfl), by repeat (first | (with_reducible first | exact HI0.out | apply TsS85.alloc | apply TsS85.drewN | apply TsS85.drew | apply TsS85.set_1 | refine TsS85.far ?_ NB0_456.out (arr_ne HLT.out GW456.out) _ | refine TsS85.far ?_ NB0_458.out (arr_ne HLT.out GW458.out) _) | exact HI0.out), by repeat (first | (with_reducible first | exact HB.out | apply below_alloc | apply pw_below_drewN | apply below_drew1 | refine below_set ?_ (TsS85.ge HI0.out) | refine below_set ?_ (TsS85.ge1 HI0.out) | refine below_set ?_ GE456.out | refine below_set ?_ GE458.out) | exact HB.out), by repeat (first | (with_reducible first | exact HK.out | apply KeepBut.set_ | apply keep_setR | apply keep_drewN | apply keep_drew | apply keep_allocR | refine keep_far ?_ (Aside0.out (by with_reducible assumption)) _) | exact HK.out)⟩
                          · replace c59 := Bool.eq_false_iff.mpr c59
                            subst c59
                            replace H := ifn Bool.false_ne_true H
                            replace H := Option.bind_eq_some_iff.mp H
                            obtain ⟨⟨t460, t461⟩, A600, H⟩ := H
                            replace H : (if t460 < 0 then (some ((-1), t461)) else (impl_tree_measure.l0 kj47 a1 a2 t460 ((rd_T57 s0_0 x8_2).f1) ((rd_T57 s0_0 a1).f4) (wrap64 (x44_2 + 1)) s0_0 t461 ((rd_T57 s0_0 a1).f0) ((rd_T57 s0_0 a1).f1) ((rd_T57 s0_0 a1).f2) ((rd_T57 s0_0 a1).f3) ((rd_T57 s0_0 a1).f4))) = some (r1, r2) := H
                            have A60 := Aside0.mk A600
                            clear A600
                            by_cases c61 : t460 < 0
                            · rw [if_pos c61] at H
                              have c61b0 := decide_eq_true c61
                              clear c61
                              simp only [Option.some.injEq, Prod.mk.injEq] at H
                              obtain ⟨rfl, rfl⟩ := H
                              have hnb62 := NB458_456.out
                              have hnc62 := NB456_458.out
                              have hnb63 := NB458_0.out
                              have hnc63 := NB0_458.out
                              obtain ⟨hcz64_0, hcz64_1, hcz64_2, hcz64_3, hcz64_4, hfz64_0, hfz64_1, hfz64_2, hfz64_3, hfz64_4⟩ := cl5 BK458
                              go_wp2_with (first | ((with_reducible refine gate_callee (f := 49) rfl ?_); refine gl_ (some 92) Try.func49 #[.pointer (some ⟨g, 0, none⟩), .int .i64 x8_2, .int .i64 (wrap64 (a2 + 1))] rfl ?_; (with_reducible refine (ih kj47 (by have := HJ3.out; have := HK2.out; have := HJ25.out; have := HJ47.out; omega) g s0_0 x1001_2 x8_2 (wrap64 (a2 + 1)) t460 t461 w0 _ ?side1 ?side2 A60.out).mono ?_); (case side1 => repeat (first | (with_reducible first | exact HI0.out | apply TsS85.alloc | apply TsS85.drewN | apply TsS85.drew | apply TsS85.set_1 | refine TsS85.far ?_ NB0_456.out (arr_ne HLT.out GW456.out) _ | refine TsS85.far ?_ NB0_458.out (arr_ne HLT.out GW458.out) _) | exact HI0.out)); (case side2 => repeat (first | (with_reducible first | exact HB.out | apply below_alloc | apply pw_below_drewN | apply below_drew1 | refine below_set ?_ (TsS85.ge HI0.out) | refine below_set ?_ (TsS85.ge1 HI0.out) | refine below_set ?_ GE456.out | refine below_set ?_ GE458.out) | exact HB.out)); rintro e w65 ⟨rfl, hi, hb, hk⟩; refine ⟨_, rfl, ?_⟩; replace BK456 := Aside0.mk (KeepBut.blk hk (g' := gb456) (o := .cells #[.int .i64 ((rd_T57 s0_0 a1).f0), .int .i64 ((rd_T57 s0_0 a1).f1), .int .i64 ((rd_T57 s0_0 a1).f2), .string ((rd_T57 s0_0 a1).f3), .int .i64 ((rd_T57 s0_0 a1).f4)] 57 (0, 0)) (blk_later BK456.out) NB456_0.out (arr_neS HLT.out GW456.out)); replace BK458 := Aside0.mk (KeepBut.blk hk (g' := gb458) (o := .cells #[.int .i64 ((rd_T57 s0_0 x8_2).f0), .int .i64 ((rd_T57 s0_0 x8_2).f1), .int .i64 ((rd_T57 s0_0 x8_2).f2), .string ((rd_T57 s0_0 x8_2).f3), .int .i64 ((rd_T57 s0_0 x8_2).f4)] 57 (0, 0)) (blk_later BK458.out) NB458_0.out (arr_neS HLT.out GW458.out)); replace HK := Aside0.mk (KeepBut.trans (by repeat (first | (with_reducible first | exact HK.out | apply KeepBut.set_ | apply keep_setR | apply keep_drewN | apply keep_drew | apply keep_allocR | refine keep_far ?_ (Aside0.out (by with_reducible assumption)) _) | exact HK.out)) hk (.inl rfl)); replace HB := Aside0.mk (hb); replace HI0 := Aside0.mk (hi); (try clear hb); (try clear hk); (try clear hi)))
                              go_ret
                              exact ⟨by first | rfl | (simp [errW_none, errW_some] <;> rfl) | (simp [*, errW_none, errW_some] <;> rfl), by repeat (first | (with_reducible first | exact HI0.out | apply TsS85.alloc | apply TsS85.drewN | apply TsS85.drew | apply TsS85.set_1 | refine TsS85.far ?_ NB0_456.out (arr_ne HLT.out GW456.out) _ | refine TsS85.far ?_ NB0_458.out (arr_ne HLT.out GW458.out) _) | exact HI0.out), by repeat (first | (with_reducible first | exact HB.out | apply below_alloc | apply pw_below_drewN | apply below_drew1 | refine below_set ?_ (TsS85.ge HI0.out) | refine below_set ?_ (TsS85.ge1 HI0.out) | refine below_set ?_ GE456.out | refine below_set ?_ GE458.out) | exact HB.out), by repeat (first | (with_reducible first | exact HK.out | apply KeepBut.set_ | apply keep_setR | apply keep_drewN | apply keep_drew | apply keep_allocR | refine keep_far ?_ (Aside0.out (by with_reducible assumption)) _) | exact HK.out)⟩
                            · rw [if_neg c61] at H
                              have c61b0 := decide_eq_false c61
                              clear c61
                              have H' := Aside0.mk H
                              clear H
                              have hnb66 := NB458_456.out
                              have hnc66 := NB456_458.out
                              have hnb67 := NB458_0.out
                              have hnc67 := NB0_458.out
                              obtain ⟨hcz68_0, hcz68_1, hcz68_2, hcz68_3, hcz68_4, hfz68_0, hfz68_1, hfz68_2, hfz68_3, hfz68_4⟩ := cl5 BK458
                              go_wp2_with (first | ((with_reducible refine gate_callee (f := 49) rfl ?_); refine gl_ (some 92) Try.func49 #[.pointer (some ⟨g, 0, none⟩), .int .i64 x8_2, .int .i64 (wrap64 (a2 + 1))] rfl ?_; (with_reducible refine (ih kj47 (by have := HJ3.out; have := HK2.out; have := HJ25.out; have := HJ47.out; omega) g s0_0 x1001_2 x8_2 (wrap64 (a2 + 1)) t460 t461 w0 _ ?side1 ?side2 A60.out).mono ?_); (case side1 => repeat (first | (with_reducible first | exact HI0.out | apply TsS85.alloc | apply TsS85.drewN | apply TsS85.drew | apply TsS85.set_1 | refine TsS85.far ?_ NB0_456.out (arr_ne HLT.out GW456.out) _ | refine TsS85.far ?_ NB0_458.out (arr_ne HLT.out GW458.out) _) | exact HI0.out)); (case side2 => repeat (first | (with_reducible first | exact HB.out | apply below_alloc | apply pw_below_drewN | apply below_drew1 | refine below_set ?_ (TsS85.ge HI0.out) | refine below_set ?_ (TsS85.ge1 HI0.out) | refine below_set ?_ GE456.out | refine below_set ?_ GE458.out) | exact HB.out)); rintro e w69 ⟨rfl, hi, hb, hk⟩; refine ⟨_, rfl, ?_⟩; replace BK456 := Aside0.mk (KeepBut.blk hk (g' := gb456) (o := .cells #[.int .i64 ((rd_T57 s0_0 a1).f0), .int .i64 ((rd_T57 s0_0 a1).f1), .int .i64 ((rd_T57 s0_0 a1).f2), .string ((rd_T57 s0_0 a1).f3), .int .i64 ((rd_T57 s0_0 a1).f4)] 57 (0, 0)) (blk_later BK456.out) NB456_0.out (arr_neS HLT.out GW456.out)); replace BK458 := Aside0.mk (KeepBut.blk hk (g' := gb458) (o := .cells #[.int .i64 ((rd_T57 s0_0 x8_2).f0), .int .i64 ((rd_T57 s0_0 x8_2).f1), .int .i64 ((rd_T57 s0_0 x8_2).f2), .string ((rd_T57 s0_0 x8_2).f3), .int .i64 ((rd_T57 s0_0 x8_2).f4)] 57 (0, 0)) (blk_later BK458.out) NB458_0.out (arr_neS HLT.out GW458.out)); replace HK := Aside0.mk (KeepBut.trans (by repeat (first | (with_reducible first | exact HK.out | apply KeepBut.set_ | apply keep_setR | apply keep_drewN | apply keep_drew | apply keep_allocR | refine keep_far ?_ (Aside0.out (by with_reducible assumption)) _) | exact HK.out)) hk (.inl rfl)); replace HB := Aside0.mk (hb); replace HI0 := Aside0.mk (hi); (try clear hb); (try clear hk); (try clear hi)))
                              go_roundg kj47
                              case measure => have := HJ3.out; have := HK2.out; have := HJ25.out; have := HJ47.out; omega
                              case rel => exact ⟨(t460), (((rd_T57 s0_0 x8_2).f1)), (wrap64 (x44_2 + 1)), (t461), sr, sr, sr, H', ⟨by have := HJ3.out; have := HK2.out; have := HJ25.out; have := HJ47.out; omega⟩, ⟨blk_later BK456.out⟩, ⟨by repeat (first | (with_reducible first | exact HI0.out | apply TsS85.alloc | apply TsS85.drewN | apply TsS85.drew | apply TsS85.set_1 | refine TsS85.far ?_ NB0_456.out (arr_ne HLT.out GW456.out) _ | refine TsS85.far ?_ NB0_458.out (arr_ne HLT.out GW458.out) _) | exact HI0.out)⟩, ⟨by repeat (first | (with_reducible first | exact HK.out | apply KeepBut.set_ | apply keep_setR | apply keep_drewN | apply keep_drew | apply keep_allocR | refine keep_far ?_ (Aside0.out (by with_reducible assumption)) _) | exact HK.out)⟩, ⟨by repeat (first | (with_reducible first | exact HB.out | apply below_alloc | apply pw_below_drewN | apply below_drew1 | refine below_set ?_ (TsS85.ge HI0.out) | refine below_set ?_ (TsS85.ge1 HI0.out) | refine below_set ?_ GE456.out | refine below_set ?_ GE458.out) | exact HB.out)⟩⟩
            · rw [if_neg c21] at H
              have c21b0 := decide_eq_false c21
              clear c21
              replace H := ifd H
              obtain ⟨c70b0, H⟩ := H
              replace H := ifd H
              obtain ⟨c71b0, H⟩ := H
              simp only [Option.some.injEq, Prod.mk.injEq] at H
              obtain ⟨rfl, rfl⟩ := H
              obtain ⟨ASz73_0, cSz73_0, HGz73, hgz73, HSz73_0⟩ := HI0.out
              have hcz73_0 := cellT85_0 HGz73
              have hcz73_1 := cellT85_1 HGz73
              have hfz73_1 := blk_frozen HGz73 1
              clear HGz73 hgz73
              have pa72 : 0 ≤ (a1 : Int) := dcd
              have qa72 : a1 < (x1001_2.length : Int) := dcd
              have hxa72 := TsS85.acell (by repeat (first | (with_reducible first | exact HI0.out | apply TsS85.alloc | apply TsS85.drewN | apply TsS85.drew | apply TsS85.set_1 | refine TsS85.far ?_ NB0_456.out (arr_ne HLT.out GW456.out) _) | exact HI0.out)) pa72 qa72
              have hfa72 := TsS85.afree (by repeat (first | (with_reducible first | exact HI0.out | apply TsS85.alloc | apply TsS85.drewN | apply TsS85.drew | apply TsS85.set_1 | refine TsS85.far ?_ NB0_456.out (arr_ne HLT.out GW456.out) _) | exact HI0.out)) (a1 : Int).toNat
              replace pa72 := eq_true pa72
              replace qa72 := eq_true qa72
              go_wp2
              go_ret
              exact ⟨by first | rfl | (simp [errW_none, errW_some] <;> rfl) | (simp [*, errW_none, errW_some] <;> rfl), by repeat (first | (with_reducible first | exact HI0.out | apply TsS85.alloc | apply TsS85.drewN | apply TsS85.drew | apply TsS85.set_1 | refine TsS85.far ?_ NB0_456.out (arr_ne HLT.out GW456.out) _) | exact HI0.out), by repeat (first | (with_reducible first | exact HB.out | apply below_alloc | apply pw_below_drewN | apply below_drew1 | refine below_set ?_ (TsS85.ge HI0.out) | refine below_set ?_ (TsS85.ge1 HI0.out) | refine below_set ?_ GE456.out) | exact HB.out), by repeat (first | (with_reducible first | exact HK.out | apply KeepBut.set_ | apply keep_setR | apply keep_drewN | apply keep_drew | apply keep_allocR | refine keep_far ?_ (Aside0.out (by with_reducible assumption)) _) | exact HK.out)⟩
section
variable {P : Program} {ops : Array Oper} {rest : List Oper} {o : Oper} {a : Act} {Q : Exit → Act → World → Prop}
/-- 'make([]int, n)', and where the row lies. -/
theorem make_ints {W : World} (hgd : o.guard = none) {N : Tmp} (_hd : o.dst = some N) (t e : TypeId) (x y : Operand) (ho : o.op = .makeSlice t x y) (n : Nat) (hx : a.eval x = .int .i64 n) (hy : a.eval y = .int .i64 n)
    (ht : P.underlying t = some (.slice e)) (hinfo : (P.info? e).map (fun i => (i.zero, i.size, i.bytes)) = some (some (.int .i64 0), 1, 8)) (hl : n ≤ 1048576)
    (h : ∀ b, b = W.heap.size → ∀ w1, w1.heap[b]? = some (.cells (nums .i64 (List.replicate n 0)).toArray e (0, 0)) → Below W.heap.size W w1 → w1.heap.size = b + 1 → wpList P ops Q rest (a.put o.dst (.slice (some ⟨b, 0, none⟩) n n)) w1) : wpList P ops Q (o :: rest) a W := by
  obtain ⟨i0, hi, hzz⟩ := Option.map_eq_some_iff.1 hinfo
  simp only [Prod.mk.injEq] at hzz
  obtain ⟨hz0, hz1, hz2⟩ := hzz
  have hr := run_make (P := P) W t e i0 (.int .i64 0) ht hi hz0 .i64 .i64 (n : Int) (n : Int) (by omega) (by omega) (by rw [hz2]; omega) (by omega)
  simp only [Int.toNat_natCast] at hr
  have hm : madeCells (Value.int .i64 0).cells (n * i0.size) = (nums .i64 (List.replicate n 0)).toArray := by
    rw [hz1, Nat.mul_one]
    apply Array.ext'
    simp [madeCells, nums, Value.cells]
    apply List.ext_getElem?
    intro j
    by_cases hj : j < n <;> simp [hj, Nat.mod_one]
  rw [hm] at hr
  refine Kd.event_run hgd ?_ (h _ rfl _ (blk_new W _) (below_alloc (Below.refl _ _) _) (by simp))
  simp [execOp, ho, hx, hy, hr]
end
def impl_treeOf.f (k : Nat) (l0 : List (S57)) : Option (List Int × Bool) :=
  (impl_within.f (l0.length : Int) 1 1500).bind fun t => if t = true then (if (rd_T57 l0 0).f0 = 12 then (if (rd_T57 l0 0).f1 = 0 then ((impl_tree_measure.f k l0 (List.replicate l0.length 0) 0 1).bind fun m => if m.1 = (l0.length : Int) then some (m.2, true) else some ([], false)) else some ([], false)) else some ([], false)) else some ([], false)
/-- What treeOf leaves. -/
def TreeP (l0 : List (S57)) (a : List Int) (ok : Bool) (w : World) (p : Value) (w' : World) : Prop :=
  Below w.heap.size w w' ∧ (ok = false → p = .pointer none) ∧ (ok = true → ∃ g wz, p = .pointer (some ⟨g, 0, none⟩) ∧ IsS85 wz w' g l0 a ∧ Below wz.heap.size wz w' ∧ w.heap.size ≤ wz.heap.size)
theorem TsS85.told {w0 W : World} {g : Nat} {f0 : List (S57)} {f1 : List Int} (h : TsS85 w0 W g f0 f1) (hB : Below w0.heap.size w0 W) : ∃ wz, IsS85 wz W g f0 f1 ∧ Below wz.heap.size wz W ∧ w0.heap.size ≤ wz.heap.size := by
  have hlt := h.lt
  obtain ⟨A0, c0, a, ⟨b, c, d, e⟩, f⟩ := h
  have hz : (W.heap.extract 0 g).size = g := by simp; omega
  have hk : ∀ k, k < g → (W.heap.extract 0 g)[k]? = W.heap[k]? := fun k hk => by
    rw [Array.getElem?_extract]; simp; omega
  refine ⟨{ W with heap := W.heap.extract 0 g }, ⟨A0, c0, some ⟨g - 1, 0, none⟩, f1.length, a, Nat.le_of_eq hz, ?_, ?_⟩, ?_, ?_⟩
  · exact Kd.C_below f ⟨hB.os, hB.tape, hB.output, by show _ ≤ (W.heap.extract 0 g).size; omega, fun k hk2 => (hk k (by omega)).trans (hB.block k hk2)⟩
  · refine ⟨rfl, e.2, fun _ => ⟨_, rfl, fun j p hj => ⟨[.int .i64 p], rfl, rfl, fun i u hu => ?_⟩⟩⟩
    have hi : i = 0 := by have := (List.getElem?_eq_some_iff.1 hu).1; simp at this; omega
    subst hi
    have hu2 : u = .int .i64 p := by simpa using hu.symm
    subst hu2
    have h3 : ((⟨g - 1, 0, none⟩ : Addr).add (j * (Kd.int .i64).sz + 0)) = ⟨g - 1, j, none⟩ := by
      show Addr.add _ (j * 1 + 0) = _
      rw [add_plain]; simp
    rw [h3]
    refine (blk_cell (w := { W with heap := W.heap.extract 0 g }) ((hk (g - 1) (by omega)).trans c) j).trans ?_
    simp [nums, hj]
  · exact ⟨rfl, rfl, rfl, by show (W.heap.extract 0 g).size ≤ _; omega, fun k hk2 => (hk k (by rw [← hz]; exact hk2)).symm⟩
  · show _ ≤ (W.heap.extract 0 g).size; omega
theorem TreeOf_told {w w1 w2 w3 : World} {b g c0 : Nat} {ad : Addr} {l0 : List (S57)} {n : Nat} (hn : n ≤ 1048576) (hb : b = w.heap.size) (hs : w1.heap.size = b + 1) (hg : g = w1.heap.size)
    (h2 : w2.heap[g]? = some (.cells #[.slice (some ad) l0.length c0, .slice (some ⟨b, 0, none⟩) n n] 85 (0, 0))) (ha : w2.heap[b]? = some (.cells (nums .i64 (List.replicate n 0)).toArray 3 (0, 0)))
    (hc : Kd.C k57 w (some ad) l0.length l0) (h3 : Below w2.heap.size w2 w3) : TsS85 w w3 g l0 (List.replicate n 0) := by
  have e : g - 1 = b := by omega
  have hlt := blk_lt h2
  refine ⟨some ad, c0, ?_, ⟨by omega, ?_, by omega, by omega, by rw [List.length_replicate]; omega⟩, hc⟩
  · rw [e, List.length_replicate]; exact (h3.block g hlt).trans h2
  · rw [e]; exact (h3.block b (by omega)).trans ha
set_option maxHeartbeats 8000000 in
set_option maxRecDepth 100000 in
theorem impl_treeOf.calls (k : Nat) (A0 : Option Addr) (c0 : Nat) (l0 : List (S57)) (r : List Int) (ok : Bool) (w : World) (hr0 : Kd.C k57 w A0 l0.length l0) (hc0 : l0.length ≤ c0) (h : impl_treeOf.f k l0 = some (r, ok)) :
    Calls Try.prog 27 #[.slice A0 l0.length c0] w fun e w' => ∃ p, e = .returned (.tuple #[p, .bool ok]) ∧ TreeP l0 r ok w p w' := by
  have hu := Try.underlying57
  unfold impl_treeOf.f at h
  obtain ⟨t, ht, h⟩ := Option.bind_eq_some_iff.mp h
  have HT := Aside0.mk ht
  clear ht
  have hlen : 0 ≤ (l0.length : Int) := by omega
  cases t with
  | false =>
    rw [if_neg (by decide)] at h
    obtain ⟨rfl, rfl⟩ : [] = r ∧ false = ok := by simpa using h
    clear h
    have HC := Aside0.mk hr0
    clear hr0
    go_enter Try.func27, Try.ntmps27
    go_wp2_with (go_at_call 48; refine (impl_within.calls _ _ _ _ _ HT.out).mono ?_; rintro e w' ⟨rfl, ⟨nd, rfl⟩⟩)
    go_ret2
    exact ⟨_, rfl, ⟨pw_below_drewN (Below.refl _ _) _, fun _ => rfl, fun h => by cases h⟩⟩
  | true =>
    rw [if_pos rfl] at h
    have hn : 1 ≤ l0.length ∧ l0.length ≤ 1500 := by
      have h1 := HT.out
      unfold impl_within.f at h1
      split at h1
      · have h2 := of_decide_eq_true (Option.some.inj h1); omega
      · cases h1
    have hn0 : (0 : Int) < (l0.length : Int) := by omega
    obtain ⟨ad, e0, x0, x1, x2, x3, x4⟩ := at_T57 hr0 0 (by omega) hn0
    cases e0
    have ea : ad.add ((0 : Int).toNat * 5) = ad := by simp [Addr.add]
    rw [ea] at x0 x1 x2 x3 x4
    clear ea
    have HL1 := Aside0.mk hn.1
    have HL2 := Aside0.mk hn.2
    have q0 : ((0 : Int) < (l0.length : Int)) = True := eq_true hn0
    have q1 : (0 < l0.length) = True := eq_true hn.1
    have HC := Aside0.mk hr0
    have X0 := Aside0.mk x0
    have X1 := Aside0.mk x1
    have X2 := Aside0.mk x2
    have X3 := Aside0.mk x3
    have X4 := Aside0.mk x4
    clear x0 x1 x2 x3 x4 hr0 hn hn0 hlen
    obtain ⟨d0, hd0⟩ : ∃ z, z = (rd_T57 l0 0).f0 := ⟨_, rfl⟩
    obtain ⟨d1, hd1⟩ : ∃ z, z = (rd_T57 l0 0).f1 := ⟨_, rfl⟩
    rw [← hd0, ← hd1] at h
    rw [← hd0] at X0
    rw [← hd1] at X1
    clear hd0 hd1
    by_cases c0' : d0 = 12
    · subst c0'
      rw [if_pos rfl] at h
      by_cases c1' : d1 = 0
      · subst c1'
        rw [if_pos rfl] at h
        obtain ⟨⟨m1, m2⟩, hm, h⟩ := Option.bind_eq_some_iff.mp h
        have HM := Aside0.mk hm
        clear hm
        dsimp only at h
        by_cases c2' : m1 = (l0.length : Int)
        · rw [if_pos c2'] at h
          obtain ⟨rfl, rfl⟩ : m2 = r ∧ true = ok := by simpa using h
          clear h
          subst c2'
          go_enter Try.func27, Try.ntmps27
          go_wp2_with (first | (go_at_call 48; refine (impl_within.calls _ _ _ _ _ HT.out).mono ?_; rintro e w' ⟨rfl, ⟨nd, rfl⟩⟩) | ((with_reducible refine gate_dst (N := 13) rfl ?_); refine make_ints rfl (N := 13) rfl 83 3 _ _ rfl l0.length rfl rfl Try.underlying83 info3 (by have := HL2.out; omega) ?_; intro b hb w1 hg1 hb1 hs1; have HG1 := Aside0.mk hg1; have HB1 := Aside0.mk (show Below w.heap.size w w1 from (pw_below_drewN (Below.refl _ _) nd).trans (hb1.mono (by simp))); have HbE := Aside0.mk (show b = w.heap.size from hb); have HS1 := Aside0.mk hs1; clear hb hg1 hb1 hs1) | ((with_reducible refine gate_dst (N := 15) rfl ?_); refine bx_ 15 #[.slice (some ad) l0.length c0, .slice (some ⟨b, 0, none⟩) l0.length l0.length] 85 ?_; intro g hgE w2 hg2 hb2; have HGE := Aside0.mk hgE; have HG2 := Aside0.mk hg2; have HB2 := Aside0.mk (HB1.out.trans (hb2.mono HB1.out.size)); have HR2 := Aside0.mk (grown_of_below hb2 none); have HA2 := Aside0.mk (show w2.heap[b]? = _ from (hb2.block b (by have := HS1.out; omega)).trans HG1.out); have y0 := pw_cell_below HB2.out X0.out; have y1 := pw_cell_below HB2.out X1.out; have y2 := pw_cell_below HB2.out X2.out; have y3 := pw_cell_below HB2.out X3.out; have y4 := pw_cell_below HB2.out X4.out; clear hgE hg2 hb2) | ((with_reducible refine gate_dst (N := 5) rfl ?_); refine bx_ 5 #[.int .i64 0, .int .i64 0, .int .i64 0, .string (⟨#[]⟩ : ByteArray), .int .i64 0] 57 ?_; intro gb hbE w3 hg3 hb3; have HBE := Aside0.mk hbE; have HG3 := Aside0.mk hg3; have HB3 := Aside0.mk (HB2.out.trans (hb3.mono HB2.out.size)); have HI3 := Aside0.mk (TreeOf_told (w := w) (by have := HL2.out; omega) HbE.out HS1.out HGE.out HG2.out HA2.out HC.out hb3); have HN3 := Aside0.mk (show g ≠ gb from by have := blk_lt HG2.out; have := HBE.out; omega); have HM3 := Aside0.mk (show g - 1 ≠ gb from by have := blk_lt HG2.out; have := HBE.out; omega); have HP3 := Aside0.mk (show w.heap.size ≤ gb from by have := HB2.out.size; have := HBE.out; omega); have z0 : w3.cell? ⟨gb, 0, none⟩ = some (.int .i64 0) := (blk_cell HG3.out 0).trans rfl; have z1 : w3.cell? ⟨gb, 1, none⟩ = some (.int .i64 0) := (blk_cell HG3.out 1).trans rfl; have z2 : w3.cell? ⟨gb, 2, none⟩ = some (.int .i64 0) := (blk_cell HG3.out 2).trans rfl; have z3 : w3.cell? ⟨gb, 3, none⟩ = some (.string (⟨#[]⟩ : ByteArray)) := (blk_cell HG3.out 3).trans rfl; have z4 : w3.cell? ⟨gb, 4, none⟩ = some (.int .i64 0) := (blk_cell HG3.out 4).trans rfl; have f0 := blk_frozen HG3.out 0; have f1 := blk_frozen HG3.out 1; have f2 := blk_frozen HG3.out 2; have f3 := blk_frozen HG3.out 3; have f4 := blk_frozen HG3.out 4; clear hbE hg3 hb3) | (go_at_call 49; (with_reducible refine (impl_tree_measure.calls k g l0 (List.replicate l0.length 0) 0 1 _ m2 w _ ?side1 ?side2 HM.out).mono ?_); (case side1 => repeat (first | (with_reducible first | exact HI3.out | apply TsS85.alloc | apply TsS85.drewN | apply TsS85.drew | refine TsS85.far ?_ HN3.out HM3.out _) | exact HI3.out)); (case side2 => repeat (first | (with_reducible first | exact HB3.out | apply below_alloc | apply pw_below_drewN | apply below_drew1 | refine below_set ?_ HP3.out) | exact HB3.out)); rintro e w4 ⟨rfl, hi, hb, hk⟩; have HT4 := Aside0.mk hi; have HB4 := Aside0.mk hb; clear hi hb hk))
          go_ret2
          obtain ⟨wz, z1, z2, z3⟩ := HT4.out.told HB4.out
          exact ⟨_, rfl, HB4.out, (fun h => by cases h), fun _ => ⟨_, wz, rfl, z1, z2, z3⟩⟩
        · rw [if_neg c2'] at h
          obtain ⟨rfl, rfl⟩ : [] = r ∧ false = ok := by simpa using h
          clear h
          have c2a : (m1 == (l0.length : Int)) = false := beq_eq_false_iff_ne.mpr c2'
          have c2b : (m1 != (l0.length : Int)) = true := bne_iff_ne.mpr c2'
          clear c2'
          go_enter Try.func27, Try.ntmps27
          go_wp2_with (first | (go_at_call 48; refine (impl_within.calls _ _ _ _ _ HT.out).mono ?_; rintro e w' ⟨rfl, ⟨nd, rfl⟩⟩) | ((with_reducible refine gate_dst (N := 13) rfl ?_); refine make_ints rfl (N := 13) rfl 83 3 _ _ rfl l0.length rfl rfl Try.underlying83 info3 (by have := HL2.out; omega) ?_; intro b hb w1 hg1 hb1 hs1; have HG1 := Aside0.mk hg1; have HB1 := Aside0.mk (show Below w.heap.size w w1 from (pw_below_drewN (Below.refl _ _) nd).trans (hb1.mono (by simp))); have HbE := Aside0.mk (show b = w.heap.size from hb); have HS1 := Aside0.mk hs1; clear hb hg1 hb1 hs1) | ((with_reducible refine gate_dst (N := 15) rfl ?_); refine bx_ 15 #[.slice (some ad) l0.length c0, .slice (some ⟨b, 0, none⟩) l0.length l0.length] 85 ?_; intro g hgE w2 hg2 hb2; have HGE := Aside0.mk hgE; have HG2 := Aside0.mk hg2; have HB2 := Aside0.mk (HB1.out.trans (hb2.mono HB1.out.size)); have HR2 := Aside0.mk (grown_of_below hb2 none); have HA2 := Aside0.mk (show w2.heap[b]? = _ from (hb2.block b (by have := HS1.out; omega)).trans HG1.out); have y0 := pw_cell_below HB2.out X0.out; have y1 := pw_cell_below HB2.out X1.out; have y2 := pw_cell_below HB2.out X2.out; have y3 := pw_cell_below HB2.out X3.out; have y4 := pw_cell_below HB2.out X4.out; clear hgE hg2 hb2) | ((with_reducible refine gate_dst (N := 5) rfl ?_); refine bx_ 5 #[.int .i64 0, .int .i64 0, .int .i64 0, .string (⟨#[]⟩ : ByteArray), .int .i64 0] 57 ?_; intro gb hbE w3 hg3 hb3; have HBE := Aside0.mk hbE; have HG3 := Aside0.mk hg3; have HB3 := Aside0.mk (HB2.out.trans (hb3.mono HB2.out.size)); have HI3 := Aside0.mk (TreeOf_told (w := w) (by have := HL2.out; omega) HbE.out HS1.out HGE.out HG2.out HA2.out HC.out hb3); have HN3 := Aside0.mk (show g ≠ gb from by have := blk_lt HG2.out; have := HBE.out; omega); have HM3 := Aside0.mk (show g - 1 ≠ gb from by have := blk_lt HG2.out; have := HBE.out; omega); have HP3 := Aside0.mk (show w.heap.size ≤ gb from by have := HB2.out.size; have := HBE.out; omega); have z0 : w3.cell? ⟨gb, 0, none⟩ = some (.int .i64 0) := (blk_cell HG3.out 0).trans rfl; have z1 : w3.cell? ⟨gb, 1, none⟩ = some (.int .i64 0) := (blk_cell HG3.out 1).trans rfl; have z2 : w3.cell? ⟨gb, 2, none⟩ = some (.int .i64 0) := (blk_cell HG3.out 2).trans rfl; have z3 : w3.cell? ⟨gb, 3, none⟩ = some (.string (⟨#[]⟩ : ByteArray)) := (blk_cell HG3.out 3).trans rfl; have z4 : w3.cell? ⟨gb, 4, none⟩ = some (.int .i64 0) := (blk_cell HG3.out 4).trans rfl; have f0 := blk_frozen HG3.out 0; have f1 := blk_frozen HG3.out 1; have f2 := blk_frozen HG3.out 2; have f3 := blk_frozen HG3.out 3; have f4 := blk_frozen HG3.out 4; clear hbE hg3 hb3) | (go_at_call 49; (with_reducible refine (impl_tree_measure.calls k g l0 (List.replicate l0.length 0) 0 1 _ m2 w _ ?side1 ?side2 HM.out).mono ?_); (case side1 => repeat (first | (with_reducible first | exact HI3.out | apply TsS85.alloc | apply TsS85.drewN | apply TsS85.drew | refine TsS85.far ?_ HN3.out HM3.out _) | exact HI3.out)); (case side2 => repeat (first | (with_reducible first | exact HB3.out | apply below_alloc | apply pw_below_drewN | apply below_drew1 | refine below_set ?_ HP3.out) | exact HB3.out)); rintro e w4 ⟨rfl, hi, hb, hk⟩; have HT4 := Aside0.mk hi; have HB4 := Aside0.mk hb; clear hi hb hk))
          go_ret2
          exact ⟨_, rfl, HB4.out, fun _ => rfl, fun h => by cases h⟩
      · rw [if_neg c1'] at h
        obtain ⟨rfl, rfl⟩ : [] = r ∧ false = ok := by simpa using h
        clear h
        have c1a : (d1 == 0) = false := beq_eq_false_iff_ne.mpr c1'
        have c1b : (d1 != 0) = true := bne_iff_ne.mpr c1'
        clear c1'
        go_enter Try.func27, Try.ntmps27
        go_wp2_with (first | (go_at_call 48; refine (impl_within.calls _ _ _ _ _ HT.out).mono ?_; rintro e w' ⟨rfl, ⟨nd, rfl⟩⟩) | ((with_reducible refine gate_dst (N := 13) rfl ?_); refine make_ints rfl (N := 13) rfl 83 3 _ _ rfl l0.length rfl rfl Try.underlying83 info3 (by have := HL2.out; omega) ?_; intro b hb w1 hg1 hb1 hs1; have HG1 := Aside0.mk hg1; have HB1 := Aside0.mk (show Below w.heap.size w w1 from (pw_below_drewN (Below.refl _ _) nd).trans (hb1.mono (by simp))); have HbE := Aside0.mk (show b = w.heap.size from hb); have HS1 := Aside0.mk hs1; clear hb hg1 hb1 hs1) | ((with_reducible refine gate_dst (N := 15) rfl ?_); refine bx_ 15 #[.slice (some ad) l0.length c0, .slice (some ⟨b, 0, none⟩) l0.length l0.length] 85 ?_; intro g hgE w2 hg2 hb2; have HGE := Aside0.mk hgE; have HG2 := Aside0.mk hg2; have HB2 := Aside0.mk (HB1.out.trans (hb2.mono HB1.out.size)); have HR2 := Aside0.mk (grown_of_below hb2 none); have HA2 := Aside0.mk (show w2.heap[b]? = _ from (hb2.block b (by have := HS1.out; omega)).trans HG1.out); have y0 := pw_cell_below HB2.out X0.out; have y1 := pw_cell_below HB2.out X1.out; have y2 := pw_cell_below HB2.out X2.out; have y3 := pw_cell_below HB2.out X3.out; have y4 := pw_cell_below HB2.out X4.out; clear hgE hg2 hb2) | ((with_reducible refine gate_dst (N := 5) rfl ?_); refine bx_ 5 #[.int .i64 0, .int .i64 0, .int .i64 0, .string (⟨#[]⟩ : ByteArray), .int .i64 0] 57 ?_; intro gb hbE w3 hg3 hb3; have HBE := Aside0.mk hbE; have HG3 := Aside0.mk hg3; have HB3 := Aside0.mk (HB2.out.trans (hb3.mono HB2.out.size)); have HI3 := Aside0.mk (TreeOf_told (w := w) (by have := HL2.out; omega) HbE.out HS1.out HGE.out HG2.out HA2.out HC.out hb3); have HN3 := Aside0.mk (show g ≠ gb from by have := blk_lt HG2.out; have := HBE.out; omega); have HM3 := Aside0.mk (show g - 1 ≠ gb from by have := blk_lt HG2.out; have := HBE.out; omega); have HP3 := Aside0.mk (show w.heap.size ≤ gb from by have := HB2.out.size; have := HBE.out; omega); have z0 : w3.cell? ⟨gb, 0, none⟩ = some (.int .i64 0) := (blk_cell HG3.out 0).trans rfl; have z1 : w3.cell? ⟨gb, 1, none⟩ = some (.int .i64 0) := (blk_cell HG3.out 1).trans rfl; have z2 : w3.cell? ⟨gb, 2, none⟩ = some (.int .i64 0) := (blk_cell HG3.out 2).trans rfl; have z3 : w3.cell? ⟨gb, 3, none⟩ = some (.string (⟨#[]⟩ : ByteArray)) := (blk_cell HG3.out 3).trans rfl; have z4 : w3.cell? ⟨gb, 4, none⟩ = some (.int .i64 0) := (blk_cell HG3.out 4).trans rfl; have f0 := blk_frozen HG3.out 0; have f1 := blk_frozen HG3.out 1; have f2 := blk_frozen HG3.out 2; have f3 := blk_frozen HG3.out 3; have f4 := blk_frozen HG3.out 4; clear hbE hg3 hb3) | (go_at_call 49; (with_reducible refine (impl_tree_measure.calls k g l0 (List.replicate l0.length 0) 0 1 _ m2 w _ ?side1 ?side2 HM.out).mono ?_); (case side1 => repeat (first | (with_reducible first | exact HI3.out | apply TsS85.alloc | apply TsS85.drewN | apply TsS85.drew | refine TsS85.far ?_ HN3.out HM3.out _) | exact HI3.out)); (case side2 => repeat (first | (with_reducible first | exact HB3.out | apply below_alloc | apply pw_below_drewN | apply below_drew1 | refine below_set ?_ HP3.out) | exact HB3.out)); rintro e w4 ⟨rfl, hi, hb, hk⟩; have HT4 := Aside0.mk hi; have HB4 := Aside0.mk hb; clear hi hb hk))
        go_ret2
        exact ⟨_, rfl, by repeat (first | (with_reducible first | exact HB3.out | apply below_alloc | apply pw_below_drewN | apply below_drew1 | refine below_set ?_ HP3.out) | exact HB3.out), fun _ => rfl, fun h => by cases h⟩
    · rw [if_neg c0'] at h
      obtain ⟨rfl, rfl⟩ : [] = r ∧ false = ok := by simpa using h
      clear h
      have c0a : (d0 == 12) = false := beq_eq_false_iff_ne.mpr c0'
      have c0b : (d0 != 12) = true := bne_iff_ne.mpr c0'
      clear c0'
      go_enter Try.func27, Try.ntmps27
      go_wp2_with (first | (go_at_call 48; refine (impl_within.calls _ _ _ _ _ HT.out).mono ?_; rintro e w' ⟨rfl, ⟨nd, rfl⟩⟩) | ((with_reducible refine gate_dst (N := 13) rfl ?_); refine make_ints rfl (N := 13) rfl 83 3 _ _ rfl l0.length rfl rfl Try.underlying83 info3 (by have := HL2.out; omega) ?_; intro b hb w1 hg1 hb1 hs1; have HG1 := Aside0.mk hg1; have HB1 := Aside0.mk (show Below w.heap.size w w1 from (pw_below_drewN (Below.refl _ _) nd).trans (hb1.mono (by simp))); have HbE := Aside0.mk (show b = w.heap.size from hb); have HS1 := Aside0.mk hs1; clear hb hg1 hb1 hs1) | ((with_reducible refine gate_dst (N := 15) rfl ?_); refine bx_ 15 #[.slice (some ad) l0.length c0, .slice (some ⟨b, 0, none⟩) l0.length l0.length] 85 ?_; intro g hgE w2 hg2 hb2; have HGE := Aside0.mk hgE; have HG2 := Aside0.mk hg2; have HB2 := Aside0.mk (HB1.out.trans (hb2.mono HB1.out.size)); have HR2 := Aside0.mk (grown_of_below hb2 none); have HA2 := Aside0.mk (show w2.heap[b]? = _ from (hb2.block b (by have := HS1.out; omega)).trans HG1.out); have y0 := pw_cell_below HB2.out X0.out; have y1 := pw_cell_below HB2.out X1.out; have y2 := pw_cell_below HB2.out X2.out; have y3 := pw_cell_below HB2.out X3.out; have y4 := pw_cell_below HB2.out X4.out; clear hgE hg2 hb2) | ((with_reducible refine gate_dst (N := 5) rfl ?_); refine bx_ 5 #[.int .i64 0, .int .i64 0, .int .i64 0, .string (⟨#[]⟩ : ByteArray), .int .i64 0] 57 ?_; intro gb hbE w3 hg3 hb3; have HBE := Aside0.mk hbE; have HG3 := Aside0.mk hg3; have HB3 := Aside0.mk (HB2.out.trans (hb3.mono HB2.out.size)); have HI3 := Aside0.mk (TreeOf_told (w := w) (by have := HL2.out; omega) HbE.out HS1.out HGE.out HG2.out HA2.out HC.out hb3); have HN3 := Aside0.mk (show g ≠ gb from by have := blk_lt HG2.out; have := HBE.out; omega); have HM3 := Aside0.mk (show g - 1 ≠ gb from by have := blk_lt HG2.out; have := HBE.out; omega); have HP3 := Aside0.mk (show w.heap.size ≤ gb from by have := HB2.out.size; have := HBE.out; omega); have z0 : w3.cell? ⟨gb, 0, none⟩ = some (.int .i64 0) := (blk_cell HG3.out 0).trans rfl; have z1 : w3.cell? ⟨gb, 1, none⟩ = some (.int .i64 0) := (blk_cell HG3.out 1).trans rfl; have z2 : w3.cell? ⟨gb, 2, none⟩ = some (.int .i64 0) := (blk_cell HG3.out 2).trans rfl; have z3 : w3.cell? ⟨gb, 3, none⟩ = some (.string (⟨#[]⟩ : ByteArray)) := (blk_cell HG3.out 3).trans rfl; have z4 : w3.cell? ⟨gb, 4, none⟩ = some (.int .i64 0) := (blk_cell HG3.out 4).trans rfl; have f0 := blk_frozen HG3.out 0; have f1 := blk_frozen HG3.out 1; have f2 := blk_frozen HG3.out 2; have f3 := blk_frozen HG3.out 3; have f4 := blk_frozen HG3.out 4; clear hbE hg3 hb3) | (go_at_call 49; (with_reducible refine (impl_tree_measure.calls k g l0 (List.replicate l0.length 0) 0 1 _ m2 w _ ?side1 ?side2 HM.out).mono ?_); (case side1 => repeat (first | (with_reducible first | exact HI3.out | apply TsS85.alloc | apply TsS85.drewN | apply TsS85.drew | refine TsS85.far ?_ HN3.out HM3.out _) | exact HI3.out)); (case side2 => repeat (first | (with_reducible first | exact HB3.out | apply below_alloc | apply pw_below_drewN | apply below_drew1 | refine below_set ?_ HP3.out) | exact HB3.out)); rintro e w4 ⟨rfl, hi, hb, hk⟩; have HT4 := Aside0.mk hi; have HB4 := Aside0.mk hb; clear hi hb hk))
      go_ret2
      exact ⟨_, rfl, by repeat (first | (with_reducible first | exact HB3.out | apply below_alloc | apply pw_below_drewN | apply below_drew1 | refine below_set ?_ HP3.out) | exact HB3.out), fun _ => rfl, fun h => by cases h⟩
theorem below_via {B : Nat} {w w1 w2 wz : World} (h : Below B w w1) (h1 : Below wz.heap.size wz w1) (h2 : Below wz.heap.size wz w2) (hz : B ≤ wz.heap.size) (hw : w.heap.size ≤ wz.heap.size) : Below B w w2 :=
  ⟨h2.os.trans (h1.os.symm.trans h.os), h2.tape.trans (h1.tape.symm.trans h.tape), h2.output.trans (h1.output.symm.trans h.output), Nat.le_trans hw h2.size, fun k hk => (h2.block k (by omega)).trans ((h1.block k (by omega)).symm.trans (h.block k hk))⟩

/-! ### impl_UvarPut: function 101 -/
def impl_UvarPut.l0 : Nat → Int → List Int → Option (List Int)
  | 0, _, _ => none
  | k + 1, x3, x4 => if x3 > 127 then (if x4.length < 140737488355328 then (impl_UvarPut.l0 k (x3 / 128) (x4 ++ [(Go.bits .or .u64 (Go.bits .and .u64 x3 127) 128) % 256])) else (none)) else (if x4.length < 140737488355328 then (some (x4 ++ [(x3) % 256])) else (none))
def impl_UvarPut.f (k : Nat) (a0 : Int) : Option (List Int) := impl_UvarPut.l0 k (IntKind.u64.wrap (a0)) (([] : List Int))
set_option maxHeartbeats 8000000 in
set_option maxRecDepth 100000 in
theorem impl_UvarPut.calls (k : Nat) (a0 : Int) (r : List Int) (w : World) (h : impl_UvarPut.f k a0 = some r) :
    Calls Try.prog 101 #[.int .i64 a0] w fun e w' => ∃ v0_ : Value, e = .returned (v0_) ∧ Kd.R (Kd.int .u8) 5 w' w.heap.size (fun _ => True) v0_ r ∧ Below w.heap.size w w' := by
  have HB := Aside0.mk (Below.refl w.heap.size w)
  have H : (impl_UvarPut.l0 k (IntKind.u64.wrap (a0)) (([] : List Int))) = some r := h
  clear h
  obtain ⟨y457, hy457⟩ : ∃ y_ : List Int, y_ = (([] : List Int)) := ⟨_, rfl⟩
  replace H : (impl_UvarPut.l0 k (IntKind.u64.wrap (a0)) y457) = some r := by first | (rw [hy457]; with_reducible exact H) | (rw [hy457]; exact H) | exact H
  have Ny457 := Aside0.mk hy457
  clear hy457
  have H' := Aside0.mk H
  clear H
  go_enter Try.func101, Try.ntmps101
  go_wp2_with (first | ((with_reducible refine gate_dst (N := 7) rfl ?_); refine Kd.R_lit (Kd.int .u8) _ 5 ?hg (N := 7) ?hd (xs := ([] : List Int)) (inner := []) (ok := fun _ => True) (okp := fun _ => True) ?hr ?hp (fun _ hk => hk) trivial (Below.refl _ _) (Nat.le_refl _) (by simp) ?_; (case hd => rfl); (case hg => rfl); (case hr => first | (go_simp; done) | (go_simp; rfl)); (case hp => exact (Reps.none _ _)); intro v458 w2 ho3 hb hg_ hnew_; clear hg_ hnew_; (first | rw [← Ny457.out] at ho3 | (simp only [Int.reduceToNat] at ho3; rw [← Ny457.out] at ho3)); have HO459 := Aside0.mk (Kd.R_lower ho3 (below_size (below_later HB.out))); replace HB := bst HB hb; clear hb ho3))
  go_loopg [3, 4] k (fun kq v3 v4 w' => ∃ (x3_1 : Int) (x4_1 : List Int), v3 = .int .u64 x3_1 ∧ Aside0 (impl_UvarPut.l0 kq x3_1 x4_1 = some r) ∧ Aside0 (kq ≤ k) ∧ Aside0 (Kd.R (Kd.int .u8) 5 w' w.heap.size (fun _ => True) v4 x4_1) ∧ Aside0 (Below w.heap.size w w'))
  case atStart => exact ⟨(IntKind.u64.wrap (a0)), (y457), sr, H', ⟨Nat.le_refl _⟩, ⟨R_later HO459.out⟩, ⟨below_later HB.out⟩⟩
  case round =>
    clear H'
    obtain ⟨x3_1, x4_1, rfl, HA, HK1, HO_4, HB⟩ := hrel
    cases gk with
    | zero => exact absurd HA.out (by simp [impl_UvarPut.l0])
    | succ k1 =>
      have H := HA.out
      clear HA
      simp only [impl_UvarPut.l0] at H
      by_cases c4 : x3_1 > 127
      · rw [if_pos c4] at H
        have c4b0 : decide (127 < x3_1) = true := decide_eq_true c4
        clear c4
        replace H := ifs H
        obtain ⟨c5, H⟩ := H
        have LMc5 := Aside0.mk c5
        clear c5
        obtain ⟨y460, hy460⟩ : ∃ y_ : List Int, y_ = (x4_1 ++ [(Go.bits .or .u64 (Go.bits .and .u64 x3_1 127) 128) % 256]) := ⟨_, rfl⟩
        replace H : (impl_UvarPut.l0 k1 (x3_1 / 128) y460) = some r := by first | (rw [hy460]; with_reducible exact H) | (rw [hy460]; exact H) | exact H
        have Ny460 := Aside0.mk hy460
        clear hy460
        have H' := Aside0.mk H
        clear H
        go_wp2_with (first | ((with_reducible refine gate_builtin (b := .append) (xs := #[.tmp 10, .tmp 15]) rfl ?_); at_builtin; refine Kd.R_append (Kd.int .u8) (w0 := w) w.heap.size rfl (.tmp 10) (.tmp 15) 41 5 (.int .u8 0) 1 rfl Try.underlying41 info5 rfl (by decide) (by omega) u4 x4_1 ((Go.bits .or .u64 (Go.bits .and .u64 x3_1 127) 128) % 256) [.int .u8 ((Go.bits .or .u64 (Go.bits .and .u64 x3_1 127) 128) % 256)] (fun _ => True) (fun _ => False) rfl rfl ?aP (fun _ hk => hk.elim) ?aF ?aO ?aB ?aS ?aL ?_; (case aP => exact rfl); (case aB => exact (below_later HB.out)); (case aF => exact (fun _ _ => trivial)); (case aO => exact (R_later HO_4.out)); (case aS => exact (below_size (below_later HB.out))); (case aL => have := LMc5.out; omega); intro v461 w6 ho hb hg hat; rw [← Ny460.out] at ho; have n0_ := Aside0.mk (hb); have n1_ := Aside0.mk (ho); clear HB; clear HO_4; have HB := n0_; have HO462 := n1_; clear n0_ n1_; clear ho hb hg hat))
        go_roundg k1
        case measure => have := HK1.out; omega
        case rel => exact ⟨(x3_1 / 128), (y460), sr, H', ⟨by have := HK1.out; omega⟩, ⟨R_later HO462.out⟩, ⟨below_later HB.out⟩⟩
      · rw [if_neg c4] at H
        have c4b0 : decide (127 < x3_1) = false := decide_eq_false c4
        clear c4
        replace H := ifs H
        obtain ⟨c7, H⟩ := H
        have LMc7 := Aside0.mk c7
        clear c7
        obtain ⟨y463, hy463⟩ : ∃ y_ : List Int, y_ = (x4_1 ++ [(x3_1) % 256]) := ⟨_, rfl⟩
        replace H : (some y463) = some r := by first | (rw [hy463]; with_reducible exact H) | (rw [hy463]; exact H) | exact H
        have Ny463 := Aside0.mk hy463
        clear hy463
        obtain rfl := Option.some.inj H
        go_wp2_with (first | ((with_reducible refine gate_builtin (b := .append) (xs := #[.tmp 19, .tmp 22]) rfl ?_); at_builtin; refine Kd.R_append (Kd.int .u8) (w0 := w) w.heap.size rfl (.tmp 19) (.tmp 22) 41 5 (.int .u8 0) 1 rfl Try.underlying41 info5 rfl (by decide) (by omega) u4 x4_1 ((x3_1) % 256) [.int .u8 ((x3_1) % 256)] (fun _ => True) (fun _ => False) rfl rfl ?aP (fun _ hk => hk.elim) ?aF ?aO ?aB ?aS ?aL ?_; (case aP => exact rfl); (case aB => exact (below_later HB.out)); (case aF => exact (fun _ _ => trivial)); (case aO => exact (R_later HO_4.out)); (case aS => exact (below_size (below_later HB.out))); (case aL => have := LMc7.out; omega); intro v464 w8 ho hb hg hat; rw [← Ny463.out] at ho; have n0_ := Aside0.mk (hb); have n1_ := Aside0.mk (ho); clear HB; clear HO_4; have HB := n0_; have HO465 := n1_; clear n0_ n1_; clear ho hb hg hat))
        go_ret
        exact ⟨_, by first | rfl | (simp [errW_none, errW_some] <;> rfl) | (simp [*, errW_none, errW_some] <;> rfl), by (with_reducible repeat (first | apply Kd.R_alloc | apply Kd.R_drewN | apply Kd.R_drew)); exact HO465.out, below_later HB.out⟩
/-! ### impl_Zig: function 113 -/
def impl_Zig.f (a0 : Int) : Option (Int) := some (Go.bits .xor .i64 (wrap64 (a0 * 2)) (a0 / 9223372036854775808))
set_option maxHeartbeats 8000000 in
set_option maxRecDepth 100000 in
theorem impl_Zig.calls (a0 : Int) (r : Int) (w : World) (h : impl_Zig.f a0 = some r) :
    Calls Try.prog 113 #[.int .i64 a0] w fun e w' => e = .returned (.int .i64 r) ∧ Drawn0 w w' := by
  have H : (some (Go.bits .xor .i64 (wrap64 (a0 * 2)) (a0 / 9223372036854775808))) = some r := h
  clear h
  obtain rfl := Option.some.inj H
  go_enter Try.func113, Try.ntmps113
  go_wp2
  go_ret
  exact ⟨by first | rfl | (simp; done) | (simp [*]; done), by repeat (first | exact Drawn0.refl _ | apply Drawn0.step)⟩

/-! ### impl_ZigPut: function 100 -/
def impl_ZigPut.f (k : Nat) (a0 : Int) : Option (List Int) := (impl_Zig.f a0).bind fun t466 => ((impl_UvarPut.f k t466).bind fun t467 => (some t467))
set_option maxHeartbeats 8000000 in
set_option maxRecDepth 100000 in
theorem impl_ZigPut.calls (k : Nat) (a0 : Int) (r : List Int) (w : World) (h : impl_ZigPut.f k a0 = some r) :
    Calls Try.prog 100 #[.int .i64 a0] w fun e w' => ∃ v0_ : Value, e = .returned (v0_) ∧ Kd.R (Kd.int .u8) 5 w' w.heap.size (fun _ => True) v0_ r ∧ Below w.heap.size w w' := by
  have HB := Aside0.mk (Below.refl w.heap.size w)
  have H : ((impl_Zig.f a0).bind fun t466 => ((impl_UvarPut.f k t466).bind fun t467 => (some t467))) = some r := h
  clear h
  replace H := bnd H
  obtain ⟨t466, A2, H⟩ := H
  replace H := bnd H
  obtain ⟨t467, A3, H⟩ := H
  obtain rfl := Option.some.inj H
  go_enter Try.func100, Try.ntmps100
  go_wp2_with (first | ((with_reducible refine gate_callee (f := 113) rfl ?_); refine gl_ (some 4) Try.func113 #[.int .i64 a0] rfl ?_; (with_reducible refine (impl_Zig.calls a0 t466 _ A2.out).mono ?_); rintro e w' ⟨rfl, ⟨nd, rfl⟩⟩; refine ⟨_, rfl, ?_⟩) | ((with_reducible refine gate_callee (f := 101) rfl ?_); refine gl_ (some 5) Try.func101 #[.int .i64 t466] rfl ?_; (with_reducible refine (impl_UvarPut.calls k t466 t467 _ A3.out).mono ?_); rintro e w4 ⟨v468, rfl, ho0, hb⟩; refine ⟨_, rfl, ?_⟩; have HO469 := Aside0.mk (Kd.R_lower ho0 (below_size (below_later HB.out))); replace HB := bst HB hb; (try clear hb); (try clear ho0)))
  go_ret
  exact ⟨_, by first | rfl | (simp [errW_none, errW_some] <;> rfl) | (simp [*, errW_none, errW_some] <;> rfl), by (with_reducible repeat (first | apply Kd.R_alloc | apply Kd.R_drewN | apply Kd.R_drew)); exact HO469.out, below_later HB.out⟩

end Go.Proofs.Ytgiljoeekpfpmaa.PFnExactDictPack
