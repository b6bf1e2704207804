/- The machine's side of FnTreeParts, written by wip/tools/hyb.py of this repo: each Go function as a plain Lean function, and the proof that the call comes to just its answer. No condition. -/
import Derived.Test.YtnfamhegbfjggaaPFnTreePartsx0
import Derived.Test.YtnfamhegbfjggaaPFnTreePartsx4
namespace Go.Proofs.Ytnfamhegbfjggaa.PFnTreeParts
open Go.RowKit Go.Proofs.YtnfamhegbfjggaaW.PrintWords Go.Proofs.YtnfamhegbfjggaaW.PrintLast Go.Proofs.YtnfamhegbfjggaaW.PrintMore Go.Proofs.YtnfamhegbfjggaaW.PrintMore2
attribute [local go_sem] max2_int min2_int max_two min_two max_three min_three max_four min_four   -- for this text's walks alone
set_option linter.unusedVariables false
set_option linter.unusedSimpArgs false

/-- A state of type 134 at block g of W; what its slices lead to came in by w0. -/
def IsS134 (w0 W : World) (g : Nat) (f0 : List (S53)) (f1 : List Int) : Prop := ∃ A0 c0, ∃ A1 c1, W.heap[g]? = some (.cells #[.slice A0 f0.length c0, .slice A1 f1.length c1] 134 (0, 0)) ∧ w0.heap.size ≤ g ∧ Kd.C k53 w0 A0 f0.length f0 ∧ Kd.C (Kd.int .i64) w0 A1 f1.length f1
theorem IsS134.grown {w0 W : World} {g : Nat} {f0 : List (S53)} {f1 : List Int} {W1 : World} {row : Option Nat} (h : IsS134 w0 W g f0 f1) (hw : W.grownBy W1 row) (hne : some g ≠ row) : IsS134 w0 W1 g f0 f1 := by
  obtain ⟨A0, c0, A1, c1, hb, hg, hr0, hr1⟩ := h
  exact ⟨A0, c0, A1, c1, blk_grown hb hw hne, hg, hr0, hr1⟩
theorem IsS134.own_neN {w0 W : World} {g : Nat} {f0 : List (S53)} {f1 : List Int} {α : Type} {d : Kd α} {e : Nat} {base : Nat} {ok : Nat → Prop} {v : Value} {xs : List α} (h : IsS134 w0 W g f0 f1) (ho : Kd.N d e W base ok v xs) (ht : e ≠ 134) : some g ≠ v.ownBlock := by
  obtain ⟨A0, c0, A1, c1, hb, hg, hr0, hr1⟩ := h
  exact Kd.N_ne ho hb ht
theorem IsS134.fresh {w0 W : World} {g : Nat} {f0 : List (S53)} {f1 : List Int} (h : IsS134 w0 W g f0 f1) : ∀ k, W.heap.size ≤ k → k ≠ g := by
  obtain ⟨A0, c0, A1, c1, hb, hg, hr0, hr1⟩ := h
  exact Kd.freshB hb
theorem IsS134.kept {w0 W : World} {g : Nat} {f0 : List (S53)} {f1 : List Int} {W1 : World} {S : Nat → Prop} (h : IsS134 w0 W g f0 f1) (hk : Kept W W1 S) (hne : ¬ S g) : IsS134 w0 W1 g f0 f1 := by
  obtain ⟨A0, c0, A1, c1, hb, hg, hr0, hr1⟩ := h
  exact ⟨A0, c0, A1, c1, blk_kept hb hk hne, hg, hr0, hr1⟩
theorem IsS134.below {w0 W : World} {g : Nat} {f0 : List (S53)} {f1 : List Int} {W1 : World} (h : IsS134 w0 W g f0 f1) (hw : Below W.heap.size W W1) : IsS134 w0 W1 g f0 f1 := h.grown (grown_of_below hw none) (by simp)
theorem IsS134.alloc {w0 W : World} {g : Nat} {f0 : List (S53)} {f1 : List Int} (h : IsS134 w0 W g f0 f1) (o : Obj) : IsS134 w0 (W.alloc o) g f0 f1 := h.below (below_alloc (Below.refl _ _) o)
theorem IsS134.drewN {w0 W : World} {g : Nat} {f0 : List (S53)} {f1 : List Int} (h : IsS134 w0 W g f0 f1) (m : Nat) : IsS134 w0 (W.drewN m) g f0 f1 := h
theorem IsS134.drew {w0 W : World} {g : Nat} {f0 : List (S53)} {f1 : List Int} (h : IsS134 w0 W g f0 f1) : IsS134 w0 W.drew g f0 f1 := h
theorem IsS134.at_ {w0 W : World} {g : Nat} {f0 : List (S53)} {f1 : List Int} {w' : World} {m : Nat} (hq : W.drewN m = w') (h : IsS134 w0 W g f0 f1) : IsS134 w0 w' g f0 f1 := by subst hq; exact IsS134.drewN h m
theorem IsS134.apart {w0 W : World} {g : Nat} {f0 : List (S53)} {f1 : List Int} {α : Type} {d : Kd α} {e : Nat} {base : Nat} {ok : Nat → Prop} {v : Value} {xs : List α} (h : IsS134 w0 W g f0 f1) (ho : d.R e W base ok v xs) (ht : ∀ q, q ∈ e :: d.E → q ≠ 134) : d.R e W base (fun k => ok k ∧ k ≠ g) v xs := by
  obtain ⟨A0, c0, A1, c1, hb, hg, hr0, hr1⟩ := h
  exact Kd.R_types ho hb ht
theorem IsS134.own_ne {w0 W : World} {g : Nat} {f0 : List (S53)} {f1 : List Int} {α : Type} {d : Kd α} {e : Nat} {base : Nat} {ok : Nat → Prop} {v : Value} {xs : List α} (h : IsS134 w0 W g f0 f1) (ho : d.R e W base ok v xs) (ht : e ≠ 134) : some g ≠ v.ownBlock := by
  obtain ⟨A0, c0, A1, c1, hb, hg, hr0, hr1⟩ := h
  exact Kd.R_ne ho hb ht
theorem IsS134.apartQ {w0 W : World} {g : Nat} {f0 : List (S53)} {f1 : List Int} {α : Type} {d : Kd α} {e : Nat} {base : Nat} {ok : Nat → Prop} {v : Value} {xs : List α} (h : IsS134 w0 W g f0 f1) (ho : d.Q e W base ok v xs) (ht : ∀ q, q ∈ e :: d.E → q ≠ 134) : d.Q e W base (fun k => ok k ∧ k ≠ g) v xs := by
  obtain ⟨A0, c0, A1, c1, hb, hg, hr0, hr1⟩ := h
  exact Kd.Q_types ho hb ht
theorem IsS134.own_neQ {w0 W : World} {g : Nat} {f0 : List (S53)} {f1 : List Int} {α : Type} {d : Kd α} {e : Nat} {base : Nat} {ok : Nat → Prop} {v : Value} {xs : List α} (h : IsS134 w0 W g f0 f1) (ho : d.Q e W base ok v xs) (ht : e ≠ 134) : some g ≠ v.ownBlock := by
  obtain ⟨A0, c0, A1, c1, hb, hg, hr0, hr1⟩ := h
  exact Kd.Q_ne ho hb ht
theorem IsS134.apartS {w0 W : World} {g : Nat} {f0 : List (S53)} {f1 : List Int} {α : Type} {d : Kd α} {e : Nat} {base : Nat} {ok : Nat → Prop} {v : Value} {xs : List α} (h : IsS134 w0 W g f0 f1) (ho : d.S e W base ok v xs) (ht : ∀ q, q ∈ e :: d.E → q ≠ 134) : d.S e W base (fun k => ok k ∧ k ≠ g) v xs := by
  obtain ⟨A0, c0, A1, c1, hb, hg, hr0, hr1⟩ := h
  exact Kd.S_types ho hb ht
theorem IsS134.own_neS {w0 W : World} {g : Nat} {f0 : List (S53)} {f1 : List Int} {α : Type} {d : Kd α} {e : Nat} {base : Nat} {ok : Nat → Prop} {v : Value} {xs : List α} (h : IsS134 w0 W g f0 f1) (ho : d.S e W base ok v xs) (ht : e ≠ 134) : some g ≠ v.ownBlock := by
  obtain ⟨A0, c0, A1, c1, hb, hg, hr0, hr1⟩ := h
  exact Kd.S_ne ho hb ht
theorem IsS134.lt {w0 W : World} {g : Nat} {f0 : List (S53)} {f1 : List Int} (h : IsS134 w0 W g f0 f1) : g < W.heap.size := by
  obtain ⟨A0, c0, A1, c1, hb, hg, hr0, hr1⟩ := h
  exact blk_lt hb
theorem IsS134.ge {w0 W : World} {g : Nat} {f0 : List (S53)} {f1 : List Int} (h : IsS134 w0 W g f0 f1) : w0.heap.size ≤ g := by
  obtain ⟨A0, c0, A1, c1, hb, hg, hr0, hr1⟩ := h
  exact hg
theorem IsS134.ne_blk {w0 W : World} {g : Nat} {f0 : List (S53)} {f1 : List Int} {a : Nat} {cs : Array Value} {t : TypeId} {fr : Nat × Nat} (h : IsS134 w0 W g f0 f1) (hb2 : W.heap[a]? = some (.cells cs t fr)) (ht : t ≠ 134) : g ≠ a := by
  obtain ⟨A0, c0, A1, c1, hb, hg, hr0, hr1⟩ := h
  rintro rfl
  rw [hb] at hb2
  injection hb2 with hb2
  injection hb2 with _ ht2
  exact ht ht2.symm
theorem IsS134.far {w0 W : World} {g : Nat} {f0 : List (S53)} {f1 : List Int} {p : Addr} (h : IsS134 w0 W g f0 f1) (hne : g ≠ p.block) (u : Value) : IsS134 w0 (W.setCell p u) g f0 f1 := by
  obtain ⟨A0, c0, A1, c1, hb, hg, hr0, hr1⟩ := h
  exact ⟨A0, c0, A1, c1, blk_far hb hne u, hg, hr0, hr1⟩
theorem cellS134_0 {W : World} {g : Nat} {A0 : Option Addr} {c0 : Nat} {A1 : Option Addr} {c1 : Nat} {f0 : List (S53)} {f1 : List Int} (h : W.heap[g]? = some (.cells #[.slice A0 f0.length c0, .slice A1 f1.length c1] 134 (0, 0))) : W.cell? ⟨g, 0, none⟩ = some (.slice A0 f0.length c0) := (blk_cell h 0).trans rfl
theorem cellS134_1 {W : World} {g : Nat} {A0 : Option Addr} {c0 : Nat} {A1 : Option Addr} {c1 : Nat} {f0 : List (S53)} {f1 : List Int} (h : W.heap[g]? = some (.cells #[.slice A0 f0.length c0, .slice A1 f1.length c1] 134 (0, 0))) : W.cell? ⟨g, 1, none⟩ = some (.slice A1 f1.length c1) := (blk_cell h 1).trans rfl
theorem IsS134.new (w0 W : World) (A0 : Option Addr) (c0 : Nat) (A1 : Option Addr) (c1 : Nat) (f0 : List (S53)) (f1 : List Int) (hB : Below w0.heap.size w0 W) (hr0 : Kd.C k53 w0 A0 f0.length f0) (hr1 : Kd.C (Kd.int .i64) w0 A1 f1.length f1) : IsS134 w0 (W.alloc (.cells #[.slice A0 f0.length c0, .slice A1 f1.length c1] 134)) W.heap.size f0 f1 := ⟨A0, c0, A1, c1, by simpa using heap_alloc_new W _, hB.size, hr0, hr1⟩

/-! ### impl_treeOf: function 92 -/
/-- A state whose second field's row lies in the block ahead of its own. -/
def TsS134 (w0 W : World) (g : Nat) (f0 : List (S53)) (f1 : List Int) : Prop := ∃ A0 c0, W.heap[g]? = some (.cells #[.slice A0 f0.length c0, .slice (some ⟨g - 1, 0, none⟩) f1.length f1.length] 134 (0, 0)) ∧ (w0.heap.size ≤ g ∧ W.heap[g - 1]? = some (.cells (nums .i64 f1).toArray 3 (0, 0)) ∧ w0.heap.size ≤ g - 1 ∧ 1 ≤ g ∧ f1.length ≤ 9223372036854775807) ∧ Kd.C k53 w0 A0 f0.length f0
section
variable {w0 W : World} {g : Nat} {f0 : List (S53)} {f1 : List Int}
theorem TsS134.step {W1 : World} (h : TsS134 w0 W g f0 f1) (h1 : W1.heap[g]? = W.heap[g]?) (h2 : W1.heap[g - 1]? = W.heap[g - 1]?) : TsS134 w0 W1 g f0 f1 := by
  obtain ⟨A0, c0, a, ⟨b, c, d, e⟩, f⟩ := h
  exact ⟨A0, c0, h1.trans a, ⟨b, h2.trans c, d, e⟩, f⟩
theorem TsS134.lt (h : TsS134 w0 W g f0 f1) : g < W.heap.size := by
  obtain ⟨A0, c0, a, _⟩ := h
  exact blk_lt a
theorem TsS134.ge (h : TsS134 w0 W g f0 f1) : w0.heap.size ≤ g := by
  obtain ⟨_, _, _, ⟨b, _⟩, _⟩ := h
  exact b
theorem TsS134.ge1 (h : TsS134 w0 W g f0 f1) : w0.heap.size ≤ g - 1 := by
  obtain ⟨_, _, _, ⟨_, _, d, _⟩, _⟩ := h
  exact d
theorem TsS134.below {W1 : World} (h : TsS134 w0 W g f0 f1) (hw : Below W.heap.size W W1) : TsS134 w0 W1 g f0 f1 :=
  h.step (hw.block g h.lt) (hw.block (g - 1) (by have := h.lt; omega))
theorem TsS134.alloc (h : TsS134 w0 W g f0 f1) (o : Obj) : TsS134 w0 (W.alloc o) g f0 f1 := h.below (below_alloc (Below.refl _ _) o)
theorem TsS134.drewN (h : TsS134 w0 W g f0 f1) (m : Nat) : TsS134 w0 (W.drewN m) g f0 f1 := h
theorem TsS134.drew (h : TsS134 w0 W g f0 f1) : TsS134 w0 W.drew g f0 f1 := h
theorem TsS134.at_ {w' : World} {m : Nat} (hq : W.drewN m = w') (h : TsS134 w0 W g f0 f1) : TsS134 w0 w' g f0 f1 := by subst hq; exact TsS134.drewN h m
theorem TsS134.far {p : Addr} (h : TsS134 w0 W g f0 f1) (hne : g ≠ p.block) (hne1 : g - 1 ≠ p.block) (u : Value) : TsS134 w0 (W.setCell p u) g f0 f1 :=
  h.step (Below.heap_setCell W p u g hne) (Below.heap_setCell W p u (g - 1) hne1)
theorem TsS134.acell (h : TsS134 w0 W g f0 f1) {i : Int} (h0 : 0 ≤ i) (h1 : i < (f1.length : Int)) : W.cell? ⟨g - 1, i.toNat, none⟩ = some (.int .i64 (rd f1 i)) := by
  obtain ⟨_, _, _, ⟨_, c, _, _⟩, _⟩ := h
  refine (blk_cell c i.toNat).trans ?_
  have e : i.toNat < f1.length := by omega
  simp [nums, rd, e]
theorem TsS134.afree (h : TsS134 w0 W g f0 f1) (j : Nat) : W.frozen? ⟨g - 1, j, none⟩ = false := by
  obtain ⟨_, _, _, ⟨_, c, _, _⟩, _⟩ := h
  exact blk_frozen c j
theorem TsS134.set_1 (h : TsS134 w0 W g f0 f1) (i : Nat) (x : Int) : TsS134 w0 (W.setCell ⟨g - 1, i, none⟩ (.int .i64 x)) g f0 (f1.set i x) := by
  have hlt := h.lt
  obtain ⟨A0, c0, a, ⟨b, c, d, e⟩, f⟩ := h
  refine ⟨A0, c0, ?_, ⟨b, ?_, d, e.1, by rw [List.length_set]; exact e.2⟩, f⟩
  · rw [List.length_set]; exact (Below.heap_setCell W _ _ g (by show g ≠ g - 1; omega)).trans a
  · have h2 := blk_set c i (.int .i64 x)
    have e2 : ((nums .i64 f1).toArray.setIfInBounds i (.int .i64 x)) = (nums .i64 (f1.set i x)).toArray := by simp [nums, List.map_set]
    rw [← e2]; exact h2
theorem cellT134_0 {A0 : Option Addr} {c0 : Nat} (h : W.heap[g]? = some (.cells #[.slice A0 f0.length c0, .slice (some ⟨g - 1, 0, none⟩) f1.length f1.length] 134 (0, 0))) : W.cell? ⟨g, 0, none⟩ = some (.slice A0 f0.length c0) := (blk_cell h 0).trans rfl
theorem cellT134_1 {A0 : Option Addr} {c0 : Nat} (h : W.heap[g]? = some (.cells #[.slice A0 f0.length c0, .slice (some ⟨g - 1, 0, none⟩) f1.length f1.length] 134 (0, 0))) : W.cell? ⟨g, 1, none⟩ = some (.slice (some ⟨g - 1, 0, none⟩) f1.length f1.length) := (blk_cell h 1).trans rfl
end
theorem arr_ne {g n b : Nat} (h : g < n) (k : n ≤ b) : g - 1 ≠ b := by omega
theorem arr_neS {g n b : Nat} (h : g < n) (k : n ≤ b) : some b ≠ some (g - 1) := by intro e; injection e with e; omega
theorem keep_allocR {w W : World} {g : Nat} {row : Option Nat} (h : KeepBut w W g row) (o : Obj) : KeepBut w (W.alloc o) g row := ⟨Nat.le_trans h.1 (by simp), fun i hi h1 h2 => ((below_alloc (Below.refl W.heap.size W) o).block i (Nat.lt_of_lt_of_le hi h.1)).trans (h.2 i hi h1 h2)⟩
theorem keep_setR {w W : World} {g r : Nat} (h : KeepBut w W g (some r)) (j : Nat) (u : Value) : KeepBut w (W.setCell ⟨r, j, none⟩ u) g (some r) := ⟨Nat.le_trans h.1 (by simp), fun i hi h1 h2 => (Below.heap_setCell W _ u i (fun e => h2 (by rw [e]))).trans (h.2 i hi h1 h2)⟩
/-! ### impl_tree_measure: function 163 -/
mutual
def impl_tree_measure.j0 : Nat → Int → Int → Bool → List (S53) → List Int → Option (Int × List Int)
  | 0, _, _, _, _, _ => none
  | k + 1, x1, x2, x32, x1000, x1001 => if x32 = true then (some ((-1), x1001)) else (if 0 ≤ x1 then (if x1 < (x1000.length : Int) then (impl_tree_measure.l0 k x1 x2 (wrap64 (x1 + 1)) 0 ((rd_T53 x1000 x1).f4) 0 x1000 x1001 ((rd_T53 x1000 x1).f0) ((rd_T53 x1000 x1).f1) ((rd_T53 x1000 x1).f2) ((rd_T53 x1000 x1).f3) ((rd_T53 x1000 x1).f4)) else (none)) else (none))
def impl_tree_measure.l0 : Nat → Int → Int → Int → Int → Int → Int → List (S53) → List Int → Int → Int → Int → ByteArray → Int → Option (Int × List Int)
  | 0, _, _, _, _, _, _, _, _, _, _, _, _, _ => none
  | k + 1, x1, x2, x8, x9, x43, x44, x1000, x1001, x305000, x305001, x305002, x305003, x305004 => if x44 < x43 then (if x8 ≥ (x1000.length : Int) then (some ((-1), x1001)) else (if 0 ≤ x8 then (if x8 < (x1000.length : Int) then (if x305000 = 9 then (if ((rd_T53 x1000 x8).f0) = x305002 then (impl_tree_measure.j2 k x1 x2 x8 x9 x43 x44 (((rd_T53 x1000 x8).f1) != 0) x1000 x1001 x305000 x305001 x305002 x305003 x305004 ((rd_T53 x1000 x8).f0) ((rd_T53 x1000 x8).f1) ((rd_T53 x1000 x8).f2) ((rd_T53 x1000 x8).f3) ((rd_T53 x1000 x8).f4)) else (impl_tree_measure.j2 k x1 x2 x8 x9 x43 x44 true x1000 x1001 x305000 x305001 x305002 x305003 x305004 ((rd_T53 x1000 x8).f0) ((rd_T53 x1000 x8).f1) ((rd_T53 x1000 x8).f2) ((rd_T53 x1000 x8).f3) ((rd_T53 x1000 x8).f4))) else (impl_tree_measure.j2 k x1 x2 x8 x9 x43 x44 false x1000 x1001 x305000 x305001 x305002 x305003 x305004 ((rd_T53 x1000 x8).f0) ((rd_T53 x1000 x8).f1) ((rd_T53 x1000 x8).f2) ((rd_T53 x1000 x8).f3) ((rd_T53 x1000 x8).f4))) else (none)) else (none))) else (if 0 ≤ x1 then (if x1 < (x1001.length : Int) then (some (x8, x1001.set (x1 : Int).toNat x8)) else (none)) else (none))
def impl_tree_measure.j2 : Nat → Int → Int → Int → Int → Int → Int → Bool → List (S53) → List Int → Int → Int → Int → ByteArray → Int → Int → Int → Int → ByteArray → Int → Option (Int × List Int)
  | 0, _, _, _, _, _, _, _, _, _, _, _, _, _, _, _, _, _, _, _ => none
  | k + 1, x1, x2, x8, x9, x43, x44, x74, x1000, x1001, x305000, x305001, x305002, x305003, x305004, x307000, x307001, x307002, x307003, x307004 => if x74 = true then (some ((-1), x1001)) else (if x305000 = 12 then ((impl_within.f x307001 (wrap64 (x9 + 1)) 1000).bind fun t307 => (impl_tree_measure.j3 k x1 x2 x8 x43 x44 (!t307) x1000 x1001 x305000 x305001 x305002 x305003 x305004 x307000 x307001 x307002 x307003 x307004)) else (impl_tree_measure.j3 k x1 x2 x8 x43 x44 false x1000 x1001 x305000 x305001 x305002 x305003 x305004 x307000 x307001 x307002 x307003 x307004))
def impl_tree_measure.j3 : Nat → Int → Int → Int → Int → Int → Bool → List (S53) → List Int → Int → Int → Int → ByteArray → Int → Int → Int → Int → ByteArray → Int → Option (Int × List Int)
  | 0, _, _, _, _, _, _, _, _, _, _, _, _, _, _, _, _, _, _ => none
  | k + 1, x1, x2, x8, x43, x44, x85, x1000, x1001, x305000, x305001, x305002, x305003, x305004, x307000, x307001, x307002, x307003, x307004 => if x85 = true then (some ((-1), x1001)) else ((impl_tree_measure.f k x1000 x1001 x8 (wrap64 (x2 + 1))).bind fun bt308 => (if bt308.1 < 0 then (some ((-1), bt308.2)) else (impl_tree_measure.l0 k x1 x2 bt308.1 x307001 x43 (wrap64 (x44 + 1)) x1000 bt308.2 x305000 x305001 x305002 x305003 x305004)))
def impl_tree_measure.f : Nat → List (S53) → List Int → Int → Int → Option (Int × List Int)
  | 0, _, _, _, _ => none
  | k + 1, s0_0, s0_1, a1, a2 => if a1 ≥ (s0_0.length : Int) then (impl_tree_measure.j0 k a1 a2 true s0_0 s0_1) else (if a2 > 12 then (impl_tree_measure.j0 k a1 a2 true s0_0 s0_1) else (if 0 ≤ a1 then (if a1 < (s0_0.length : Int) then ((impl_nodeOk.f k ((rd_T53 s0_0 a1).f0) ((rd_T53 s0_0 a1).f1) ((rd_T53 s0_0 a1).f2) ((rd_T53 s0_0 a1).f3) ((rd_T53 s0_0 a1).f4)).bind fun t302 => (impl_tree_measure.j0 k a1 a2 (!t302) s0_0 s0_1)) else (none)) else (none)))
end
theorem impl_tree_measure.mono_l : ∀ k, (∀ y0 y1 y2 y3, LeO (impl_tree_measure.f k y0 y1 y2 y3) (impl_tree_measure.f (k + 1) y0 y1 y2 y3)) ∧ (∀ y0 y1 y2 y3 y4, LeO (impl_tree_measure.j0 k y0 y1 y2 y3 y4) (impl_tree_measure.j0 (k + 1) y0 y1 y2 y3 y4)) ∧ (∀ y0 y1 y2 y3 y4 y5 y6 y7 y8 y9 y10 y11 y12, LeO (impl_tree_measure.l0 k y0 y1 y2 y3 y4 y5 y6 y7 y8 y9 y10 y11 y12) (impl_tree_measure.l0 (k + 1) y0 y1 y2 y3 y4 y5 y6 y7 y8 y9 y10 y11 y12)) ∧ (∀ y0 y1 y2 y3 y4 y5 y6 y7 y8 y9 y10 y11 y12 y13 y14 y15 y16 y17 y18, LeO (impl_tree_measure.j2 k y0 y1 y2 y3 y4 y5 y6 y7 y8 y9 y10 y11 y12 y13 y14 y15 y16 y17 y18) (impl_tree_measure.j2 (k + 1) y0 y1 y2 y3 y4 y5 y6 y7 y8 y9 y10 y11 y12 y13 y14 y15 y16 y17 y18)) ∧ (∀ y0 y1 y2 y3 y4 y5 y6 y7 y8 y9 y10 y11 y12 y13 y14 y15 y16 y17, LeO (impl_tree_measure.j3 k y0 y1 y2 y3 y4 y5 y6 y7 y8 y9 y10 y11 y12 y13 y14 y15 y16 y17) (impl_tree_measure.j3 (k + 1) y0 y1 y2 y3 y4 y5 y6 y7 y8 y9 y10 y11 y12 y13 y14 y15 y16 y17))
  | 0 => ⟨fun _ _ _ _ r h => by simp [impl_tree_measure.f] at h, fun _ _ _ _ _ r h => by simp [impl_tree_measure.j0] at h, fun _ _ _ _ _ _ _ _ _ _ _ _ _ r h => by simp [impl_tree_measure.l0] at h, fun _ _ _ _ _ _ _ _ _ _ _ _ _ _ _ _ _ _ _ r h => by simp [impl_tree_measure.j2] at h, fun _ _ _ _ _ _ _ _ _ _ _ _ _ _ _ _ _ _ r h => by simp [impl_tree_measure.j3] at h⟩
  | k + 1 => by
    obtain ⟨ih0, ih1, ih2, ih3, ih4⟩ := impl_tree_measure.mono_l k
    refine ⟨?_, ?_, ?_, ?_, ?_⟩
    · intro y0 y1 y2 y3
      unfold impl_tree_measure.f
      repeat' first
      | (with_reducible exact ih0 _ _ _ _)
      | (with_reducible exact ih1 _ _ _ _ _)
      | (with_reducible exact ih2 _ _ _ _ _ _ _ _ _ _ _ _ _)
      | (with_reducible exact ih3 _ _ _ _ _ _ _ _ _ _ _ _ _ _ _ _ _ _ _)
      | (with_reducible exact ih4 _ _ _ _ _ _ _ _ _ _ _ _ _ _ _ _ _ _)
      | (with_reducible exact impl_nodeOk.mono _ _ _ _ _ _)
      | (with_reducible exact LeO.refl _)
      | (with_reducible exact LeO.none _)
      | (with_reducible refine LeO.ite ?_ ?_)
      | (with_reducible refine LeO.bind ?_ (fun _ => ?_))
      | exact ih0 _ _ _ _
      | exact ih1 _ _ _ _ _
      | exact ih2 _ _ _ _ _ _ _ _ _ _ _ _ _
      | exact ih3 _ _ _ _ _ _ _ _ _ _ _ _ _ _ _ _ _ _ _
      | exact ih4 _ _ _ _ _ _ _ _ _ _ _ _ _ _ _ _ _ _
      | exact impl_nodeOk.mono _ _ _ _ _ _
      | exact LeO.none _
      | refine LeO.ite ?_ ?_
      | refine LeO.bind ?_ (fun _ => ?_)
    · intro y0 y1 y2 y3 y4
      unfold impl_tree_measure.j0
      repeat' first
      | (with_reducible exact ih0 _ _ _ _)
      | (with_reducible exact ih1 _ _ _ _ _)
      | (with_reducible exact ih2 _ _ _ _ _ _ _ _ _ _ _ _ _)
      | (with_reducible exact ih3 _ _ _ _ _ _ _ _ _ _ _ _ _ _ _ _ _ _ _)
      | (with_reducible exact ih4 _ _ _ _ _ _ _ _ _ _ _ _ _ _ _ _ _ _)
      | (with_reducible exact impl_nodeOk.mono _ _ _ _ _ _)
      | (with_reducible exact LeO.refl _)
      | (with_reducible exact LeO.none _)
      | (with_reducible refine LeO.ite ?_ ?_)
      | (with_reducible refine LeO.bind ?_ (fun _ => ?_))
      | exact ih0 _ _ _ _
      | exact ih1 _ _ _ _ _
      | exact ih2 _ _ _ _ _ _ _ _ _ _ _ _ _
      | exact ih3 _ _ _ _ _ _ _ _ _ _ _ _ _ _ _ _ _ _ _
      | exact ih4 _ _ _ _ _ _ _ _ _ _ _ _ _ _ _ _ _ _
      | exact impl_nodeOk.mono _ _ _ _ _ _
      | exact LeO.none _
      | refine LeO.ite ?_ ?_
      | refine LeO.bind ?_ (fun _ => ?_)
    · intro y0 y1 y2 y3 y4 y5 y6 y7 y8 y9 y10 y11 y12
      unfold impl_tree_measure.l0
      repeat' first
      | (with_reducible exact ih0 _ _ _ _)
      | (with_reducible exact ih1 _ _ _ _ _)
      | (with_reducible exact ih2 _ _ _ _ _ _ _ _ _ _ _ _ _)
      | (with_reducible exact ih3 _ _ _ _ _ _ _ _ _ _ _ _ _ _ _ _ _ _ _)
      | (with_reducible exact ih4 _ _ _ _ _ _ _ _ _ _ _ _ _ _ _ _ _ _)
      | (with_reducible exact impl_nodeOk.mono _ _ _ _ _ _)
      | (with_reducible exact LeO.refl _)
      | (with_reducible exact LeO.none _)
      | (with_reducible refine LeO.ite ?_ ?_)
      | (with_reducible refine LeO.bind ?_ (fun _ => ?_))
      | exact ih0 _ _ _ _
      | exact ih1 _ _ _ _ _
      | exact ih2 _ _ _ _ _ _ _ _ _ _ _ _ _
      | exact ih3 _ _ _ _ _ _ _ _ _ _ _ _ _ _ _ _ _ _ _
      | exact ih4 _ _ _ _ _ _ _ _ _ _ _ _ _ _ _ _ _ _
      | exact impl_nodeOk.mono _ _ _ _ _ _
      | exact LeO.none _
      | refine LeO.ite ?_ ?_
      | refine LeO.bind ?_ (fun _ => ?_)
    · intro y0 y1 y2 y3 y4 y5 y6 y7 y8 y9 y10 y11 y12 y13 y14 y15 y16 y17 y18
      unfold impl_tree_measure.j2
      repeat' first
      | (with_reducible exact ih0 _ _ _ _)
      | (with_reducible exact ih1 _ _ _ _ _)
      | (with_reducible exact ih2 _ _ _ _ _ _ _ _ _ _ _ _ _)
      | (with_reducible exact ih3 _ _ _ _ _ _ _ _ _ _ _ _ _ _ _ _ _ _ _)
      | (with_reducible exact ih4 _ _ _ _ _ _ _ _ _ _ _ _ _ _ _ _ _ _)
      | (with_reducible exact impl_nodeOk.mono _ _ _ _ _ _)
      | (with_reducible exact LeO.refl _)
      | (with_reducible exact LeO.none _)
      | (with_reducible refine LeO.ite ?_ ?_)
      | (with_reducible refine LeO.bind ?_ (fun _ => ?_))
      | exact ih0 _ _ _ _
      | exact ih1 _ _ _ _ _
      | exact ih2 _ _ _ _ _ _ _ _ _ _ _ _ _
      | exact ih3 _ _ _ _ _ _ _ _ _ _ _ _ _ _ _ _ _ _ _
      | exact ih4 _ _ _ _ _ _ _ _ _ _ _ _ _ _ _ _ _ _
      | exact impl_nodeOk.mono _ _ _ _ _ _
      | exact LeO.none _
      | refine LeO.ite ?_ ?_
      | refine LeO.bind ?_ (fun _ => ?_)
    · intro y0 y1 y2 y3 y4 y5 y6 y7 y8 y9 y10 y11 y12 y13 y14 y15 y16 y17
      unfold impl_tree_measure.j3
      repeat' first
      | (with_reducible exact ih0 _ _ _ _)
      | (with_reducible exact ih1 _ _ _ _ _)
      | (with_reducible exact ih2 _ _ _ _ _ _ _ _ _ _ _ _ _)
      | (with_reducible exact ih3 _ _ _ _ _ _ _ _ _ _ _ _ _ _ _ _ _ _ _)
      | (with_reducible exact ih4 _ _ _ _ _ _ _ _ _ _ _ _ _ _ _ _ _ _)
      | (with_reducible exact impl_nodeOk.mono _ _ _ _ _ _)
      | (with_reducible exact LeO.refl _)
      | (with_reducible exact LeO.none _)
      | (with_reducible refine LeO.ite ?_ ?_)
      | (with_reducible refine LeO.bind ?_ (fun _ => ?_))
      | exact ih0 _ _ _ _
      | exact ih1 _ _ _ _ _
      | exact ih2 _ _ _ _ _ _ _ _ _ _ _ _ _
      | exact ih3 _ _ _ _ _ _ _ _ _ _ _ _ _ _ _ _ _ _ _
      | exact ih4 _ _ _ _ _ _ _ _ _ _ _ _ _ _ _ _ _ _
      | exact impl_nodeOk.mono _ _ _ _ _ _
      | exact LeO.none _
      | refine LeO.ite ?_ ?_
      | refine LeO.bind ?_ (fun _ => ?_)
theorem impl_tree_measure.mono : ∀ a0 a1 a2 a3 k, LeO (impl_tree_measure.f k a0 a1 a2 a3) (impl_tree_measure.f (k + 1) a0 a1 a2 a3) := by
  intro a0 a1 a2 a3 k
  obtain ⟨ih0, ih1, ih2, ih3, ih4⟩ := impl_tree_measure.mono_l k
  exact ih0 a0 a1 a2 a3
set_option maxHeartbeats 8000000 in
set_option maxRecDepth 100000 in
theorem impl_tree_measure.calls (k : Nat) : ∀ (g : Nat) (s0_0 : List (S53)) (s0_1 : List Int) (a1 : Int) (a2 : Int) (r1 : Int) (r2 : List Int) (w0 w : World) (hI : TsS134 w0 w g s0_0 s0_1) (hB : Below w0.heap.size w0 w) (h : impl_tree_measure.f k s0_0 s0_1 a1 a2 = some (r1, r2)),
    Calls Try.prog 163 #[.pointer (some ⟨g, 0, none⟩), .int .i64 a1, .int .i64 a2] w fun e w' => e = .returned (.int .i64 r1) ∧ TsS134 w0 w' g s0_0 r2 ∧ Below w0.heap.size w0 w' ∧ KeepBut w w' g (some (g - 1)) := by
  induction k using Nat.strongRecOn with
  | _ k ih =>
  intro g s0_0 s0_1 a1 a2 r1 r2 w0 w hI hB h
  cases k with
  | zero => exact absurd h (by simp [impl_tree_measure.f])
  | succ k =>
  simp only [impl_tree_measure.f] at h
  have hu53 := Try.underlying53
  have HI0 := Aside0.mk hI
  have HLT := Aside0.mk hI.lt
  have HK := Aside0.mk (KeepBut.refl w g (some (g - 1)))
  have HL := Aside0.mk hB.size
  clear hI
  have HW0 := Aside0.mk hB.size
  have HB := Aside0.mk hB
  clear hB
  have H : (if a1 ≥ (s0_0.length : Int) then (impl_tree_measure.j0 k a1 a2 true s0_0 s0_1) else (if a2 > 12 then (impl_tree_measure.j0 k a1 a2 true s0_0 s0_1) else (if 0 ≤ a1 then (if a1 < (s0_0.length : Int) then ((impl_nodeOk.f k ((rd_T53 s0_0 a1).f0) ((rd_T53 s0_0 a1).f1) ((rd_T53 s0_0 a1).f2) ((rd_T53 s0_0 a1).f3) ((rd_T53 s0_0 a1).f4)).bind fun t302 => (impl_tree_measure.j0 k a1 a2 (!t302) s0_0 s0_1)) else (none)) else (none)))) = some (r1, r2) := h
  clear h
  have HC4 := Aside0.mk H
  clear H
  go_enter Try.func163, Try.ntmps163
  go_upto_region 1 with (fail)
  go_cut [32] (fun v32 wc => ∃ (kq : Nat) (x32_3 : Bool), v32 = .bool x32_3 ∧ Aside0 (impl_tree_measure.j0 kq a1 a2 x32_3 s0_0 s0_1 = some (r1, r2)) ∧ Aside0 (kq ≤ k) ∧ Aside0 (TsS134 w0 wc g s0_0 s0_1) ∧ Aside0 (KeepBut w wc g (some (g - 1))) ∧ Aside0 (Below w0.heap.size w0 wc))
  case first =>
    have H := HC4.out
    clear HC4
    by_cases c5 : a1 ≥ (s0_0.length : Int)
    · rw [if_pos c5] at H
      have c5b0 : decide ((s0_0.length : Int) ≤ a1) = true := decide_eq_true c5
      clear c5
      (first | rw [c5b0] | (simp only [i64_w, i32_w]; rw [c5b0]) | skip)
      have H' := Aside0.mk H
      clear H
      obtain ⟨ASz6_0, cSz6_0, HGz6, hgz6, HSz6_0⟩ := HI0.out
      have hcz6_0 := cellT134_0 HGz6
      have hcz6_1 := cellT134_1 HGz6
      have hfz6_1 := blk_frozen HGz6 1
      clear HGz6 hgz6
      go_wp2
      go_meet
      case rel => exact ⟨_, (true), (by first | rfl | (simp; done) | (simp [*]; done)), H', ⟨by first | omega | exact Nat.le_refl _⟩, ⟨by repeat (first | (with_reducible first | exact HI0.out | apply TsS134.alloc | apply TsS134.drewN | apply TsS134.drew | apply TsS134.set_1) | exact HI0.out)⟩, ⟨by repeat (first | (with_reducible first | exact HK.out | apply KeepBut.set_ | apply keep_setR | apply keep_drewN | apply keep_drew | apply keep_allocR) | exact HK.out)⟩, ⟨by repeat (first | (with_reducible first | exact HB.out | apply below_alloc | apply pw_below_drewN | apply below_drew1 | refine below_set ?_ (TsS134.ge HI0.out) | refine below_set ?_ (TsS134.ge1 HI0.out)) | exact HB.out)⟩⟩
    · rw [if_neg c5] at H
      have c5b0 : decide ((s0_0.length : Int) ≤ a1) = false := decide_eq_false c5
      clear c5
      (first | rw [c5b0] | (simp only [i64_w, i32_w]; rw [c5b0]) | skip)
      by_cases c7 : a2 > 12
      · rw [if_pos c7] at H
        have c7b0 : decide (12 < a2) = true := decide_eq_true c7
        clear c7
        have H' := Aside0.mk H
        clear H
        obtain ⟨ASz8_0, cSz8_0, HGz8, hgz8, HSz8_0⟩ := HI0.out
        have hcz8_0 := cellT134_0 HGz8
        have hcz8_1 := cellT134_1 HGz8
        have hfz8_1 := blk_frozen HGz8 1
        clear HGz8 hgz8
        go_wp2
        go_meet
        case rel => exact ⟨_, (true), (by first | rfl | (simp; done) | (simp [*]; done)), H', ⟨by first | omega | exact Nat.le_refl _⟩, ⟨by repeat (first | (with_reducible first | exact HI0.out | apply TsS134.alloc | apply TsS134.drewN | apply TsS134.drew | apply TsS134.set_1) | exact HI0.out)⟩, ⟨by repeat (first | (with_reducible first | exact HK.out | apply KeepBut.set_ | apply keep_setR | apply keep_drewN | apply keep_drew | apply keep_allocR) | exact HK.out)⟩, ⟨by repeat (first | (with_reducible first | exact HB.out | apply below_alloc | apply pw_below_drewN | apply below_drew1 | refine below_set ?_ (TsS134.ge HI0.out) | refine below_set ?_ (TsS134.ge1 HI0.out)) | exact HB.out)⟩⟩
      · rw [if_neg c7] at H
        have c7b0 : decide (12 < a2) = false := decide_eq_false c7
        clear c7
        by_cases c9 : 0 ≤ a1
        · rw [if_pos c9] at H
          have c9b0 : decide (0 ≤ a1) = true := decide_eq_true c9
          clear c9
          by_cases c10 : a1 < (s0_0.length : Int)
          · rw [if_pos c10] at H
            have c10b0 : decide (a1 < (s0_0.length : Int)) = true := decide_eq_true c10
            clear c10
            replace H := Option.bind_eq_some_iff.mp H
            obtain ⟨t302, A110, H⟩ := H
            replace H : (impl_tree_measure.j0 k a1 a2 (!t302) s0_0 s0_1) = some (r1, r2) := H
            have A11 := Aside0.mk A110
            clear A110
            have H' := Aside0.mk H
            clear H
            obtain ⟨ASz12_0, cSz12_0, HGz12, hgz12, HSz12_0⟩ := HI0.out
            have hcz12_0 := cellT134_0 HGz12
            have hcz12_1 := cellT134_1 HGz12
            have hfz12_1 := blk_frozen HGz12 1
            clear HGz12 hgz12
            have p301 : 0 ≤ (a1 : Int) := of_decide_eq_true (by first | (with_reducible assumption) | assumption)
            have q301 : a1 < (s0_0.length : Int) := of_decide_eq_true (by first | (with_reducible assumption) | assumption)
            obtain ⟨ad301, e301, hx301_0, hx301_1, hx301_2, hx301_3, hx301_4⟩ := at_T53 HSz12_0 a1 p301 q301
            cases e301
            replace hx301_0 := pw_cell_below HB.out hx301_0
            replace hx301_1 := pw_cell_below HB.out hx301_1
            replace hx301_2 := pw_cell_below HB.out hx301_2
            replace hx301_3 := pw_cell_below HB.out hx301_3
            replace hx301_4 := pw_cell_below HB.out hx301_4
            replace p301 := eq_true p301
            replace q301 := eq_true q301
            go_wp2_with (first | (go_at_call 211; (with_reducible refine (impl_nodeOk.calls k ((rd_T53 s0_0 a1).f0) ((rd_T53 s0_0 a1).f1) ((rd_T53 s0_0 a1).f2) ((rd_T53 s0_0 a1).f3) ((rd_T53 s0_0 a1).f4) t302 _ A11.out).mono ?_); rintro e w13 ⟨rfl, hb⟩; have n0_ := Aside0.mk (TsS134.below (by repeat (first | (with_reducible first | exact HI0.out | apply TsS134.alloc | apply TsS134.drewN | apply TsS134.drew | apply TsS134.set_1) | exact HI0.out)) hb); have n1_ := Aside0.mk (KeepBut.trans (by repeat (first | (with_reducible first | exact HK.out | apply KeepBut.set_ | apply keep_setR | apply keep_drewN | apply keep_drew | apply keep_allocR) | exact HK.out)) (KeepBut.of_below hb g (some (g - 1))) (.inl rfl)); have n2_ := Aside0.mk (below_step (by repeat (first | (with_reducible first | exact HB.out | apply below_alloc | apply pw_below_drewN | apply below_drew1 | refine below_set ?_ (TsS134.ge HI0.out) | refine below_set ?_ (TsS134.ge1 HI0.out)) | exact HB.out)) hb); clear HI0; clear HK; clear HB; have HI0 := n0_; have HK := n1_; have HB := n2_; clear n0_ n1_ n2_; (try clear hb); (try clear hb2); (try clear hk); (try clear hi)))
            go_meet
            case rel => exact ⟨_, (!t302), (by first | rfl | (simp; done) | (simp [*]; done)), H', ⟨by first | omega | exact Nat.le_refl _⟩, ⟨by repeat (first | (with_reducible first | exact HI0.out | apply TsS134.alloc | apply TsS134.drewN | apply TsS134.drew | apply TsS134.set_1) | exact HI0.out)⟩, ⟨by repeat (first | (with_reducible first | exact HK.out | apply KeepBut.set_ | apply keep_setR | apply keep_drewN | apply keep_drew | apply keep_allocR) | exact HK.out)⟩, ⟨by repeat (first | (with_reducible first | exact HB.out | apply below_alloc | apply pw_below_drewN | apply below_drew1 | refine below_set ?_ (TsS134.ge HI0.out) | refine below_set ?_ (TsS134.ge1 HI0.out)) | exact HB.out)⟩⟩
          · rw [if_neg c10] at H
            exact absurd H (by simp)
        · rw [if_neg c9] at H
          exact absurd H (by simp)
  case rest =>
    clear HC4
    try clear c1
    try clear p2
    try clear p3
    try clear q3
    try clear hx3
    try clear c5
    try clear c5b0
    try clear c7
    try clear c7b0
    try clear c9
    try clear c9b0
    try clear c10
    try clear c10b0
    try clear hcz12_0
    try clear hcz12_1
    try clear hcz6_0
    try clear hcz6_1
    try clear hcz8_0
    try clear hcz8_1
    try clear hfz12_1
    try clear hfz6_1
    try clear hfz8_1
    try clear hx301_0
    try clear hx301_1
    try clear hx301_2
    try clear hx301_3
    try clear hx301_4
    try clear p301
    try clear q301
    obtain ⟨kq, x32_3, rfl, HA, HJ3, HI0, HK, HB⟩ := hcut
    cases kq with
    | zero => exact absurd HA.out (by simp [impl_tree_measure.j0])
    | succ kj3 =>
      have H := HA.out
      clear HA
      simp only [impl_tree_measure.j0] at H
      by_cases c14 : x32_3 = true
      · subst c14
        have H1 : (some ((-1), s0_1)) = some (r1, r2) := by rw [if_pos rfl] at H; exact H
        clear H
        have H := H1
        clear H1
        simp only [Option.some.injEq, Prod.mk.injEq] at H
        obtain ⟨rfl, rfl⟩ := H
        go_wp2
        go_ret
        exact ⟨by first | rfl | (simp [errW_none, errW_some] <;> rfl) | (simp [*, errW_none, errW_some] <;> rfl), by repeat (first | (with_reducible first | exact HI0.out | apply TsS134.alloc | apply TsS134.drewN | apply TsS134.drew | apply TsS134.set_1) | exact HI0.out), by repeat (first | (with_reducible first | exact HB.out | apply below_alloc | apply pw_below_drewN | apply below_drew1 | refine below_set ?_ (TsS134.ge HI0.out) | refine below_set ?_ (TsS134.ge1 HI0.out)) | exact HB.out), by repeat (first | (with_reducible first | exact HK.out | apply KeepBut.set_ | apply keep_setR | apply keep_drewN | apply keep_drew | apply keep_allocR) | exact HK.out)⟩
      · replace c14 := Bool.eq_false_iff.mpr c14
        subst c14
        have H1 : (if 0 ≤ a1 then (if a1 < (s0_0.length : Int) then (impl_tree_measure.l0 kj3 a1 a2 (wrap64 (a1 + 1)) 0 ((rd_T53 s0_0 a1).f4) 0 s0_0 s0_1 ((rd_T53 s0_0 a1).f0) ((rd_T53 s0_0 a1).f1) ((rd_T53 s0_0 a1).f2) ((rd_T53 s0_0 a1).f3) ((rd_T53 s0_0 a1).f4)) else (none)) else (none)) = some (r1, r2) := by rw [if_neg (show ¬ (false = true) by decide)] at H; exact H
        clear H
        have H := H1
        clear H1
        by_cases c15 : 0 ≤ a1
        · rw [if_pos c15] at H
          have c15b0 : decide (0 ≤ a1) = true := decide_eq_true c15
          clear c15
          by_cases c16 : a1 < (s0_0.length : Int)
          · rw [if_pos c16] at H
            have c16b0 : decide (a1 < (s0_0.length : Int)) = true := decide_eq_true c16
            clear c16
            have H' := Aside0.mk H
            clear H
            obtain ⟨ASz17_0, cSz17_0, HGz17, hgz17, HSz17_0⟩ := HI0.out
            have hcz17_0 := cellT134_0 HGz17
            have hcz17_1 := cellT134_1 HGz17
            have hfz17_1 := blk_frozen HGz17 1
            clear HGz17 hgz17
            have p303 : 0 ≤ (a1 : Int) := of_decide_eq_true (by first | (with_reducible assumption) | assumption)
            have q303 : a1 < (s0_0.length : Int) := of_decide_eq_true (by first | (with_reducible assumption) | assumption)
            obtain ⟨ad303, e303, hx303_0, hx303_1, hx303_2, hx303_3, hx303_4⟩ := at_T53 HSz17_0 a1 p303 q303
            cases e303
            replace hx303_0 := pw_cell_below HB.out hx303_0
            replace hx303_1 := pw_cell_below HB.out hx303_1
            replace hx303_2 := pw_cell_below HB.out hx303_2
            replace hx303_3 := pw_cell_below HB.out hx303_3
            replace hx303_4 := pw_cell_below HB.out hx303_4
            replace p303 := eq_true p303
            replace q303 := eq_true q303
            go_wp2_with (first | ((with_reducible refine gate_dst (N := 7) rfl ?_); refine box_event ?hg (N := 7) ?hd (cs := #[.int .i64 0, .int .i64 0, .int .i64 0, .string (⟨#[]⟩ : ByteArray), .int .i64 0]) (t := 53) ?hr ?_; (case hd => rfl); (case hg => rfl); (case hr => first | (go_simp; done) | (go_simp; rfl)); intro gb304 hg w18 hbox hb; have n0_ := Aside0.mk (TsS134.below (by repeat (first | (with_reducible first | exact HI0.out | apply TsS134.alloc | apply TsS134.drewN | apply TsS134.drew | apply TsS134.set_1) | exact HI0.out)) hb); have n1_ := Aside0.mk (KeepBut.trans (by repeat (first | (with_reducible first | exact HK.out | apply KeepBut.set_ | apply keep_setR | apply keep_drewN | apply keep_drew | apply keep_allocR) | exact HK.out)) (KeepBut.of_below hb g (some (g - 1))) (.inl rfl)); have n2_ := Aside0.mk (below_step (by repeat (first | (with_reducible first | exact HB.out | apply below_alloc | apply pw_below_drewN | apply below_drew1 | refine below_set ?_ (TsS134.ge HI0.out) | refine below_set ?_ (TsS134.ge1 HI0.out)) | exact HB.out)) hb); have n3_ := Aside0.mk (hbox); have n4_ := Aside0.mk ((by rw [hg]; exact (keep_size (w := w) (g := g) (row := some (g - 1)) (by repeat (first | (with_reducible first | exact HK.out | apply KeepBut.set_ | apply keep_setR | apply keep_drewN | apply keep_drew | apply keep_allocR) | exact HK.out))) : w.heap.size ≤ gb304)); have n5_ := Aside0.mk ((Nat.le_trans HW0.out (by rw [hg]; exact (keep_size (w := w) (g := g) (row := some (g - 1)) (by repeat (first | (with_reducible first | exact HK.out | apply KeepBut.set_ | apply keep_setR | apply keep_drewN | apply keep_drew | apply keep_allocR) | exact HK.out))) : w.heap.size ≤ gb304) : w0.heap.size ≤ gb304)); have n6_ := Aside0.mk ((by rw [hg]; exact Nat.ne_of_lt (TsS134.lt (show TsS134 w0 _ g s0_0 s0_1 from by repeat (first | (with_reducible first | exact HI0.out | apply TsS134.alloc | apply TsS134.drewN | apply TsS134.drew | apply TsS134.set_1) | exact HI0.out))) : g ≠ gb304)); have n7_ := Aside0.mk ((by rw [hg]; exact Nat.ne_of_gt (TsS134.lt (show TsS134 w0 _ g s0_0 s0_1 from by repeat (first | (with_reducible first | exact HI0.out | apply TsS134.alloc | apply TsS134.drewN | apply TsS134.drew | apply TsS134.set_1) | exact HI0.out))) : gb304 ≠ g)); clear HI0; clear HK; clear HB; have HI0 := n0_; have HK := n1_; have HB := n2_; have BK304 := n3_; have GW304 := n4_; have GE304 := n5_; have NB0_304 := n6_; have NB304_0 := n7_; clear n0_ n1_ n2_ n3_ n4_ n5_ n6_ n7_; clear hb hbox hg; have hnb19 := NB304_0.out; have hnc19 := NB0_304.out; have hcz20_0 : w18.cell? ⟨gb304, 0, none⟩ = some (.int .i64 0) := (blk_cell BK304.out 0).trans rfl; have hcz20_1 : w18.cell? ⟨gb304, 1, none⟩ = some (.int .i64 0) := (blk_cell BK304.out 1).trans rfl; have hcz20_2 : w18.cell? ⟨gb304, 2, none⟩ = some (.int .i64 0) := (blk_cell BK304.out 2).trans rfl; have hcz20_3 : w18.cell? ⟨gb304, 3, none⟩ = some (.string (⟨#[]⟩ : ByteArray)) := (blk_cell BK304.out 3).trans rfl; have hcz20_4 : w18.cell? ⟨gb304, 4, none⟩ = some (.int .i64 0) := (blk_cell BK304.out 4).trans rfl; have hfz20_0 := blk_frozen BK304.out 0; have hfz20_1 := blk_frozen BK304.out 1; have hfz20_2 := blk_frozen BK304.out 2; have hfz20_3 := blk_frozen BK304.out 3; have hfz20_4 := blk_frozen BK304.out 4))
            go_loopg [8, 9, 44] kj3 (fun kq v8 v9 v44 w' => ∃ (x8_2 : Int) (x9_2 : Int) (x44_2 : Int) (x1001_2 : List Int), v8 = .int .i64 x8_2 ∧ v9 = .int .i64 x9_2 ∧ v44 = .int .i64 x44_2 ∧ Aside0 (impl_tree_measure.l0 kq a1 a2 x8_2 x9_2 ((rd_T53 s0_0 a1).f4) x44_2 s0_0 x1001_2 ((rd_T53 s0_0 a1).f0) ((rd_T53 s0_0 a1).f1) ((rd_T53 s0_0 a1).f2) ((rd_T53 s0_0 a1).f3) ((rd_T53 s0_0 a1).f4) = some (r1, r2)) ∧ Aside0 (kq ≤ kj3) ∧ Aside0 (w'.heap[gb304]? = some (.cells #[.int .i64 ((rd_T53 s0_0 a1).f0), .int .i64 ((rd_T53 s0_0 a1).f1), .int .i64 ((rd_T53 s0_0 a1).f2), .string ((rd_T53 s0_0 a1).f3), .int .i64 ((rd_T53 s0_0 a1).f4)] 53 (0, 0))) ∧ Aside0 (TsS134 w0 w' g s0_0 x1001_2) ∧ Aside0 (KeepBut w w' g (some (g - 1))) ∧ Aside0 (Below w0.heap.size w0 w'))
            case atStart => exact ⟨(wrap64 (a1 + 1)), (0), (0), (s0_1), (by first | rfl | (simp; done) | (simp [*]; done)), (by first | rfl | (simp; done) | (simp [*]; done)), (by first | rfl | (simp; done) | (simp [*]; done)), H', ⟨Nat.le_refl _⟩, ⟨by (with_reducible repeat (first | refine blk_drewN ?_ _ | refine blk_drew ?_ | refine blk_alloc ?_ _)); refine blk_put (cs := #[.int .i64 ((rd_T53 s0_0 a1).f0), .int .i64 ((rd_T53 s0_0 a1).f1), .int .i64 ((rd_T53 s0_0 a1).f2), .string ((rd_T53 s0_0 a1).f3), .int .i64 0]) ?_ 4 _ rfl; (with_reducible repeat (first | refine blk_drewN ?_ _ | refine blk_drew ?_ | refine blk_alloc ?_ _)); refine blk_put (cs := #[.int .i64 ((rd_T53 s0_0 a1).f0), .int .i64 ((rd_T53 s0_0 a1).f1), .int .i64 ((rd_T53 s0_0 a1).f2), .string (⟨#[]⟩ : ByteArray), .int .i64 0]) ?_ 3 _ rfl; (with_reducible repeat (first | refine blk_drewN ?_ _ | refine blk_drew ?_ | refine blk_alloc ?_ _)); refine blk_put (cs := #[.int .i64 ((rd_T53 s0_0 a1).f0), .int .i64 ((rd_T53 s0_0 a1).f1), .int .i64 0, .string (⟨#[]⟩ : ByteArray), .int .i64 0]) ?_ 2 _ rfl; (with_reducible repeat (first | refine blk_drewN ?_ _ | refine blk_drew ?_ | refine blk_alloc ?_ _)); refine blk_put (cs := #[.int .i64 ((rd_T53 s0_0 a1).f0), .int .i64 0, .int .i64 0, .string (⟨#[]⟩ : ByteArray), .int .i64 0]) ?_ 1 _ rfl; (with_reducible repeat (first | refine blk_drewN ?_ _ | refine blk_drew ?_ | refine blk_alloc ?_ _)); refine blk_put (cs := #[.int .i64 0, .int .i64 0, .int .i64 0, .string (⟨#[]⟩ : ByteArray), .int .i64 0]) ?_ 0 _ rfl; (with_reducible repeat (first | refine blk_drewN ?_ _ | refine blk_drew ?_ | refine blk_alloc ?_ _)); exact BK304.out⟩, ⟨by repeat (first | (with_reducible first | exact HI0.out | apply TsS134.alloc | apply TsS134.drewN | apply TsS134.drew | apply TsS134.set_1 | refine TsS134.far ?_ NB0_304.out (arr_ne HLT.out GW304.out) _) | exact HI0.out)⟩, ⟨by repeat (first | (with_reducible first | exact HK.out | apply KeepBut.set_ | apply keep_setR | apply keep_drewN | apply keep_drew | apply keep_allocR | refine keep_far ?_ GW304.out _) | exact HK.out)⟩, ⟨by repeat (first | (with_reducible first | exact HB.out | apply below_alloc | apply pw_below_drewN | apply below_drew1 | refine below_set ?_ (TsS134.ge HI0.out) | refine below_set ?_ (TsS134.ge1 HI0.out) | refine below_set ?_ GE304.out) | exact HB.out)⟩⟩
            case round =>
              clear H'
              try clear c1
              try clear p2
              try clear p3
              try clear q3
              try clear hx3
              try clear c5
              try clear c5b0
              try clear p6
              try clear c7
              try clear c7b0
              try clear c9
              try clear c9b0
              try clear c10
              try clear c10b0
              try clear c14
              try clear c15
              try clear c15b0
              try clear c16
              try clear c16b0
              try clear c19
              try clear hcz12_0
              try clear hcz12_1
              try clear hcz17_0
              try clear hcz17_1
              try clear hcz20_0
              try clear hcz20_1
              try clear hcz20_2
              try clear hcz20_3
              try clear hcz20_4
              try clear hcz6_0
              try clear hcz6_1
              try clear hcz8_0
              try clear hcz8_1
              try clear hfz12_1
              try clear hfz17_1
              try clear hfz20_0
              try clear hfz20_1
              try clear hfz20_2
              try clear hfz20_3
              try clear hfz20_4
              try clear hfz6_1
              try clear hfz8_1
              try clear hx301_0
              try clear hx301_1
              try clear hx301_2
              try clear hx301_3
              try clear hx301_4
              try clear hx303_0
              try clear hx303_1
              try clear hx303_2
              try clear hx303_3
              try clear hx303_4
              try clear p2
              try clear p3
              try clear p301
              try clear p303
              try clear q3
              try clear q301
              try clear q303
              obtain ⟨x8_2, x9_2, x44_2, x1001_2, rfl, rfl, rfl, HA, HK2, BK304, HI0, HK, HB⟩ := hrel
              cases gk with
              | zero => exact absurd HA.out (by simp [impl_tree_measure.l0])
              | succ k2 =>
                have H := HA.out
                clear HA
                simp only [impl_tree_measure.l0] at H
                by_cases c21 : x44_2 < ((rd_T53 s0_0 a1).f4)
                · rw [if_pos c21] at H
                  have c21b0 : decide (x44_2 < ((rd_T53 s0_0 a1).f4)) = true := decide_eq_true c21
                  clear c21
                  by_cases c22 : x8_2 ≥ (s0_0.length : Int)
                  · rw [if_pos c22] at H
                    have c22b0 : decide ((s0_0.length : Int) ≤ x8_2) = true := decide_eq_true c22
                    clear c22
                    simp only [Option.some.injEq, Prod.mk.injEq] at H
                    obtain ⟨rfl, rfl⟩ := H
                    obtain ⟨ASz23_0, cSz23_0, HGz23, hgz23, HSz23_0⟩ := HI0.out
                    have hcz23_0 := cellT134_0 HGz23
                    have hcz23_1 := cellT134_1 HGz23
                    have hfz23_1 := blk_frozen HGz23 1
                    clear HGz23 hgz23
                    go_wp2
                    go_ret
                    exact ⟨by first | rfl | (simp [errW_none, errW_some] <;> rfl) | (simp [*, errW_none, errW_some] <;> rfl), by repeat (first | (with_reducible first | exact HI0.out | apply TsS134.alloc | apply TsS134.drewN | apply TsS134.drew | apply TsS134.set_1 | refine TsS134.far ?_ NB0_304.out (arr_ne HLT.out GW304.out) _) | exact HI0.out), by repeat (first | (with_reducible first | exact HB.out | apply below_alloc | apply pw_below_drewN | apply below_drew1 | refine below_set ?_ (TsS134.ge HI0.out) | refine below_set ?_ (TsS134.ge1 HI0.out) | refine below_set ?_ GE304.out) | exact HB.out), by repeat (first | (with_reducible first | exact HK.out | apply KeepBut.set_ | apply keep_setR | apply keep_drewN | apply keep_drew | apply keep_allocR | refine keep_far ?_ GW304.out _) | exact HK.out)⟩
                  · rw [if_neg c22] at H
                    have c22b0 : decide ((s0_0.length : Int) ≤ x8_2) = false := decide_eq_false c22
                    clear c22
                    by_cases c24 : 0 ≤ x8_2
                    · rw [if_pos c24] at H
                      have c24b0 : decide (0 ≤ x8_2) = true := decide_eq_true c24
                      clear c24
                      by_cases c25 : x8_2 < (s0_0.length : Int)
                      · rw [if_pos c25] at H
                        have c25b0 : decide (x8_2 < (s0_0.length : Int)) = true := decide_eq_true c25
                        clear c25
                        have HC26 := Aside0.mk H
                        clear H
                        obtain ⟨ASz27_0, cSz27_0, HGz27, hgz27, HSz27_0⟩ := HI0.out
                        have hcz27_0 := cellT134_0 HGz27
                        have hcz27_1 := cellT134_1 HGz27
                        have hfz27_1 := blk_frozen HGz27 1
                        clear HGz27 hgz27
                        have p305 : 0 ≤ (x8_2 : Int) := of_decide_eq_true (by first | (with_reducible assumption) | assumption)
                        have q305 : x8_2 < (s0_0.length : Int) := of_decide_eq_true (by first | (with_reducible assumption) | assumption)
                        obtain ⟨ad305, e305, hx305_0, hx305_1, hx305_2, hx305_3, hx305_4⟩ := at_T53 HSz27_0 x8_2 p305 q305
                        cases e305
                        replace hx305_0 := pw_cell_below HB.out hx305_0
                        replace hx305_1 := pw_cell_below HB.out hx305_1
                        replace hx305_2 := pw_cell_below HB.out hx305_2
                        replace hx305_3 := pw_cell_below HB.out hx305_3
                        replace hx305_4 := pw_cell_below HB.out hx305_4
                        replace p305 := eq_true p305
                        replace q305 := eq_true q305
                        go_upto_region 11 with (first | ((with_reducible refine gate_dst (N := 10) rfl ?_); refine box_event ?hg (N := 10) ?hd (cs := #[.int .i64 0, .int .i64 0, .int .i64 0, .string (⟨#[]⟩ : ByteArray), .int .i64 0]) (t := 53) ?hr ?_; (case hd => rfl); (case hg => rfl); (case hr => first | (go_simp; done) | (go_simp; rfl)); intro gb306 hg w28 hbox hb; have n0_ := Aside0.mk (blk_below (g := gb304) (o := .cells #[.int .i64 ((rd_T53 s0_0 a1).f0), .int .i64 ((rd_T53 s0_0 a1).f1), .int .i64 ((rd_T53 s0_0 a1).f2), .string ((rd_T53 s0_0 a1).f3), .int .i64 ((rd_T53 s0_0 a1).f4)] 53 (0, 0)) (by (with_reducible repeat (first | refine blk_drewN ?_ _ | refine blk_drew ?_ | refine blk_alloc ?_ _)); exact BK304.out) hb); have n1_ := Aside0.mk (TsS134.below (by repeat (first | (with_reducible first | exact HI0.out | apply TsS134.alloc | apply TsS134.drewN | apply TsS134.drew | apply TsS134.set_1 | refine TsS134.far ?_ NB0_304.out (arr_ne HLT.out GW304.out) _) | exact HI0.out)) hb); have n2_ := Aside0.mk (KeepBut.trans (by repeat (first | (with_reducible first | exact HK.out | apply KeepBut.set_ | apply keep_setR | apply keep_drewN | apply keep_drew | apply keep_allocR | refine keep_far ?_ GW304.out _) | exact HK.out)) (KeepBut.of_below hb g (some (g - 1))) (.inl rfl)); have n3_ := Aside0.mk (below_step (by repeat (first | (with_reducible first | exact HB.out | apply below_alloc | apply pw_below_drewN | apply below_drew1 | refine below_set ?_ (TsS134.ge HI0.out) | refine below_set ?_ (TsS134.ge1 HI0.out) | refine below_set ?_ GE304.out) | exact HB.out)) hb); have n4_ := Aside0.mk (hbox); have n5_ := Aside0.mk ((by rw [hg]; exact (keep_size (w := w) (g := g) (row := some (g - 1)) (by repeat (first | (with_reducible first | exact HK.out | apply KeepBut.set_ | apply keep_setR | apply keep_drewN | apply keep_drew | apply keep_allocR | refine keep_far ?_ GW304.out _) | exact HK.out))) : w.heap.size ≤ gb306)); have n6_ := Aside0.mk ((Nat.le_trans HW0.out (by rw [hg]; exact (keep_size (w := w) (g := g) (row := some (g - 1)) (by repeat (first | (with_reducible first | exact HK.out | apply KeepBut.set_ | apply keep_setR | apply keep_drewN | apply keep_drew | apply keep_allocR | refine keep_far ?_ GW304.out _) | exact HK.out))) : w.heap.size ≤ gb306) : w0.heap.size ≤ gb306)); have n7_ := Aside0.mk ((by rw [hg]; exact Nat.ne_of_lt (blk_lt (g := gb304) (o := .cells #[.int .i64 ((rd_T53 s0_0 a1).f0), .int .i64 ((rd_T53 s0_0 a1).f1), .int .i64 ((rd_T53 s0_0 a1).f2), .string ((rd_T53 s0_0 a1).f3), .int .i64 ((rd_T53 s0_0 a1).f4)] 53 (0, 0)) (by (with_reducible repeat (first | refine blk_drewN ?_ _ | refine blk_drew ?_ | refine blk_alloc ?_ _)); exact BK304.out)) : gb304 ≠ gb306)); have n8_ := Aside0.mk ((by rw [hg]; exact Nat.ne_of_gt (blk_lt (g := gb304) (o := .cells #[.int .i64 ((rd_T53 s0_0 a1).f0), .int .i64 ((rd_T53 s0_0 a1).f1), .int .i64 ((rd_T53 s0_0 a1).f2), .string ((rd_T53 s0_0 a1).f3), .int .i64 ((rd_T53 s0_0 a1).f4)] 53 (0, 0)) (by (with_reducible repeat (first | refine blk_drewN ?_ _ | refine blk_drew ?_ | refine blk_alloc ?_ _)); exact BK304.out)) : gb306 ≠ gb304)); have n9_ := Aside0.mk ((by rw [hg]; exact Nat.ne_of_lt (TsS134.lt (show TsS134 w0 _ g s0_0 x1001_2 from by repeat (first | (with_reducible first | exact HI0.out | apply TsS134.alloc | apply TsS134.drewN | apply TsS134.drew | apply TsS134.set_1 | refine TsS134.far ?_ NB0_304.out (arr_ne HLT.out GW304.out) _) | exact HI0.out))) : g ≠ gb306)); have n10_ := Aside0.mk ((by rw [hg]; exact Nat.ne_of_gt (TsS134.lt (show TsS134 w0 _ g s0_0 x1001_2 from by repeat (first | (with_reducible first | exact HI0.out | apply TsS134.alloc | apply TsS134.drewN | apply TsS134.drew | apply TsS134.set_1 | refine TsS134.far ?_ NB0_304.out (arr_ne HLT.out GW304.out) _) | exact HI0.out))) : gb306 ≠ g)); clear BK304; clear HI0; clear HK; clear HB; have BK304 := n0_; have HI0 := n1_; have HK := n2_; have HB := n3_; have BK306 := n4_; have GW306 := n5_; have GE306 := n6_; have NB304_306 := n7_; have NB306_304 := n8_; have NB0_306 := n9_; have NB306_0 := n10_; clear n0_ n1_ n2_ n3_ n4_ n5_ n6_ n7_ n8_ n9_ n10_; clear hb hbox hg; have hnb29 := NB306_304.out; have hnc29 := NB304_306.out; have hnb30 := NB306_0.out; have hnc30 := NB0_306.out; have hcz31_0 : w28.cell? ⟨gb306, 0, none⟩ = some (.int .i64 0) := (blk_cell BK306.out 0).trans rfl; have hcz31_1 : w28.cell? ⟨gb306, 1, none⟩ = some (.int .i64 0) := (blk_cell BK306.out 1).trans rfl; have hcz31_2 : w28.cell? ⟨gb306, 2, none⟩ = some (.int .i64 0) := (blk_cell BK306.out 2).trans rfl; have hcz31_3 : w28.cell? ⟨gb306, 3, none⟩ = some (.string (⟨#[]⟩ : ByteArray)) := (blk_cell BK306.out 3).trans rfl; have hcz31_4 : w28.cell? ⟨gb306, 4, none⟩ = some (.int .i64 0) := (blk_cell BK306.out 4).trans rfl; have hfz31_0 := blk_frozen BK306.out 0; have hfz31_1 := blk_frozen BK306.out 1; have hfz31_2 := blk_frozen BK306.out 2; have hfz31_3 := blk_frozen BK306.out 3; have hfz31_4 := blk_frozen BK306.out 4))
                        (try simp only [Act.put, List.setIfInBounds_toArray, List.set_cons_zero, List.set_cons_succ])
                        go_cut [74] (fun v74 wc => ∃ (kq : Nat) (x74_25 : Bool), v74 = .bool x74_25 ∧ Aside0 (impl_tree_measure.j2 kq a1 a2 x8_2 x9_2 ((rd_T53 s0_0 a1).f4) x44_2 x74_25 s0_0 x1001_2 ((rd_T53 s0_0 a1).f0) ((rd_T53 s0_0 a1).f1) ((rd_T53 s0_0 a1).f2) ((rd_T53 s0_0 a1).f3) ((rd_T53 s0_0 a1).f4) ((rd_T53 s0_0 x8_2).f0) ((rd_T53 s0_0 x8_2).f1) ((rd_T53 s0_0 x8_2).f2) ((rd_T53 s0_0 x8_2).f3) ((rd_T53 s0_0 x8_2).f4) = some (r1, r2)) ∧ Aside0 (kq ≤ k2) ∧ Aside0 (wc.heap[gb304]? = some (.cells #[.int .i64 ((rd_T53 s0_0 a1).f0), .int .i64 ((rd_T53 s0_0 a1).f1), .int .i64 ((rd_T53 s0_0 a1).f2), .string ((rd_T53 s0_0 a1).f3), .int .i64 ((rd_T53 s0_0 a1).f4)] 53 (0, 0))) ∧ Aside0 (wc.heap[gb306]? = some (.cells #[.int .i64 ((rd_T53 s0_0 x8_2).f0), .int .i64 ((rd_T53 s0_0 x8_2).f1), .int .i64 ((rd_T53 s0_0 x8_2).f2), .string ((rd_T53 s0_0 x8_2).f3), .int .i64 ((rd_T53 s0_0 x8_2).f4)] 53 (0, 0))) ∧ Aside0 (TsS134 w0 wc g s0_0 x1001_2) ∧ Aside0 (KeepBut w wc g (some (g - 1))) ∧ Aside0 (Below w0.heap.size w0 wc))
                        case first =>
                          have H := HC26.out
                          clear HC26
                          by_cases c32 : ((rd_T53 s0_0 a1).f0) = 9
                          · rw [if_pos c32] at H
                            have c32b0 : (((rd_T53 s0_0 a1).f0) == 9) = true := beq_iff_eq.mpr c32
                            have c32b1 : (((rd_T53 s0_0 a1).f0) != 9) = false := bne_eq_false_iff_eq.mpr c32
                            clear c32
                            (first | rw [c32b0] | rw [c32b1] | (simp only [i64_w, i32_w]; rw [c32b0]) | skip)
                            by_cases c33 : ((rd_T53 s0_0 x8_2).f0) = ((rd_T53 s0_0 a1).f2)
                            · rw [if_pos c33] at H
                              have c33b0 : (((rd_T53 s0_0 x8_2).f0) == ((rd_T53 s0_0 a1).f2)) = true := beq_iff_eq.mpr c33
                              have c33b1 : (((rd_T53 s0_0 x8_2).f0) != ((rd_T53 s0_0 a1).f2)) = false := bne_eq_false_iff_eq.mpr c33
                              clear c33
                              have H' := Aside0.mk H
                              clear H
                              have hnb34 := NB304_306.out
                              have hnc34 := NB306_304.out
                              have hnb35 := NB304_0.out
                              have hnc35 := NB0_304.out
                              have hcz36_0 : w28.cell? ⟨gb304, 0, none⟩ = some (.int .i64 ((rd_T53 s0_0 a1).f0)) := (blk_cell BK304.out 0).trans rfl
                              have hcz36_1 : w28.cell? ⟨gb304, 1, none⟩ = some (.int .i64 ((rd_T53 s0_0 a1).f1)) := (blk_cell BK304.out 1).trans rfl
                              have hcz36_2 : w28.cell? ⟨gb304, 2, none⟩ = some (.int .i64 ((rd_T53 s0_0 a1).f2)) := (blk_cell BK304.out 2).trans rfl
                              have hcz36_3 : w28.cell? ⟨gb304, 3, none⟩ = some (.string ((rd_T53 s0_0 a1).f3)) := (blk_cell BK304.out 3).trans rfl
                              have hcz36_4 : w28.cell? ⟨gb304, 4, none⟩ = some (.int .i64 ((rd_T53 s0_0 a1).f4)) := (blk_cell BK304.out 4).trans rfl
                              have hfz36_0 := blk_frozen BK304.out 0
                              have hfz36_1 := blk_frozen BK304.out 1
                              have hfz36_2 := blk_frozen BK304.out 2
                              have hfz36_3 := blk_frozen BK304.out 3
                              have hfz36_4 := blk_frozen BK304.out 4
                              have hnb37 := NB306_0.out
                              have hnc37 := NB0_306.out
                              have hcz38_0 : w28.cell? ⟨gb306, 0, none⟩ = some (.int .i64 0) := (blk_cell BK306.out 0).trans rfl
                              have hcz38_1 : w28.cell? ⟨gb306, 1, none⟩ = some (.int .i64 0) := (blk_cell BK306.out 1).trans rfl
                              have hcz38_2 : w28.cell? ⟨gb306, 2, none⟩ = some (.int .i64 0) := (blk_cell BK306.out 2).trans rfl
                              have hcz38_3 : w28.cell? ⟨gb306, 3, none⟩ = some (.string (⟨#[]⟩ : ByteArray)) := (blk_cell BK306.out 3).trans rfl
                              have hcz38_4 : w28.cell? ⟨gb306, 4, none⟩ = some (.int .i64 0) := (blk_cell BK306.out 4).trans rfl
                              have hfz38_0 := blk_frozen BK306.out 0
                              have hfz38_1 := blk_frozen BK306.out 1
                              have hfz38_2 := blk_frozen BK306.out 2
                              have hfz38_3 := blk_frozen BK306.out 3
                              have hfz38_4 := blk_frozen BK306.out 4
                              go_wp2
                              go_meet
                              case rel => exact ⟨_, ((((rd_T53 s0_0 x8_2).f1) != 0)), (by first | rfl | (simp; done) | (simp [*]; done)), H', ⟨by have := HJ3.out; have := HK2.out; first | omega | exact Nat.le_refl _⟩, ⟨by (with_reducible repeat (first | refine blk_drewN ?_ _ | refine blk_drew ?_ | refine blk_alloc ?_ _)); refine blk_far ?_ NB304_306.out _; (with_reducible repeat (first | refine blk_drewN ?_ _ | refine blk_drew ?_ | refine blk_alloc ?_ _)); refine blk_far ?_ NB304_306.out _; (with_reducible repeat (first | refine blk_drewN ?_ _ | refine blk_drew ?_ | refine blk_alloc ?_ _)); refine blk_far ?_ NB304_306.out _; (with_reducible repeat (first | refine blk_drewN ?_ _ | refine blk_drew ?_ | refine blk_alloc ?_ _)); refine blk_far ?_ NB304_306.out _; (with_reducible repeat (first | refine blk_drewN ?_ _ | refine blk_drew ?_ | refine blk_alloc ?_ _)); refine blk_far ?_ NB304_306.out _; (with_reducible repeat (first | refine blk_drewN ?_ _ | refine blk_drew ?_ | refine blk_alloc ?_ _)); exact BK304.out⟩, ⟨by (with_reducible repeat (first | refine blk_drewN ?_ _ | refine blk_drew ?_ | refine blk_alloc ?_ _)); refine blk_put (cs := #[.int .i64 ((rd_T53 s0_0 x8_2).f0), .int .i64 ((rd_T53 s0_0 x8_2).f1), .int .i64 ((rd_T53 s0_0 x8_2).f2), .string ((rd_T53 s0_0 x8_2).f3), .int .i64 0]) ?_ 4 _ rfl; (with_reducible repeat (first | refine blk_drewN ?_ _ | refine blk_drew ?_ | refine blk_alloc ?_ _)); refine blk_put (cs := #[.int .i64 ((rd_T53 s0_0 x8_2).f0), .int .i64 ((rd_T53 s0_0 x8_2).f1), .int .i64 ((rd_T53 s0_0 x8_2).f2), .string (⟨#[]⟩ : ByteArray), .int .i64 0]) ?_ 3 _ rfl; (with_reducible repeat (first | refine blk_drewN ?_ _ | refine blk_drew ?_ | refine blk_alloc ?_ _)); refine blk_put (cs := #[.int .i64 ((rd_T53 s0_0 x8_2).f0), .int .i64 ((rd_T53 s0_0 x8_2).f1), .int .i64 0, .string (⟨#[]⟩ : ByteArray), .int .i64 0]) ?_ 2 _ rfl; (with_reducible repeat (first | refine blk_drewN ?_ _ | refine blk_drew ?_ | refine blk_alloc ?_ _)); refine blk_put (cs := #[.int .i64 ((rd_T53 s0_0 x8_2).f0), .int .i64 0, .int .i64 0, .string (⟨#[]⟩ : ByteArray), .int .i64 0]) ?_ 1 _ rfl; (with_reducible repeat (first | refine blk_drewN ?_ _ | refine blk_drew ?_ | refine blk_alloc ?_ _)); refine blk_put (cs := #[.int .i64 0, .int .i64 0, .int .i64 0, .string (⟨#[]⟩ : ByteArray), .int .i64 0]) ?_ 0 _ rfl; (with_reducible repeat (first | refine blk_drewN ?_ _ | refine blk_drew ?_ | refine blk_alloc ?_ _)); exact BK306.out⟩, ⟨by repeat (first | (with_reducible first | exact HI0.out | apply TsS134.alloc | apply TsS134.drewN | apply TsS134.drew | apply TsS134.set_1 | refine TsS134.far ?_ NB0_304.out (arr_ne HLT.out GW304.out) _ | refine TsS134.far ?_ NB0_306.out (arr_ne HLT.out GW306.out) _) | exact HI0.out)⟩, ⟨by repeat (first | (with_reducible first | exact HK.out | apply KeepBut.set_ | apply keep_setR | apply keep_drewN | apply keep_drew | apply keep_allocR | refine keep_far ?_ GW304.out _ | refine keep_far ?_ GW306.out _) | exact HK.out)⟩, ⟨by repeat (first | (with_reducible first | exact HB.out | apply below_alloc | apply pw_below_drewN | apply below_drew1 | refine below_set ?_ (TsS134.ge HI0.out) | refine below_set ?_ (TsS134.ge1 HI0.out) | refine below_set ?_ GE304.out | refine below_set ?_ GE306.out) | exact HB.out)⟩⟩
                            · rw [if_neg c33] at H
                              have c33b0 : (((rd_T53 s0_0 x8_2).f0) == ((rd_T53 s0_0 a1).f2)) = false := beq_eq_false_iff_ne.mpr c33
                              have c33b1 : (((rd_T53 s0_0 x8_2).f0) != ((rd_T53 s0_0 a1).f2)) = true := bne_iff_ne.mpr c33
                              have H' := Aside0.mk H
                              clear H
                              have hnb39 := NB304_306.out
                              have hnc39 := NB306_304.out
                              have hnb40 := NB304_0.out
                              have hnc40 := NB0_304.out
                              have hcz41_0 : w28.cell? ⟨gb304, 0, none⟩ = some (.int .i64 ((rd_T53 s0_0 a1).f0)) := (blk_cell BK304.out 0).trans rfl
                              have hcz41_1 : w28.cell? ⟨gb304, 1, none⟩ = some (.int .i64 ((rd_T53 s0_0 a1).f1)) := (blk_cell BK304.out 1).trans rfl
                              have hcz41_2 : w28.cell? ⟨gb304, 2, none⟩ = some (.int .i64 ((rd_T53 s0_0 a1).f2)) := (blk_cell BK304.out 2).trans rfl
                              have hcz41_3 : w28.cell? ⟨gb304, 3, none⟩ = some (.string ((rd_T53 s0_0 a1).f3)) := (blk_cell BK304.out 3).trans rfl
                              have hcz41_4 : w28.cell? ⟨gb304, 4, none⟩ = some (.int .i64 ((rd_T53 s0_0 a1).f4)) := (blk_cell BK304.out 4).trans rfl
                              have hfz41_0 := blk_frozen BK304.out 0
                              have hfz41_1 := blk_frozen BK304.out 1
                              have hfz41_2 := blk_frozen BK304.out 2
                              have hfz41_3 := blk_frozen BK304.out 3
                              have hfz41_4 := blk_frozen BK304.out 4
                              have hnb42 := NB306_0.out
                              have hnc42 := NB0_306.out
                              have hcz43_0 : w28.cell? ⟨gb306, 0, none⟩ = some (.int .i64 0) := (blk_cell BK306.out 0).trans rfl
                              have hcz43_1 : w28.cell? ⟨gb306, 1, none⟩ = some (.int .i64 0) := (blk_cell BK306.out 1).trans rfl
                              have hcz43_2 : w28.cell? ⟨gb306, 2, none⟩ = some (.int .i64 0) := (blk_cell BK306.out 2).trans rfl
                              have hcz43_3 : w28.cell? ⟨gb306, 3, none⟩ = some (.string (⟨#[]⟩ : ByteArray)) := (blk_cell BK306.out 3).trans rfl
                              have hcz43_4 : w28.cell? ⟨gb306, 4, none⟩ = some (.int .i64 0) := (blk_cell BK306.out 4).trans rfl
                              have hfz43_0 := blk_frozen BK306.out 0
                              have hfz43_1 := blk_frozen BK306.out 1
                              have hfz43_2 := blk_frozen BK306.out 2
                              have hfz43_3 := blk_frozen BK306.out 3
                              have hfz43_4 := blk_frozen BK306.out 4
                              go_wp2
                              go_meet
                              case rel => exact ⟨_, (true), (by first | rfl | (simp; done) | (simp [*]; done)), H', ⟨by have := HJ3.out; have := HK2.out; first | omega | exact Nat.le_refl _⟩, ⟨by (with_reducible repeat (first | refine blk_drewN ?_ _ | refine blk_drew ?_ | refine blk_alloc ?_ _)); refine blk_far ?_ NB304_306.out _; (with_reducible repeat (first | refine blk_drewN ?_ _ | refine blk_drew ?_ | refine blk_alloc ?_ _)); refine blk_far ?_ NB304_306.out _; (with_reducible repeat (first | refine blk_drewN ?_ _ | refine blk_drew ?_ | refine blk_alloc ?_ _)); refine blk_far ?_ NB304_306.out _; (with_reducible repeat (first | refine blk_drewN ?_ _ | refine blk_drew ?_ | refine blk_alloc ?_ _)); refine blk_far ?_ NB304_306.out _; (with_reducible repeat (first | refine blk_drewN ?_ _ | refine blk_drew ?_ | refine blk_alloc ?_ _)); refine blk_far ?_ NB304_306.out _; (with_reducible repeat (first | refine blk_drewN ?_ _ | refine blk_drew ?_ | refine blk_alloc ?_ _)); exact BK304.out⟩, ⟨by (with_reducible repeat (first | refine blk_drewN ?_ _ | refine blk_drew ?_ | refine blk_alloc ?_ _)); refine blk_put (cs := #[.int .i64 ((rd_T53 s0_0 x8_2).f0), .int .i64 ((rd_T53 s0_0 x8_2).f1), .int .i64 ((rd_T53 s0_0 x8_2).f2), .string ((rd_T53 s0_0 x8_2).f3), .int .i64 0]) ?_ 4 _ rfl; (with_reducible repeat (first | refine blk_drewN ?_ _ | refine blk_drew ?_ | refine blk_alloc ?_ _)); refine blk_put (cs := #[.int .i64 ((rd_T53 s0_0 x8_2).f0), .int .i64 ((rd_T53 s0_0 x8_2).f1), .int .i64 ((rd_T53 s0_0 x8_2).f2), .string (⟨#[]⟩ : ByteArray), .int .i64 0]) ?_ 3 _ rfl; (with_reducible repeat (first | refine blk_drewN ?_ _ | refine blk_drew ?_ | refine blk_alloc ?_ _)); refine blk_put (cs := #[.int .i64 ((rd_T53 s0_0 x8_2).f0), .int .i64 ((rd_T53 s0_0 x8_2).f1), .int .i64 0, .string (⟨#[]⟩ : ByteArray), .int .i64 0]) ?_ 2 _ rfl; (with_reducible repeat (first | refine blk_drewN ?_ _ | refine blk_drew ?_ | refine blk_alloc ?_ _)); refine blk_put (cs := #[.int .i64 ((rd_T53 s0_0 x8_2).f0), .int .i64 0, .int .i64 0, .string (⟨#[]⟩ : ByteArray), .int .i64 0]) ?_ 1 _ rfl; (with_reducible repeat (first | refine blk_drewN ?_ _ | refine blk_drew ?_ | refine blk_alloc ?_ _)); refine blk_put (cs := #[.int .i64 0, .int .i64 0, .int .i64 0, .string (⟨#[]⟩ : ByteArray), .int .i64 0]) ?_ 0 _ rfl; (with_reducible repeat (first | refine blk_drewN ?_ _ | refine blk_drew ?_ | refine blk_alloc ?_ _)); exact BK306.out⟩, ⟨by repeat (first | (with_reducible first | exact HI0.out | apply TsS134.alloc | apply TsS134.drewN | apply TsS134.drew | apply TsS134.set_1 | refine TsS134.far ?_ NB0_304.out (arr_ne HLT.out GW304.out) _ | refine TsS134.far ?_ NB0_306.out (arr_ne HLT.out GW306.out) _) | exact HI0.out)⟩, ⟨by repeat (first | (with_reducible first | exact HK.out | apply KeepBut.set_ | apply keep_setR | apply keep_drewN | apply keep_drew | apply keep_allocR | refine keep_far ?_ GW304.out _ | refine keep_far ?_ GW306.out _) | exact HK.out)⟩, ⟨by repeat (first | (with_reducible first | exact HB.out | apply below_alloc | apply pw_below_drewN | apply below_drew1 | refine below_set ?_ (TsS134.ge HI0.out) | refine below_set ?_ (TsS134.ge1 HI0.out) | refine below_set ?_ GE304.out | refine below_set ?_ GE306.out) | exact HB.out)⟩⟩
                          · rw [if_neg c32] at H
                            have c32b0 : (((rd_T53 s0_0 a1).f0) == 9) = false := beq_eq_false_iff_ne.mpr c32
                            have c32b1 : (((rd_T53 s0_0 a1).f0) != 9) = true := bne_iff_ne.mpr c32
                            (first | rw [c32b0] | rw [c32b1] | (simp only [i64_w, i32_w]; rw [c32b0]) | skip)
                            have H' := Aside0.mk H
                            clear H
                            have hnb44 := NB304_306.out
                            have hnc44 := NB306_304.out
                            have hnb45 := NB304_0.out
                            have hnc45 := NB0_304.out
                            have hcz46_0 : w28.cell? ⟨gb304, 0, none⟩ = some (.int .i64 ((rd_T53 s0_0 a1).f0)) := (blk_cell BK304.out 0).trans rfl
                            have hcz46_1 : w28.cell? ⟨gb304, 1, none⟩ = some (.int .i64 ((rd_T53 s0_0 a1).f1)) := (blk_cell BK304.out 1).trans rfl
                            have hcz46_2 : w28.cell? ⟨gb304, 2, none⟩ = some (.int .i64 ((rd_T53 s0_0 a1).f2)) := (blk_cell BK304.out 2).trans rfl
                            have hcz46_3 : w28.cell? ⟨gb304, 3, none⟩ = some (.string ((rd_T53 s0_0 a1).f3)) := (blk_cell BK304.out 3).trans rfl
                            have hcz46_4 : w28.cell? ⟨gb304, 4, none⟩ = some (.int .i64 ((rd_T53 s0_0 a1).f4)) := (blk_cell BK304.out 4).trans rfl
                            have hfz46_0 := blk_frozen BK304.out 0
                            have hfz46_1 := blk_frozen BK304.out 1
                            have hfz46_2 := blk_frozen BK304.out 2
                            have hfz46_3 := blk_frozen BK304.out 3
                            have hfz46_4 := blk_frozen BK304.out 4
                            go_wp2
                            go_meet
                            case rel => exact ⟨_, (false), (by first | rfl | (simp; done) | (simp [*]; done)), H', ⟨by have := HJ3.out; have := HK2.out; first | omega | exact Nat.le_refl _⟩, ⟨by (with_reducible repeat (first | refine blk_drewN ?_ _ | refine blk_drew ?_ | refine blk_alloc ?_ _)); refine blk_far ?_ NB304_306.out _; (with_reducible repeat (first | refine blk_drewN ?_ _ | refine blk_drew ?_ | refine blk_alloc ?_ _)); refine blk_far ?_ NB304_306.out _; (with_reducible repeat (first | refine blk_drewN ?_ _ | refine blk_drew ?_ | refine blk_alloc ?_ _)); refine blk_far ?_ NB304_306.out _; (with_reducible repeat (first | refine blk_drewN ?_ _ | refine blk_drew ?_ | refine blk_alloc ?_ _)); refine blk_far ?_ NB304_306.out _; (with_reducible repeat (first | refine blk_drewN ?_ _ | refine blk_drew ?_ | refine blk_alloc ?_ _)); refine blk_far ?_ NB304_306.out _; (with_reducible repeat (first | refine blk_drewN ?_ _ | refine blk_drew ?_ | refine blk_alloc ?_ _)); exact BK304.out⟩, ⟨by (with_reducible repeat (first | refine blk_drewN ?_ _ | refine blk_drew ?_ | refine blk_alloc ?_ _)); refine blk_put (cs := #[.int .i64 ((rd_T53 s0_0 x8_2).f0), .int .i64 ((rd_T53 s0_0 x8_2).f1), .int .i64 ((rd_T53 s0_0 x8_2).f2), .string ((rd_T53 s0_0 x8_2).f3), .int .i64 0]) ?_ 4 _ rfl; (with_reducible repeat (first | refine blk_drewN ?_ _ | refine blk_drew ?_ | refine blk_alloc ?_ _)); refine blk_put (cs := #[.int .i64 ((rd_T53 s0_0 x8_2).f0), .int .i64 ((rd_T53 s0_0 x8_2).f1), .int .i64 ((rd_T53 s0_0 x8_2).f2), .string (⟨#[]⟩ : ByteArray), .int .i64 0]) ?_ 3 _ rfl; (with_reducible repeat (first | refine blk_drewN ?_ _ | refine blk_drew ?_ | refine blk_alloc ?_ _)); refine blk_put (cs := #[.int .i64 ((rd_T53 s0_0 x8_2).f0), .int .i64 ((rd_T53 s0_0 x8_2).f1), .int .i64 0, .string (⟨#[]⟩ : ByteArray), .int .i64 0]) ?_ 2 _ rfl; (with_reducible repeat (first | refine blk_drewN ?_ _ | refine blk_drew ?_ | refine blk_alloc ?_ _)); refine blk_put (cs := #[.int .i64 ((rd_T53 s0_0 x8_2).f0), .int .i64 0, .int .i64 0, .string (⟨#[]⟩ : ByteArray), .int .i64 0]) ?_ 1 _ rfl; (with_reducible repeat (first | refine blk_drewN ?_ _ | refine blk_drew ?_ | refine blk_alloc ?_ _)); refine blk_put (cs := #[.int .i64 0, .int .i64 0, .int .i64 0, .string (⟨#[]⟩ : ByteArray), .int .i64 0]) ?_ 0 _ rfl; (with_reducible repeat (first | refine blk_drewN ?_ _ | refine blk_drew ?_ | refine blk_alloc ?_ _)); exact BK306.out⟩, ⟨by repeat (first | (with_reducible first | exact HI0.out | apply TsS134.alloc | apply TsS134.drewN | apply TsS134.drew | apply TsS134.set_1 | refine TsS134.far ?_ NB0_304.out (arr_ne HLT.out GW304.out) _ | refine TsS134.far ?_ NB0_306.out (arr_ne HLT.out GW306.out) _) | exact HI0.out)⟩, ⟨by repeat (first | (with_reducible first | exact HK.out | apply KeepBut.set_ | apply keep_setR | apply keep_drewN | apply keep_drew | apply keep_allocR | refine keep_far ?_ GW304.out _ | refine keep_far ?_ GW306.out _) | exact HK.out)⟩, ⟨by repeat (first | (with_reducible first | exact HB.out | apply below_alloc | apply pw_below_drewN | apply below_drew1 | refine below_set ?_ (TsS134.ge HI0.out) | refine below_set ?_ (TsS134.ge1 HI0.out) | refine below_set ?_ GE304.out | refine below_set ?_ GE306.out) | exact HB.out)⟩⟩
                        case rest =>
                          clear HC26
                          try clear c1
                          try clear c2
                          try clear p2
                          try clear c3
                          try clear p3
                          try clear q3
                          try clear hx3
                          try clear c4
                          try clear c5
                          try clear c5b0
                          try clear p6
                          try clear c7
                          try clear c7b0
                          try clear c9
                          try clear c9b0
                          try clear c10
                          try clear c10b0
                          try clear c14
                          try clear c15
                          try clear c15b0
                          try clear c16
                          try clear c16b0
                          try clear c19
                          try clear c21
                          try clear c21b0
                          try clear c22
                          try clear c22b0
                          try clear c24
                          try clear c24b0
                          try clear c25
                          try clear c25b0
                          try clear c29
                          try clear c30
                          try clear p30
                          try clear q30
                          try clear hx30
                          try clear c32
                          try clear c32b0
                          try clear c32b1
                          try clear c33
                          try clear c33b0
                          try clear c33b1
                          try clear c34
                          try clear c35
                          try clear c37
                          try clear c39
                          try clear c40
                          try clear c42
                          try clear c44
                          try clear c45
                          try clear hcz12_0
                          try clear hcz12_1
                          try clear hcz17_0
                          try clear hcz17_1
                          try clear hcz20_0
                          try clear hcz20_1
                          try clear hcz20_2
                          try clear hcz20_3
                          try clear hcz20_4
                          try clear hcz23_0
                          try clear hcz23_1
                          try clear hcz27_0
                          try clear hcz27_1
                          try clear hcz31_0
                          try clear hcz31_1
                          try clear hcz31_2
                          try clear hcz31_3
                          try clear hcz31_4
                          try clear hcz36_0
                          try clear hcz36_1
                          try clear hcz36_2
                          try clear hcz36_3
                          try clear hcz36_4
                          try clear hcz38_0
                          try clear hcz38_1
                          try clear hcz38_2
                          try clear hcz38_3
                          try clear hcz38_4
                          try clear hcz41_0
                          try clear hcz41_1
                          try clear hcz41_2
                          try clear hcz41_3
                          try clear hcz41_4
                          try clear hcz43_0
                          try clear hcz43_1
                          try clear hcz43_2
                          try clear hcz43_3
                          try clear hcz43_4
                          try clear hcz46_0
                          try clear hcz46_1
                          try clear hcz46_2
                          try clear hcz46_3
                          try clear hcz46_4
                          try clear hcz6_0
                          try clear hcz6_1
                          try clear hcz8_0
                          try clear hcz8_1
                          try clear hfz12_1
                          try clear hfz17_1
                          try clear hfz20_0
                          try clear hfz20_1
                          try clear hfz20_2
                          try clear hfz20_3
                          try clear hfz20_4
                          try clear hfz23_1
                          try clear hfz27_1
                          try clear hfz31_0
                          try clear hfz31_1
                          try clear hfz31_2
                          try clear hfz31_3
                          try clear hfz31_4
                          try clear hfz36_0
                          try clear hfz36_1
                          try clear hfz36_2
                          try clear hfz36_3
                          try clear hfz36_4
                          try clear hfz38_0
                          try clear hfz38_1
                          try clear hfz38_2
                          try clear hfz38_3
                          try clear hfz38_4
                          try clear hfz41_0
                          try clear hfz41_1
                          try clear hfz41_2
                          try clear hfz41_3
                          try clear hfz41_4
                          try clear hfz43_0
                          try clear hfz43_1
                          try clear hfz43_2
                          try clear hfz43_3
                          try clear hfz43_4
                          try clear hfz46_0
                          try clear hfz46_1
                          try clear hfz46_2
                          try clear hfz46_3
                          try clear hfz46_4
                          try clear hfz6_1
                          try clear hfz8_1
                          try clear hx301_0
                          try clear hx301_1
                          try clear hx301_2
                          try clear hx301_3
                          try clear hx301_4
                          try clear hx303_0
                          try clear hx303_1
                          try clear hx303_2
                          try clear hx303_3
                          try clear hx303_4
                          try clear hx305_0
                          try clear hx305_1
                          try clear hx305_2
                          try clear hx305_3
                          try clear hx305_4
                          try clear p2
                          try clear p3
                          try clear p301
                          try clear p303
                          try clear p305
                          try clear p6
                          try clear q3
                          try clear q301
                          try clear q303
                          try clear q305
                          obtain ⟨kq, x74_25, rfl, HA, HJ25, BK304, BK306, HI0, HK, HB⟩ := hcut
                          cases kq with
                          | zero => exact absurd HA.out (by simp [impl_tree_measure.j2])
                          | succ kj25 =>
                            have H := HA.out
                            clear HA
                            simp only [impl_tree_measure.j2] at H
                            by_cases c47 : x74_25 = true
                            · subst c47
                              have H1 : (some ((-1), x1001_2)) = some (r1, r2) := by rw [if_pos rfl] at H; exact H
                              clear H
                              have H := H1
                              clear H1
                              simp only [Option.some.injEq, Prod.mk.injEq] at H
                              obtain ⟨rfl, rfl⟩ := H
                              go_wp2
                              go_ret
                              exact ⟨by first | rfl | (simp [errW_none, errW_some] <;> rfl) | (simp [*, errW_none, errW_some] <;> rfl), by repeat (first | (with_reducible first | exact HI0.out | apply TsS134.alloc | apply TsS134.drewN | apply TsS134.drew | apply TsS134.set_1 | refine TsS134.far ?_ NB0_304.out (arr_ne HLT.out GW304.out) _ | refine TsS134.far ?_ NB0_306.out (arr_ne HLT.out GW306.out) _) | exact HI0.out), by repeat (first | (with_reducible first | exact HB.out | apply below_alloc | apply pw_below_drewN | apply below_drew1 | refine below_set ?_ (TsS134.ge HI0.out) | refine below_set ?_ (TsS134.ge1 HI0.out) | refine below_set ?_ GE304.out | refine below_set ?_ GE306.out) | exact HB.out), by repeat (first | (with_reducible first | exact HK.out | apply KeepBut.set_ | apply keep_setR | apply keep_drewN | apply keep_drew | apply keep_allocR | refine keep_far ?_ GW304.out _ | refine keep_far ?_ GW306.out _) | exact HK.out)⟩
                            · replace c47 := Bool.eq_false_iff.mpr c47
                              subst c47
                              have H1 : (if ((rd_T53 s0_0 a1).f0) = 12 then ((impl_within.f ((rd_T53 s0_0 x8_2).f1) (wrap64 (x9_2 + 1)) 1000).bind fun t307 => (impl_tree_measure.j3 kj25 a1 a2 x8_2 ((rd_T53 s0_0 a1).f4) x44_2 (!t307) s0_0 x1001_2 ((rd_T53 s0_0 a1).f0) ((rd_T53 s0_0 a1).f1) ((rd_T53 s0_0 a1).f2) ((rd_T53 s0_0 a1).f3) ((rd_T53 s0_0 a1).f4) ((rd_T53 s0_0 x8_2).f0) ((rd_T53 s0_0 x8_2).f1) ((rd_T53 s0_0 x8_2).f2) ((rd_T53 s0_0 x8_2).f3) ((rd_T53 s0_0 x8_2).f4))) else (impl_tree_measure.j3 kj25 a1 a2 x8_2 ((rd_T53 s0_0 a1).f4) x44_2 false s0_0 x1001_2 ((rd_T53 s0_0 a1).f0) ((rd_T53 s0_0 a1).f1) ((rd_T53 s0_0 a1).f2) ((rd_T53 s0_0 a1).f3) ((rd_T53 s0_0 a1).f4) ((rd_T53 s0_0 x8_2).f0) ((rd_T53 s0_0 x8_2).f1) ((rd_T53 s0_0 x8_2).f2) ((rd_T53 s0_0 x8_2).f3) ((rd_T53 s0_0 x8_2).f4))) = some (r1, r2) := by rw [if_neg (show ¬ (false = true) by decide)] at H; exact H
                              clear H
                              have H := H1
                              clear H1
                              have HC48 := Aside0.mk H
                              clear H
                              go_upto_region 13 with (fail)
                              go_cut [85] (fun v85 wc => ∃ (kq : Nat) (x85_47 : Bool), v85 = .bool x85_47 ∧ Aside0 (impl_tree_measure.j3 kq a1 a2 x8_2 ((rd_T53 s0_0 a1).f4) x44_2 x85_47 s0_0 x1001_2 ((rd_T53 s0_0 a1).f0) ((rd_T53 s0_0 a1).f1) ((rd_T53 s0_0 a1).f2) ((rd_T53 s0_0 a1).f3) ((rd_T53 s0_0 a1).f4) ((rd_T53 s0_0 x8_2).f0) ((rd_T53 s0_0 x8_2).f1) ((rd_T53 s0_0 x8_2).f2) ((rd_T53 s0_0 x8_2).f3) ((rd_T53 s0_0 x8_2).f4) = some (r1, r2)) ∧ Aside0 (kq ≤ kj25) ∧ Aside0 (wc.heap[gb304]? = some (.cells #[.int .i64 ((rd_T53 s0_0 a1).f0), .int .i64 ((rd_T53 s0_0 a1).f1), .int .i64 ((rd_T53 s0_0 a1).f2), .string ((rd_T53 s0_0 a1).f3), .int .i64 ((rd_T53 s0_0 a1).f4)] 53 (0, 0))) ∧ Aside0 (wc.heap[gb306]? = some (.cells #[.int .i64 ((rd_T53 s0_0 x8_2).f0), .int .i64 ((rd_T53 s0_0 x8_2).f1), .int .i64 ((rd_T53 s0_0 x8_2).f2), .string ((rd_T53 s0_0 x8_2).f3), .int .i64 ((rd_T53 s0_0 x8_2).f4)] 53 (0, 0))) ∧ Aside0 (TsS134 w0 wc g s0_0 x1001_2) ∧ Aside0 (KeepBut w wc g (some (g - 1))) ∧ Aside0 (Below w0.heap.size w0 wc))
                              case first =>
                                have H := HC48.out
                                clear HC48
                                by_cases c49 : ((rd_T53 s0_0 a1).f0) = 12
                                · rw [if_pos c49] at H
                                  have c49b0 : (((rd_T53 s0_0 a1).f0) == 12) = true := beq_iff_eq.mpr c49
                                  have c49b1 : (((rd_T53 s0_0 a1).f0) != 12) = false := bne_eq_false_iff_eq.mpr c49
                                  clear c49
                                  (first | rw [c49b0] | rw [c49b1] | (simp only [i64_w, i32_w]; rw [c49b0]) | skip)
                                  replace H := Option.bind_eq_some_iff.mp H
                                  obtain ⟨t307, A500, H⟩ := H
                                  replace H : (impl_tree_measure.j3 kj25 a1 a2 x8_2 ((rd_T53 s0_0 a1).f4) x44_2 (!t307) s0_0 x1001_2 ((rd_T53 s0_0 a1).f0) ((rd_T53 s0_0 a1).f1) ((rd_T53 s0_0 a1).f2) ((rd_T53 s0_0 a1).f3) ((rd_T53 s0_0 a1).f4) ((rd_T53 s0_0 x8_2).f0) ((rd_T53 s0_0 x8_2).f1) ((rd_T53 s0_0 x8_2).f2) ((rd_T53 s0_0 x8_2).f3) ((rd_T53 s0_0 x8_2).f4)) = some (r1, r2) := H
                                  have A50 := Aside0.mk A500
                                  clear A500
                                  have H' := Aside0.mk H
                                  clear H
                                  have hnb51 := NB304_306.out
                                  have hnc51 := NB306_304.out
                                  have hnb52 := NB304_0.out
                                  have hnc52 := NB0_304.out
                                  have hcz53_0 : wc.cell? ⟨gb304, 0, none⟩ = some (.int .i64 ((rd_T53 s0_0 a1).f0)) := (blk_cell BK304.out 0).trans rfl
                                  have hcz53_1 : wc.cell? ⟨gb304, 1, none⟩ = some (.int .i64 ((rd_T53 s0_0 a1).f1)) := (blk_cell BK304.out 1).trans rfl
                                  have hcz53_2 : wc.cell? ⟨gb304, 2, none⟩ = some (.int .i64 ((rd_T53 s0_0 a1).f2)) := (blk_cell BK304.out 2).trans rfl
                                  have hcz53_3 : wc.cell? ⟨gb304, 3, none⟩ = some (.string ((rd_T53 s0_0 a1).f3)) := (blk_cell BK304.out 3).trans rfl
                                  have hcz53_4 : wc.cell? ⟨gb304, 4, none⟩ = some (.int .i64 ((rd_T53 s0_0 a1).f4)) := (blk_cell BK304.out 4).trans rfl
                                  have hfz53_0 := blk_frozen BK304.out 0
                                  have hfz53_1 := blk_frozen BK304.out 1
                                  have hfz53_2 := blk_frozen BK304.out 2
                                  have hfz53_3 := blk_frozen BK304.out 3
                                  have hfz53_4 := blk_frozen BK304.out 4
                                  have hnb54 := NB306_0.out
                                  have hnc54 := NB0_306.out
                                  have hcz55_0 : wc.cell? ⟨gb306, 0, none⟩ = some (.int .i64 ((rd_T53 s0_0 x8_2).f0)) := (blk_cell BK306.out 0).trans rfl
                                  have hcz55_1 : wc.cell? ⟨gb306, 1, none⟩ = some (.int .i64 ((rd_T53 s0_0 x8_2).f1)) := (blk_cell BK306.out 1).trans rfl
                                  have hcz55_2 : wc.cell? ⟨gb306, 2, none⟩ = some (.int .i64 ((rd_T53 s0_0 x8_2).f2)) := (blk_cell BK306.out 2).trans rfl
                                  have hcz55_3 : wc.cell? ⟨gb306, 3, none⟩ = some (.string ((rd_T53 s0_0 x8_2).f3)) := (blk_cell BK306.out 3).trans rfl
                                  have hcz55_4 : wc.cell? ⟨gb306, 4, none⟩ = some (.int .i64 ((rd_T53 s0_0 x8_2).f4)) := (blk_cell BK306.out 4).trans rfl
                                  have hfz55_0 := blk_frozen BK306.out 0
                                  have hfz55_1 := blk_frozen BK306.out 1
                                  have hfz55_2 := blk_frozen BK306.out 2
                                  have hfz55_3 := blk_frozen BK306.out 3
                                  have hfz55_4 := blk_frozen BK306.out 4
                                  go_wp2_with (first | (go_at_call 76; (with_reducible refine (impl_within.calls ((rd_T53 s0_0 x8_2).f1) (wrap64 (x9_2 + 1)) 1000 t307 _ A50.out).mono ?_); rintro e w' ⟨rfl, ⟨nd, rfl⟩⟩))
                                  go_meet
                                  case rel => exact ⟨_, (!t307), (by first | rfl | (simp; done) | (simp [*]; done)), H', ⟨by have := HJ3.out; have := HK2.out; have := HJ25.out; first | omega | exact Nat.le_refl _⟩, ⟨by (with_reducible repeat (first | refine blk_drewN ?_ _ | refine blk_drew ?_ | refine blk_alloc ?_ _)); exact BK304.out⟩, ⟨by (with_reducible repeat (first | refine blk_drewN ?_ _ | refine blk_drew ?_ | refine blk_alloc ?_ _)); exact BK306.out⟩, ⟨by repeat (first | (with_reducible first | exact HI0.out | apply TsS134.alloc | apply TsS134.drewN | apply TsS134.drew | apply TsS134.set_1 | refine TsS134.far ?_ NB0_304.out (arr_ne HLT.out GW304.out) _ | refine TsS134.far ?_ NB0_306.out (arr_ne HLT.out GW306.out) _) | exact HI0.out)⟩, ⟨by repeat (first | (with_reducible first | exact HK.out | apply KeepBut.set_ | apply keep_setR | apply keep_drewN | apply keep_drew | apply keep_allocR | refine keep_far ?_ GW304.out _ | refine keep_far ?_ GW306.out _) | exact HK.out)⟩, ⟨by repeat (first | (with_reducible first | exact HB.out | apply below_alloc | apply pw_below_drewN | apply below_drew1 | refine below_set ?_ (TsS134.ge HI0.out) | refine below_set ?_ (TsS134.ge1 HI0.out) | refine below_set ?_ GE304.out | refine below_set ?_ GE306.out) | exact HB.out)⟩⟩
                                · rw [if_neg c49] at H
                                  have c49b0 : (((rd_T53 s0_0 a1).f0) == 12) = false := beq_eq_false_iff_ne.mpr c49
                                  have c49b1 : (((rd_T53 s0_0 a1).f0) != 12) = true := bne_iff_ne.mpr c49
                                  (first | rw [c49b0] | rw [c49b1] | (simp only [i64_w, i32_w]; rw [c49b0]) | skip)
                                  have H' := Aside0.mk H
                                  clear H
                                  have hnb56 := NB304_306.out
                                  have hnc56 := NB306_304.out
                                  have hnb57 := NB304_0.out
                                  have hnc57 := NB0_304.out
                                  have hcz58_0 : wc.cell? ⟨gb304, 0, none⟩ = some (.int .i64 ((rd_T53 s0_0 a1).f0)) := (blk_cell BK304.out 0).trans rfl
                                  have hcz58_1 : wc.cell? ⟨gb304, 1, none⟩ = some (.int .i64 ((rd_T53 s0_0 a1).f1)) := (blk_cell BK304.out 1).trans rfl
                                  have hcz58_2 : wc.cell? ⟨gb304, 2, none⟩ = some (.int .i64 ((rd_T53 s0_0 a1).f2)) := (blk_cell BK304.out 2).trans rfl
                                  have hcz58_3 : wc.cell? ⟨gb304, 3, none⟩ = some (.string ((rd_T53 s0_0 a1).f3)) := (blk_cell BK304.out 3).trans rfl
                                  have hcz58_4 : wc.cell? ⟨gb304, 4, none⟩ = some (.int .i64 ((rd_T53 s0_0 a1).f4)) := (blk_cell BK304.out 4).trans rfl
                                  have hfz58_0 := blk_frozen BK304.out 0
                                  have hfz58_1 := blk_frozen BK304.out 1
                                  have hfz58_2 := blk_frozen BK304.out 2
                                  have hfz58_3 := blk_frozen BK304.out 3
                                  have hfz58_4 := blk_frozen BK304.out 4
                                  go_wp2
                                  go_meet
                                  case rel => exact ⟨_, (false), (by first | rfl | (simp; done) | (simp [*]; done)), H', ⟨by have := HJ3.out; have := HK2.out; have := HJ25.out; first | omega | exact Nat.le_refl _⟩, ⟨by (with_reducible repeat (first | refine blk_drewN ?_ _ | refine blk_drew ?_ | refine blk_alloc ?_ _)); exact BK304.out⟩, ⟨by (with_reducible repeat (first | refine blk_drewN ?_ _ | refine blk_drew ?_ | refine blk_alloc ?_ _)); exact BK306.out⟩, ⟨by repeat (first | (with_reducible first | exact HI0.out | apply TsS134.alloc | apply TsS134.drewN | apply TsS134.drew | apply TsS134.set_1 | refine TsS134.far ?_ NB0_304.out (arr_ne HLT.out GW304.out) _ | refine TsS134.far ?_ NB0_306.out (arr_ne HLT.out GW306.out) _) | exact HI0.out)⟩, ⟨by repeat (first | (with_reducible first | exact HK.out | apply KeepBut.set_ | apply keep_setR | apply keep_drewN | apply keep_drew | apply keep_allocR | refine keep_far ?_ GW304.out _ | refine keep_far ?_ GW306.out _) | exact HK.out)⟩, ⟨by repeat (first | (with_reducible first | exact HB.out | apply below_alloc | apply pw_below_drewN | apply below_drew1 | refine below_set ?_ (TsS134.ge HI0.out) | refine below_set ?_ (TsS134.ge1 HI0.out) | refine below_set ?_ GE304.out | refine below_set ?_ GE306.out) | exact HB.out)⟩⟩
                              case rest =>
                                clear HC48
                                try clear c1
                                try clear c2
                                try clear p2
                                try clear c3
                                try clear p3
                                try clear q3
                                try clear hx3
                                try clear c4
                                try clear c5
                                try clear c5b0
                                try clear p6
                                try clear c7
                                try clear c7b0
                                try clear c9
                                try clear c9b0
                                try clear c10
                                try clear c10b0
                                try clear c14
                                try clear c15
                                try clear c15b0
                                try clear c16
                                try clear c16b0
                                try clear c19
                                try clear c21
                                try clear c21b0
                                try clear c22
                                try clear c22b0
                                try clear c24
                                try clear c24b0
                                try clear c25
                                try clear c25b0
                                try clear c29
                                try clear c30
                                try clear p30
                                try clear q30
                                try clear hx30
                                try clear c32
                                try clear c32b0
                                try clear c32b1
                                try clear c33
                                try clear c33b0
                                try clear c33b1
                                try clear c34
                                try clear c35
                                try clear c37
                                try clear c39
                                try clear c40
                                try clear c42
                                try clear c44
                                try clear c45
                                try clear c47
                                try clear c49
                                try clear c49b0
                                try clear c49b1
                                try clear c51
                                try clear c52
                                try clear c54
                                try clear c56
                                try clear c57
                                try clear hcz12_0
                                try clear hcz12_1
                                try clear hcz17_0
                                try clear hcz17_1
                                try clear hcz20_0
                                try clear hcz20_1
                                try clear hcz20_2
                                try clear hcz20_3
                                try clear hcz20_4
                                try clear hcz23_0
                                try clear hcz23_1
                                try clear hcz27_0
                                try clear hcz27_1
                                try clear hcz31_0
                                try clear hcz31_1
                                try clear hcz31_2
                                try clear hcz31_3
                                try clear hcz31_4
                                try clear hcz36_0
                                try clear hcz36_1
                                try clear hcz36_2
                                try clear hcz36_3
                                try clear hcz36_4
                                try clear hcz38_0
                                try clear hcz38_1
                                try clear hcz38_2
                                try clear hcz38_3
                                try clear hcz38_4
                                try clear hcz41_0
                                try clear hcz41_1
                                try clear hcz41_2
                                try clear hcz41_3
                                try clear hcz41_4
                                try clear hcz43_0
                                try clear hcz43_1
                                try clear hcz43_2
                                try clear hcz43_3
                                try clear hcz43_4
                                try clear hcz46_0
                                try clear hcz46_1
                                try clear hcz46_2
                                try clear hcz46_3
                                try clear hcz46_4
                                try clear hcz53_0
                                try clear hcz53_1
                                try clear hcz53_2
                                try clear hcz53_3
                                try clear hcz53_4
                                try clear hcz55_0
                                try clear hcz55_1
                                try clear hcz55_2
                                try clear hcz55_3
                                try clear hcz55_4
                                try clear hcz58_0
                                try clear hcz58_1
                                try clear hcz58_2
                                try clear hcz58_3
                                try clear hcz58_4
                                try clear hcz6_0
                                try clear hcz6_1
                                try clear hcz8_0
                                try clear hcz8_1
                                try clear hfz12_1
                                try clear hfz17_1
                                try clear hfz20_0
                                try clear hfz20_1
                                try clear hfz20_2
                                try clear hfz20_3
                                try clear hfz20_4
                                try clear hfz23_1
                                try clear hfz27_1
                                try clear hfz31_0
                                try clear hfz31_1
                                try clear hfz31_2
                                try clear hfz31_3
                                try clear hfz31_4
                                try clear hfz36_0
                                try clear hfz36_1
                                try clear hfz36_2
                                try clear hfz36_3
                                try clear hfz36_4
                                try clear hfz38_0
                                try clear hfz38_1
                                try clear hfz38_2
                                try clear hfz38_3
                                try clear hfz38_4
                                try clear hfz41_0
                                try clear hfz41_1
                                try clear hfz41_2
                                try clear hfz41_3
                                try clear hfz41_4
                                try clear hfz43_0
                                try clear hfz43_1
                                try clear hfz43_2
                                try clear hfz43_3
                                try clear hfz43_4
                                try clear hfz46_0
                                try clear hfz46_1
                                try clear hfz46_2
                                try clear hfz46_3
                                try clear hfz46_4
                                try clear hfz53_0
                                try clear hfz53_1
                                try clear hfz53_2
                                try clear hfz53_3
                                try clear hfz53_4
                                try clear hfz55_0
                                try clear hfz55_1
                                try clear hfz55_2
                                try clear hfz55_3
                                try clear hfz55_4
                                try clear hfz58_0
                                try clear hfz58_1
                                try clear hfz58_2
                                try clear hfz58_3
                                try clear hfz58_4
                                try clear hfz6_1
                                try clear hfz8_1
                                try clear hx301_0
                                try clear hx301_1
                                try clear hx301_2
                                try clear hx301_3
                                try clear hx301_4
                                try clear hx303_0
                                try clear hx303_1
                                try clear hx303_2
                                try clear hx303_3
                                try clear hx303_4
                                try clear hx305_0
                                try clear hx305_1
                                try clear hx305_2
                                try clear hx305_3
                                try clear hx305_4
                                try clear p2
                                try clear p3
                                try clear p30
                                try clear p301
                                try clear p303
                                try clear p305
                                try clear p6
                                try clear q3
                                try clear q30
                                try clear q301
                                try clear q303
                                try clear q305
                                obtain ⟨kq, x85_47, rfl, HA, HJ47, BK304, BK306, HI0, HK, HB⟩ := hcut
                                cases kq with
                                | zero => exact absurd HA.out (by simp [impl_tree_measure.j3])
                                | succ kj47 =>
                                  have H := HA.out
                                  clear HA
                                  simp only [impl_tree_measure.j3] at H
                                  by_cases c59 : x85_47 = true
                                  · subst c59
                                    have H1 : (some ((-1), x1001_2)) = some (r1, r2) := by rw [if_pos rfl] at H; exact H
                                    clear H
                                    have H := H1
                                    clear H1
                                    simp only [Option.some.injEq, Prod.mk.injEq] at H
                                    obtain ⟨rfl, rfl⟩ := H
                                    go_wp2
                                    go_ret
                                    exact ⟨by first | rfl | (simp [errW_none, errW_some] <;> rfl) | (simp [*, errW_none, errW_some] <;> rfl), by repeat (first | (with_reducible first | exact HI0.out | apply TsS134.alloc | apply TsS134.drewN | apply TsS134.drew | apply TsS134.set_1 | refine TsS134.far ?_ NB0_304.out (arr_ne HLT.out GW304.out) _ | refine TsS134.far ?_ NB0_306.out (arr_ne HLT.out GW306.out) _) | exact HI0.out), by repeat (first | (with_reducible first | exact HB.out | apply below_alloc | apply pw_below_drewN | apply below_drew1 | refine below_set ?_ (TsS134.ge HI0.out) | refine below_set ?_ (TsS134.ge1 HI0.out) | refine below_set ?_ GE304.out | refine below_set ?_ GE306.out) | exact HB.out), by repeat (first | (with_reducible first | exact HK.out | apply KeepBut.set_ | apply keep_setR | apply keep_drewN | apply keep_drew | apply keep_allocR | refine keep_far ?_ GW304.out _ | refine keep_far ?_ GW306.out _) | exact HK.out)⟩
                                  · replace c59 := Bool.eq_false_iff.mpr c59
                                    subst c59
                                    have H1 : ((impl_tree_measure.f kj47 s0_0 x1001_2 x8_2 (wrap64 (a2 + 1))).bind fun bt308 => (if bt308.1 < 0 then (some ((-1), bt308.2)) else (impl_tree_measure.l0 kj47 a1 a2 bt308.1 ((rd_T53 s0_0 x8_2).f1) ((rd_T53 s0_0 a1).f4) (wrap64 (x44_2 + 1)) s0_0 bt308.2 ((rd_T53 s0_0 a1).f0) ((rd_T53 s0_0 a1).f1) ((rd_T53 s0_0 a1).f2) ((rd_T53 s0_0 a1).f3) ((rd_T53 s0_0 a1).f4)))) = some (r1, r2) := by rw [if_neg (show ¬ (false = true) by decide)] at H; exact H
                                    clear H
                                    have H := H1
                                    clear H1
                                    replace H := Option.bind_eq_some_iff.mp H
                                    obtain ⟨⟨t308, t309⟩, A600, H⟩ := H
                                    replace H : (if t308 < 0 then (some ((-1), t309)) else (impl_tree_measure.l0 kj47 a1 a2 t308 ((rd_T53 s0_0 x8_2).f1) ((rd_T53 s0_0 a1).f4) (wrap64 (x44_2 + 1)) s0_0 t309 ((rd_T53 s0_0 a1).f0) ((rd_T53 s0_0 a1).f1) ((rd_T53 s0_0 a1).f2) ((rd_T53 s0_0 a1).f3) ((rd_T53 s0_0 a1).f4))) = some (r1, r2) := H
                                    have A60 := Aside0.mk A600
                                    clear A600
                                    by_cases c61 : t308 < 0
                                    · rw [if_pos c61] at H
                                      have c61b0 : decide (t308 < 0) = true := decide_eq_true c61
                                      clear c61
                                      simp only [Option.some.injEq, Prod.mk.injEq] at H
                                      obtain ⟨rfl, rfl⟩ := H
                                      have hnb62 := NB306_304.out
                                      have hnc62 := NB304_306.out
                                      have hnb63 := NB306_0.out
                                      have hnc63 := NB0_306.out
                                      have hcz64_0 : wc.cell? ⟨gb306, 0, none⟩ = some (.int .i64 ((rd_T53 s0_0 x8_2).f0)) := (blk_cell BK306.out 0).trans rfl
                                      have hcz64_1 : wc.cell? ⟨gb306, 1, none⟩ = some (.int .i64 ((rd_T53 s0_0 x8_2).f1)) := (blk_cell BK306.out 1).trans rfl
                                      have hcz64_2 : wc.cell? ⟨gb306, 2, none⟩ = some (.int .i64 ((rd_T53 s0_0 x8_2).f2)) := (blk_cell BK306.out 2).trans rfl
                                      have hcz64_3 : wc.cell? ⟨gb306, 3, none⟩ = some (.string ((rd_T53 s0_0 x8_2).f3)) := (blk_cell BK306.out 3).trans rfl
                                      have hcz64_4 : wc.cell? ⟨gb306, 4, none⟩ = some (.int .i64 ((rd_T53 s0_0 x8_2).f4)) := (blk_cell BK306.out 4).trans rfl
                                      have hfz64_0 := blk_frozen BK306.out 0
                                      have hfz64_1 := blk_frozen BK306.out 1
                                      have hfz64_2 := blk_frozen BK306.out 2
                                      have hfz64_3 := blk_frozen BK306.out 3
                                      have hfz64_4 := blk_frozen BK306.out 4
                                      go_wp2_with (first | ((with_reducible refine gate_callee (f := 163) rfl ?_); refine goesL_ (some 92) rfl rfl Try.func163 (by kernel_rfl) rfl #[.pointer (some ⟨g, 0, none⟩), .int .i64 x8_2, .int .i64 (wrap64 (a2 + 1))] rfl (by (try simp only [List.map_toArray, List.map_cons, List.map_nil]); first | done | rfl | (simp only [List.length_drop, List.length_take]; rfl)) ?_; (with_reducible refine (ih kj47 (by have := HJ3.out; have := HK2.out; have := HJ25.out; have := HJ47.out; omega) g s0_0 x1001_2 x8_2 (wrap64 (a2 + 1)) t308 t309 w0 _ ?side1 ?side2 A60.out).mono ?_); (case side1 => repeat (first | (with_reducible first | exact HI0.out | apply TsS134.alloc | apply TsS134.drewN | apply TsS134.drew | apply TsS134.set_1 | refine TsS134.far ?_ NB0_304.out (arr_ne HLT.out GW304.out) _ | refine TsS134.far ?_ NB0_306.out (arr_ne HLT.out GW306.out) _) | exact HI0.out)); (case side2 => repeat (first | (with_reducible first | exact HB.out | apply below_alloc | apply pw_below_drewN | apply below_drew1 | refine below_set ?_ (TsS134.ge HI0.out) | refine below_set ?_ (TsS134.ge1 HI0.out) | refine below_set ?_ GE304.out | refine below_set ?_ GE306.out) | exact HB.out)); rintro e w65 ⟨rfl, hi, hb, hk⟩; refine ⟨_, rfl, ?_⟩; have n0_ := Aside0.mk (KeepBut.blk hk (g' := gb304) (o := .cells #[.int .i64 ((rd_T53 s0_0 a1).f0), .int .i64 ((rd_T53 s0_0 a1).f1), .int .i64 ((rd_T53 s0_0 a1).f2), .string ((rd_T53 s0_0 a1).f3), .int .i64 ((rd_T53 s0_0 a1).f4)] 53 (0, 0)) (by (with_reducible repeat (first | refine blk_drewN ?_ _ | refine blk_drew ?_ | refine blk_alloc ?_ _)); exact BK304.out) NB304_0.out (arr_neS HLT.out GW304.out)); have n1_ := Aside0.mk (KeepBut.blk hk (g' := gb306) (o := .cells #[.int .i64 ((rd_T53 s0_0 x8_2).f0), .int .i64 ((rd_T53 s0_0 x8_2).f1), .int .i64 ((rd_T53 s0_0 x8_2).f2), .string ((rd_T53 s0_0 x8_2).f3), .int .i64 ((rd_T53 s0_0 x8_2).f4)] 53 (0, 0)) (by (with_reducible repeat (first | refine blk_drewN ?_ _ | refine blk_drew ?_ | refine blk_alloc ?_ _)); exact BK306.out) NB306_0.out (arr_neS HLT.out GW306.out)); have n2_ := Aside0.mk (KeepBut.trans (by repeat (first | (with_reducible first | exact HK.out | apply KeepBut.set_ | apply keep_setR | apply keep_drewN | apply keep_drew | apply keep_allocR | refine keep_far ?_ GW304.out _ | refine keep_far ?_ GW306.out _) | exact HK.out)) hk (.inl rfl)); have n3_ := Aside0.mk (hb); have n4_ := Aside0.mk (hi); clear BK304; clear BK306; clear HK; clear HB; clear HI0; have BK304 := n0_; have BK306 := n1_; have HK := n2_; have HB := n3_; have HI0 := n4_; clear n0_ n1_ n2_ n3_ n4_; (try clear hb); (try clear hb2); (try clear hk); (try clear hi)))
                                      go_ret
                                      exact ⟨by first | rfl | (simp [errW_none, errW_some] <;> rfl) | (simp [*, errW_none, errW_some] <;> rfl), by repeat (first | (with_reducible first | exact HI0.out | apply TsS134.alloc | apply TsS134.drewN | apply TsS134.drew | apply TsS134.set_1 | refine TsS134.far ?_ NB0_304.out (arr_ne HLT.out GW304.out) _ | refine TsS134.far ?_ NB0_306.out (arr_ne HLT.out GW306.out) _) | exact HI0.out), by repeat (first | (with_reducible first | exact HB.out | apply below_alloc | apply pw_below_drewN | apply below_drew1 | refine below_set ?_ (TsS134.ge HI0.out) | refine below_set ?_ (TsS134.ge1 HI0.out) | refine below_set ?_ GE304.out | refine below_set ?_ GE306.out) | exact HB.out), by repeat (first | (with_reducible first | exact HK.out | apply KeepBut.set_ | apply keep_setR | apply keep_drewN | apply keep_drew | apply keep_allocR | refine keep_far ?_ GW304.out _ | refine keep_far ?_ GW306.out _) | exact HK.out)⟩
                                    · rw [if_neg c61] at H
                                      have c61b0 : decide (t308 < 0) = false := decide_eq_false c61
                                      clear c61
                                      have H' := Aside0.mk H
                                      clear H
                                      have hnb66 := NB306_304.out
                                      have hnc66 := NB304_306.out
                                      have hnb67 := NB306_0.out
                                      have hnc67 := NB0_306.out
                                      have hcz68_0 : wc.cell? ⟨gb306, 0, none⟩ = some (.int .i64 ((rd_T53 s0_0 x8_2).f0)) := (blk_cell BK306.out 0).trans rfl
                                      have hcz68_1 : wc.cell? ⟨gb306, 1, none⟩ = some (.int .i64 ((rd_T53 s0_0 x8_2).f1)) := (blk_cell BK306.out 1).trans rfl
                                      have hcz68_2 : wc.cell? ⟨gb306, 2, none⟩ = some (.int .i64 ((rd_T53 s0_0 x8_2).f2)) := (blk_cell BK306.out 2).trans rfl
                                      have hcz68_3 : wc.cell? ⟨gb306, 3, none⟩ = some (.string ((rd_T53 s0_0 x8_2).f3)) := (blk_cell BK306.out 3).trans rfl
                                      have hcz68_4 : wc.cell? ⟨gb306, 4, none⟩ = some (.int .i64 ((rd_T53 s0_0 x8_2).f4)) := (blk_cell BK306.out 4).trans rfl
                                      have hfz68_0 := blk_frozen BK306.out 0
                                      have hfz68_1 := blk_frozen BK306.out 1
                                      have hfz68_2 := blk_frozen BK306.out 2
                                      have hfz68_3 := blk_frozen BK306.out 3
                                      have hfz68_4 := blk_frozen BK306.out 4
                                      go_wp2_with (first | ((with_reducible refine gate_callee (f := 163) rfl ?_); refine goesL_ (some 92) rfl rfl Try.func163 (by kernel_rfl) rfl #[.pointer (some ⟨g, 0, none⟩), .int .i64 x8_2, .int .i64 (wrap64 (a2 + 1))] rfl (by (try simp only [List.map_toArray, List.map_cons, List.map_nil]); first | done | rfl | (simp only [List.length_drop, List.length_take]; rfl)) ?_; (with_reducible refine (ih kj47 (by have := HJ3.out; have := HK2.out; have := HJ25.out; have := HJ47.out; omega) g s0_0 x1001_2 x8_2 (wrap64 (a2 + 1)) t308 t309 w0 _ ?side1 ?side2 A60.out).mono ?_); (case side1 => repeat (first | (with_reducible first | exact HI0.out | apply TsS134.alloc | apply TsS134.drewN | apply TsS134.drew | apply TsS134.set_1 | refine TsS134.far ?_ NB0_304.out (arr_ne HLT.out GW304.out) _ | refine TsS134.far ?_ NB0_306.out (arr_ne HLT.out GW306.out) _) | exact HI0.out)); (case side2 => repeat (first | (with_reducible first | exact HB.out | apply below_alloc | apply pw_below_drewN | apply below_drew1 | refine below_set ?_ (TsS134.ge HI0.out) | refine below_set ?_ (TsS134.ge1 HI0.out) | refine below_set ?_ GE304.out | refine below_set ?_ GE306.out) | exact HB.out)); rintro e w69 ⟨rfl, hi, hb, hk⟩; refine ⟨_, rfl, ?_⟩; have n0_ := Aside0.mk (KeepBut.blk hk (g' := gb304) (o := .cells #[.int .i64 ((rd_T53 s0_0 a1).f0), .int .i64 ((rd_T53 s0_0 a1).f1), .int .i64 ((rd_T53 s0_0 a1).f2), .string ((rd_T53 s0_0 a1).f3), .int .i64 ((rd_T53 s0_0 a1).f4)] 53 (0, 0)) (by (with_reducible repeat (first | refine blk_drewN ?_ _ | refine blk_drew ?_ | refine blk_alloc ?_ _)); exact BK304.out) NB304_0.out (arr_neS HLT.out GW304.out)); have n1_ := Aside0.mk (KeepBut.blk hk (g' := gb306) (o := .cells #[.int .i64 ((rd_T53 s0_0 x8_2).f0), .int .i64 ((rd_T53 s0_0 x8_2).f1), .int .i64 ((rd_T53 s0_0 x8_2).f2), .string ((rd_T53 s0_0 x8_2).f3), .int .i64 ((rd_T53 s0_0 x8_2).f4)] 53 (0, 0)) (by (with_reducible repeat (first | refine blk_drewN ?_ _ | refine blk_drew ?_ | refine blk_alloc ?_ _)); exact BK306.out) NB306_0.out (arr_neS HLT.out GW306.out)); have n2_ := Aside0.mk (KeepBut.trans (by repeat (first | (with_reducible first | exact HK.out | apply KeepBut.set_ | apply keep_setR | apply keep_drewN | apply keep_drew | apply keep_allocR | refine keep_far ?_ GW304.out _ | refine keep_far ?_ GW306.out _) | exact HK.out)) hk (.inl rfl)); have n3_ := Aside0.mk (hb); have n4_ := Aside0.mk (hi); clear BK304; clear BK306; clear HK; clear HB; clear HI0; have BK304 := n0_; have BK306 := n1_; have HK := n2_; have HB := n3_; have HI0 := n4_; clear n0_ n1_ n2_ n3_ n4_; (try clear hb); (try clear hb2); (try clear hk); (try clear hi)))
                                      go_roundg kj47
                                      case measure => have := HJ3.out; have := HK2.out; have := HJ25.out; have := HJ47.out; omega
                                      case rel => exact ⟨(t308), (((rd_T53 s0_0 x8_2).f1)), (wrap64 (x44_2 + 1)), (t309), (by first | rfl | (simp; done) | (simp [*]; done)), (by first | rfl | (simp; done) | (simp [*]; done)), (by first | rfl | (simp; done) | (simp [*]; done)), H', ⟨by have := HJ3.out; have := HK2.out; have := HJ25.out; have := HJ47.out; omega⟩, ⟨by (with_reducible repeat (first | refine blk_drewN ?_ _ | refine blk_drew ?_ | refine blk_alloc ?_ _)); exact BK304.out⟩, ⟨by repeat (first | (with_reducible first | exact HI0.out | apply TsS134.alloc | apply TsS134.drewN | apply TsS134.drew | apply TsS134.set_1 | refine TsS134.far ?_ NB0_304.out (arr_ne HLT.out GW304.out) _ | refine TsS134.far ?_ NB0_306.out (arr_ne HLT.out GW306.out) _) | exact HI0.out)⟩, ⟨by repeat (first | (with_reducible first | exact HK.out | apply KeepBut.set_ | apply keep_setR | apply keep_drewN | apply keep_drew | apply keep_allocR | refine keep_far ?_ GW304.out _ | refine keep_far ?_ GW306.out _) | exact HK.out)⟩, ⟨by repeat (first | (with_reducible first | exact HB.out | apply below_alloc | apply pw_below_drewN | apply below_drew1 | refine below_set ?_ (TsS134.ge HI0.out) | refine below_set ?_ (TsS134.ge1 HI0.out) | refine below_set ?_ GE304.out | refine below_set ?_ GE306.out) | exact HB.out)⟩⟩
                      · rw [if_neg c25] at H
                        exact absurd H (by simp)
                    · rw [if_neg c24] at H
                      exact absurd H (by simp)
                · rw [if_neg c21] at H
                  have c21b0 : decide (x44_2 < ((rd_T53 s0_0 a1).f4)) = false := decide_eq_false c21
                  clear c21
                  by_cases c70 : 0 ≤ a1
                  · rw [if_pos c70] at H
                    have c70b0 : decide (0 ≤ a1) = true := decide_eq_true c70
                    clear c70
                    by_cases c71 : a1 < (x1001_2.length : Int)
                    · rw [if_pos c71] at H
                      have c71b0 : decide (a1 < (x1001_2.length : Int)) = true := decide_eq_true c71
                      clear c71
                      simp only [Option.some.injEq, Prod.mk.injEq] at H
                      obtain ⟨rfl, rfl⟩ := H
                      obtain ⟨ASz73_0, cSz73_0, HGz73, hgz73, HSz73_0⟩ := HI0.out
                      have hcz73_0 := cellT134_0 HGz73
                      have hcz73_1 := cellT134_1 HGz73
                      have hfz73_1 := blk_frozen HGz73 1
                      clear HGz73 hgz73
                      have pa72 : 0 ≤ (a1 : Int) := of_decide_eq_true (by first | (with_reducible assumption) | assumption)
                      have qa72 : a1 < (x1001_2.length : Int) := of_decide_eq_true (by first | (with_reducible assumption) | assumption)
                      have hxa72 := TsS134.acell (by repeat (first | (with_reducible first | exact HI0.out | apply TsS134.alloc | apply TsS134.drewN | apply TsS134.drew | apply TsS134.set_1 | refine TsS134.far ?_ NB0_304.out (arr_ne HLT.out GW304.out) _) | exact HI0.out)) pa72 qa72
                      have hfa72 := TsS134.afree (by repeat (first | (with_reducible first | exact HI0.out | apply TsS134.alloc | apply TsS134.drewN | apply TsS134.drew | apply TsS134.set_1 | refine TsS134.far ?_ NB0_304.out (arr_ne HLT.out GW304.out) _) | exact HI0.out)) (a1 : Int).toNat
                      replace pa72 := eq_true pa72
                      replace qa72 := eq_true qa72
                      go_wp2
                      go_ret
                      exact ⟨by first | rfl | (simp [errW_none, errW_some] <;> rfl) | (simp [*, errW_none, errW_some] <;> rfl), by repeat (first | (with_reducible first | exact HI0.out | apply TsS134.alloc | apply TsS134.drewN | apply TsS134.drew | apply TsS134.set_1 | refine TsS134.far ?_ NB0_304.out (arr_ne HLT.out GW304.out) _) | exact HI0.out), by repeat (first | (with_reducible first | exact HB.out | apply below_alloc | apply pw_below_drewN | apply below_drew1 | refine below_set ?_ (TsS134.ge HI0.out) | refine below_set ?_ (TsS134.ge1 HI0.out) | refine below_set ?_ GE304.out) | exact HB.out), by repeat (first | (with_reducible first | exact HK.out | apply KeepBut.set_ | apply keep_setR | apply keep_drewN | apply keep_drew | apply keep_allocR | refine keep_far ?_ GW304.out _) | exact HK.out)⟩
                    · rw [if_neg c71] at H
                      exact absurd H (by simp)
                  · rw [if_neg c70] at H
                    exact absurd H (by simp)
          · rw [if_neg c16] at H
            exact absurd H (by simp)
        · rw [if_neg c15] at H
          exact absurd H (by simp)


section
variable {P : Program} {ops : Array Oper} {rest : List Oper} {o : Oper} {a : Act} {Q : Exit → Act → World → Prop}
/-- 'make([]int, n)', and where the row lies. -/
theorem make_ints {W : World} (hgd : o.guard = none) {N : Tmp} (_hd : o.dst = some N) (t e : TypeId) (x y : Operand) (ho : o.op = .makeSlice t x y) (n : Nat) (hx : a.eval x = .int .i64 n) (hy : a.eval y = .int .i64 n)
    (ht : P.underlying t = some (.slice e)) (hinfo : (P.info? e).map (fun i => (i.zero, i.size, i.bytes)) = some (some (.int .i64 0), 1, 8)) (hl : n ≤ 1048576)
    (h : ∀ b, b = W.heap.size → ∀ w1, w1.heap[b]? = some (.cells (nums .i64 (List.replicate n 0)).toArray e (0, 0)) → Below W.heap.size W w1 → w1.heap.size = b + 1 → wpList P ops Q rest (a.put o.dst (.slice (some ⟨b, 0, none⟩) n n)) w1) : wpList P ops Q (o :: rest) a W := by
  obtain ⟨i0, hi, hzz⟩ := Option.map_eq_some_iff.1 hinfo
  simp only [Prod.mk.injEq] at hzz
  obtain ⟨hz0, hz1, hz2⟩ := hzz
  have hr := run_make (P := P) W t e i0 (.int .i64 0) ht hi hz0 .i64 .i64 (n : Int) (n : Int) (by omega) (by omega) (by rw [hz2]; omega) (by omega)
  simp only [Int.toNat_natCast] at hr
  have hm : madeCells (Value.int .i64 0).cells (n * i0.size) = (nums .i64 (List.replicate n 0)).toArray := by
    rw [hz1, Nat.mul_one]
    apply Array.ext'
    simp [madeCells, nums, Value.cells]
    apply List.ext_getElem?
    intro j
    by_cases hj : j < n <;> simp [hj, Nat.mod_one]
  rw [hm] at hr
  refine Kd.event_run hgd ?_ (h _ rfl _ (blk_new W _) (below_alloc (Below.refl _ _) _) (by simp))
  simp [execOp, ho, hx, hy, hr]
end
def impl_treeOf.f (k : Nat) (l0 : List (S53)) : Option (List Int × Bool) :=
  (impl_within.f (l0.length : Int) 1 1500).bind fun t => if t = true then (if (rd_T53 l0 0).f0 = 12 then (if (rd_T53 l0 0).f1 = 0 then ((impl_tree_measure.f k l0 (List.replicate l0.length 0) 0 1).bind fun m => if m.1 = (l0.length : Int) then some (m.2, true) else some ([], false)) else some ([], false)) else some ([], false)) else some ([], false)
theorem impl_treeOf.mono (a0) (k) : LeO (impl_treeOf.f k a0) (impl_treeOf.f (k + 1) a0) := by
  unfold impl_treeOf.f
  refine LeO.bind (LeO.refl _) (fun _ => ?_)
  refine LeO.ite (LeO.ite (LeO.ite (LeO.bind (impl_tree_measure.mono _ _ _ _ _) (fun _ => LeO.refl _)) (LeO.refl _)) (LeO.refl _)) (LeO.refl _)
/-- What treeOf leaves. -/
def TreeP (l0 : List (S53)) (a : List Int) (ok : Bool) (w : World) (p : Value) (w' : World) : Prop :=
  Below w.heap.size w w' ∧ (ok = false → p = .pointer none) ∧ (ok = true → ∃ g wz, p = .pointer (some ⟨g, 0, none⟩) ∧ IsS134 wz w' g l0 a ∧ Below wz.heap.size wz w' ∧ w.heap.size ≤ wz.heap.size)
theorem TsS134.told {w0 W : World} {g : Nat} {f0 : List (S53)} {f1 : List Int} (h : TsS134 w0 W g f0 f1) (hB : Below w0.heap.size w0 W) : ∃ wz, IsS134 wz W g f0 f1 ∧ Below wz.heap.size wz W ∧ w0.heap.size ≤ wz.heap.size := by
  have hlt := h.lt
  obtain ⟨A0, c0, a, ⟨b, c, d, e⟩, f⟩ := h
  have hz : (W.heap.extract 0 g).size = g := by simp; omega
  have hk : ∀ k, k < g → (W.heap.extract 0 g)[k]? = W.heap[k]? := fun k hk => by
    rw [Array.getElem?_extract]; simp; omega
  refine ⟨{ W with heap := W.heap.extract 0 g }, ⟨A0, c0, some ⟨g - 1, 0, none⟩, f1.length, a, Nat.le_of_eq hz, ?_, ?_⟩, ?_, ?_⟩
  · exact Kd.C_below f ⟨hB.os, hB.tape, hB.output, by show _ ≤ (W.heap.extract 0 g).size; omega, fun k hk2 => (hk k (by omega)).trans (hB.block k hk2)⟩
  · refine ⟨rfl, e.2, fun _ => ⟨_, rfl, fun j p hj => ⟨[.int .i64 p], rfl, rfl, fun i u hu => ?_⟩⟩⟩
    have hi : i = 0 := by have := (List.getElem?_eq_some_iff.1 hu).1; simp at this; omega
    subst hi
    have hu2 : u = .int .i64 p := by simpa using hu.symm
    subst hu2
    have h3 : ((⟨g - 1, 0, none⟩ : Addr).add (j * (Kd.int .i64).sz + 0)) = ⟨g - 1, j, none⟩ := by
      show Addr.add _ (j * 1 + 0) = _
      rw [add_plain]; simp
    rw [h3]
    refine (blk_cell (w := { W with heap := W.heap.extract 0 g }) ((hk (g - 1) (by omega)).trans c) j).trans ?_
    simp [nums, hj]
  · exact ⟨rfl, rfl, rfl, by show (W.heap.extract 0 g).size ≤ _; omega, fun k hk2 => (hk k (by rw [← hz]; exact hk2)).symm⟩
  · show _ ≤ (W.heap.extract 0 g).size; omega
theorem TreeOf_told {w w1 w2 w3 : World} {b g c0 : Nat} {ad : Addr} {l0 : List (S53)} {n : Nat} (hn : n ≤ 1048576) (hb : b = w.heap.size) (hs : w1.heap.size = b + 1) (hg : g = w1.heap.size)
    (h2 : w2.heap[g]? = some (.cells #[.slice (some ad) l0.length c0, .slice (some ⟨b, 0, none⟩) n n] 134 (0, 0))) (ha : w2.heap[b]? = some (.cells (nums .i64 (List.replicate n 0)).toArray 3 (0, 0)))
    (hc : Kd.C k53 w (some ad) l0.length l0) (h3 : Below w2.heap.size w2 w3) : TsS134 w w3 g l0 (List.replicate n 0) := by
  have e : g - 1 = b := by omega
  have hlt := blk_lt h2
  refine ⟨some ad, c0, ?_, ⟨by omega, ?_, by omega, by omega, by rw [List.length_replicate]; omega⟩, hc⟩
  · rw [e, List.length_replicate]; exact (h3.block g hlt).trans h2
  · rw [e]; exact (h3.block b (by omega)).trans ha
set_option maxHeartbeats 8000000 in
set_option maxRecDepth 100000 in
theorem impl_treeOf.calls (k : Nat) (A0 : Option Addr) (c0 : Nat) (l0 : List (S53)) (r : List Int) (ok : Bool) (w : World) (hr0 : Kd.C k53 w A0 l0.length l0) (hc0 : l0.length ≤ c0) (h : impl_treeOf.f k l0 = some (r, ok)) :
    Calls Try.prog 92 #[.slice A0 l0.length c0] w fun e w' => ∃ p, e = .returned (.tuple #[p, .bool ok]) ∧ TreeP l0 r ok w p w' := by
  have hu := Try.underlying53
  unfold impl_treeOf.f at h
  obtain ⟨t, ht, h⟩ := Option.bind_eq_some_iff.mp h
  have HT := Aside0.mk ht
  clear ht
  have hlen : 0 ≤ (l0.length : Int) := by omega
  cases t with
  | false =>
    rw [if_neg (by decide)] at h
    obtain ⟨rfl, rfl⟩ : [] = r ∧ false = ok := by simpa using h
    clear h
    have HC := Aside0.mk hr0
    clear hr0
    go_enter Try.func92, Try.ntmps92
    go_wp2_with (go_at_call 76; refine (impl_within.calls _ _ _ _ _ HT.out).mono ?_; rintro e w' ⟨rfl, ⟨nd, rfl⟩⟩)
    go_ret2
    exact ⟨_, rfl, ⟨pw_below_drewN (Below.refl _ _) _, fun _ => rfl, fun h => by cases h⟩⟩
  | true =>
    rw [if_pos rfl] at h
    have hn : 1 ≤ l0.length ∧ l0.length ≤ 1500 := by
      have h1 := HT.out
      unfold impl_within.f at h1
      split at h1
      · have h2 := of_decide_eq_true (Option.some.inj h1); omega
      · cases h1
    have hn0 : (0 : Int) < (l0.length : Int) := by omega
    obtain ⟨ad, e0, x0, x1, x2, x3, x4⟩ := at_T53 hr0 0 (by omega) hn0
    cases e0
    have ea : ad.add ((0 : Int).toNat * 5) = ad := by simp [Addr.add]
    rw [ea] at x0 x1 x2 x3 x4
    clear ea
    have HL1 := Aside0.mk hn.1
    have HL2 := Aside0.mk hn.2
    have q0 : ((0 : Int) < (l0.length : Int)) = True := eq_true hn0
    have q1 : (0 < l0.length) = True := eq_true hn.1
    have HC := Aside0.mk hr0
    have X0 := Aside0.mk x0
    have X1 := Aside0.mk x1
    have X2 := Aside0.mk x2
    have X3 := Aside0.mk x3
    have X4 := Aside0.mk x4
    clear x0 x1 x2 x3 x4 hr0 hn hn0 hlen
    obtain ⟨d0, hd0⟩ : ∃ z, z = (rd_T53 l0 0).f0 := ⟨_, rfl⟩
    obtain ⟨d1, hd1⟩ : ∃ z, z = (rd_T53 l0 0).f1 := ⟨_, rfl⟩
    rw [← hd0, ← hd1] at h
    rw [← hd0] at X0
    rw [← hd1] at X1
    clear hd0 hd1
    by_cases c0' : d0 = 12
    · subst c0'
      rw [if_pos rfl] at h
      by_cases c1' : d1 = 0
      · subst c1'
        rw [if_pos rfl] at h
        obtain ⟨⟨m1, m2⟩, hm, h⟩ := Option.bind_eq_some_iff.mp h
        have HM := Aside0.mk hm
        clear hm
        dsimp only at h
        by_cases c2' : m1 = (l0.length : Int)
        · rw [if_pos c2'] at h
          obtain ⟨rfl, rfl⟩ : m2 = r ∧ true = ok := by simpa using h
          clear h
          subst c2'
          go_enter Try.func92, Try.ntmps92
          go_wp2_with (first | (go_at_call 76; refine (impl_within.calls _ _ _ _ _ HT.out).mono ?_; rintro e w' ⟨rfl, ⟨nd, rfl⟩⟩) | ((with_reducible refine gate_dst (N := 13) rfl ?_); refine make_ints rfl (N := 13) rfl 32 3 _ _ rfl l0.length rfl rfl Try.underlying32 info3 (by have := HL2.out; omega) ?_; intro b hb w1 hg1 hb1 hs1; have HG1 := Aside0.mk hg1; have HB1 := Aside0.mk (show Below w.heap.size w w1 from (pw_below_drewN (Below.refl _ _) nd).trans (hb1.mono (by simp))); have HbE := Aside0.mk (show b = w.heap.size from hb); have HS1 := Aside0.mk hs1; clear hb hg1 hb1 hs1) | ((with_reducible refine gate_dst (N := 15) rfl ?_); refine box_event ?hg (N := 15) ?hd (cs := #[.slice (some ad) l0.length c0, .slice (some ⟨b, 0, none⟩) l0.length l0.length]) (t := 134) ?hr ?_; (case hd => rfl); (case hg => rfl); (case hr => first | (go_simp; done) | (go_simp; rfl)); intro g hgE w2 hg2 hb2; have HGE := Aside0.mk hgE; have HG2 := Aside0.mk hg2; have HB2 := Aside0.mk (HB1.out.trans (hb2.mono HB1.out.size)); have HR2 := Aside0.mk (grown_of_below hb2 none); have HA2 := Aside0.mk (show w2.heap[b]? = _ from (hb2.block b (by have := HS1.out; omega)).trans HG1.out); have y0 := pw_cell_below HB2.out X0.out; have y1 := pw_cell_below HB2.out X1.out; have y2 := pw_cell_below HB2.out X2.out; have y3 := pw_cell_below HB2.out X3.out; have y4 := pw_cell_below HB2.out X4.out; clear hgE hg2 hb2) | ((with_reducible refine gate_dst (N := 5) rfl ?_); refine box_event ?hg (N := 5) ?hd (cs := #[.int .i64 0, .int .i64 0, .int .i64 0, .string (⟨#[]⟩ : ByteArray), .int .i64 0]) (t := 53) ?hr ?_; (case hd => rfl); (case hg => rfl); (case hr => first | (go_simp; done) | (go_simp; rfl)); intro gb hbE w3 hg3 hb3; have HBE := Aside0.mk hbE; have HG3 := Aside0.mk hg3; have HB3 := Aside0.mk (HB2.out.trans (hb3.mono HB2.out.size)); have HI3 := Aside0.mk (TreeOf_told (w := w) (by have := HL2.out; omega) HbE.out HS1.out HGE.out HG2.out HA2.out HC.out hb3); have HN3 := Aside0.mk (show g ≠ gb from by have := blk_lt HG2.out; have := HBE.out; omega); have HM3 := Aside0.mk (show g - 1 ≠ gb from by have := blk_lt HG2.out; have := HBE.out; omega); have HP3 := Aside0.mk (show w.heap.size ≤ gb from by have := HB2.out.size; have := HBE.out; omega); have z0 : w3.cell? ⟨gb, 0, none⟩ = some (.int .i64 0) := (blk_cell HG3.out 0).trans rfl; have z1 : w3.cell? ⟨gb, 1, none⟩ = some (.int .i64 0) := (blk_cell HG3.out 1).trans rfl; have z2 : w3.cell? ⟨gb, 2, none⟩ = some (.int .i64 0) := (blk_cell HG3.out 2).trans rfl; have z3 : w3.cell? ⟨gb, 3, none⟩ = some (.string (⟨#[]⟩ : ByteArray)) := (blk_cell HG3.out 3).trans rfl; have z4 : w3.cell? ⟨gb, 4, none⟩ = some (.int .i64 0) := (blk_cell HG3.out 4).trans rfl; have f0 := blk_frozen HG3.out 0; have f1 := blk_frozen HG3.out 1; have f2 := blk_frozen HG3.out 2; have f3 := blk_frozen HG3.out 3; have f4 := blk_frozen HG3.out 4; clear hbE hg3 hb3) | (go_at_call 163; (with_reducible refine (impl_tree_measure.calls k g l0 (List.replicate l0.length 0) 0 1 _ m2 w _ ?side1 ?side2 HM.out).mono ?_); (case side1 => repeat (first | (with_reducible first | exact HI3.out | apply TsS134.alloc | apply TsS134.drewN | apply TsS134.drew | refine TsS134.far ?_ HN3.out HM3.out _) | exact HI3.out)); (case side2 => repeat (first | (with_reducible first | exact HB3.out | apply below_alloc | apply pw_below_drewN | apply below_drew1 | refine below_set ?_ HP3.out) | exact HB3.out)); rintro e w4 ⟨rfl, hi, hb, hk⟩; have HT4 := Aside0.mk hi; have HB4 := Aside0.mk hb; clear hi hb hk))
          go_ret2
          obtain ⟨wz, z1, z2, z3⟩ := HT4.out.told HB4.out
          exact ⟨_, rfl, HB4.out, (fun h => by cases h), fun _ => ⟨_, wz, rfl, z1, z2, z3⟩⟩
        · rw [if_neg c2'] at h
          obtain ⟨rfl, rfl⟩ : [] = r ∧ false = ok := by simpa using h
          clear h
          have c2a : (m1 == (l0.length : Int)) = false := beq_eq_false_iff_ne.mpr c2'
          have c2b : (m1 != (l0.length : Int)) = true := bne_iff_ne.mpr c2'
          clear c2'
          go_enter Try.func92, Try.ntmps92
          go_wp2_with (first | (go_at_call 76; refine (impl_within.calls _ _ _ _ _ HT.out).mono ?_; rintro e w' ⟨rfl, ⟨nd, rfl⟩⟩) | ((with_reducible refine gate_dst (N := 13) rfl ?_); refine make_ints rfl (N := 13) rfl 32 3 _ _ rfl l0.length rfl rfl Try.underlying32 info3 (by have := HL2.out; omega) ?_; intro b hb w1 hg1 hb1 hs1; have HG1 := Aside0.mk hg1; have HB1 := Aside0.mk (show Below w.heap.size w w1 from (pw_below_drewN (Below.refl _ _) nd).trans (hb1.mono (by simp))); have HbE := Aside0.mk (show b = w.heap.size from hb); have HS1 := Aside0.mk hs1; clear hb hg1 hb1 hs1) | ((with_reducible refine gate_dst (N := 15) rfl ?_); refine box_event ?hg (N := 15) ?hd (cs := #[.slice (some ad) l0.length c0, .slice (some ⟨b, 0, none⟩) l0.length l0.length]) (t := 134) ?hr ?_; (case hd => rfl); (case hg => rfl); (case hr => first | (go_simp; done) | (go_simp; rfl)); intro g hgE w2 hg2 hb2; have HGE := Aside0.mk hgE; have HG2 := Aside0.mk hg2; have HB2 := Aside0.mk (HB1.out.trans (hb2.mono HB1.out.size)); have HR2 := Aside0.mk (grown_of_below hb2 none); have HA2 := Aside0.mk (show w2.heap[b]? = _ from (hb2.block b (by have := HS1.out; omega)).trans HG1.out); have y0 := pw_cell_below HB2.out X0.out; have y1 := pw_cell_below HB2.out X1.out; have y2 := pw_cell_below HB2.out X2.out; have y3 := pw_cell_below HB2.out X3.out; have y4 := pw_cell_below HB2.out X4.out; clear hgE hg2 hb2) | ((with_reducible refine gate_dst (N := 5) rfl ?_); refine box_event ?hg (N := 5) ?hd (cs := #[.int .i64 0, .int .i64 0, .int .i64 0, .string (⟨#[]⟩ : ByteArray), .int .i64 0]) (t := 53) ?hr ?_; (case hd => rfl); (case hg => rfl); (case hr => first | (go_simp; done) | (go_simp; rfl)); intro gb hbE w3 hg3 hb3; have HBE := Aside0.mk hbE; have HG3 := Aside0.mk hg3; have HB3 := Aside0.mk (HB2.out.trans (hb3.mono HB2.out.size)); have HI3 := Aside0.mk (TreeOf_told (w := w) (by have := HL2.out; omega) HbE.out HS1.out HGE.out HG2.out HA2.out HC.out hb3); have HN3 := Aside0.mk (show g ≠ gb from by have := blk_lt HG2.out; have := HBE.out; omega); have HM3 := Aside0.mk (show g - 1 ≠ gb from by have := blk_lt HG2.out; have := HBE.out; omega); have HP3 := Aside0.mk (show w.heap.size ≤ gb from by have := HB2.out.size; have := HBE.out; omega); have z0 : w3.cell? ⟨gb, 0, none⟩ = some (.int .i64 0) := (blk_cell HG3.out 0).trans rfl; have z1 : w3.cell? ⟨gb, 1, none⟩ = some (.int .i64 0) := (blk_cell HG3.out 1).trans rfl; have z2 : w3.cell? ⟨gb, 2, none⟩ = some (.int .i64 0) := (blk_cell HG3.out 2).trans rfl; have z3 : w3.cell? ⟨gb, 3, none⟩ = some (.string (⟨#[]⟩ : ByteArray)) := (blk_cell HG3.out 3).trans rfl; have z4 : w3.cell? ⟨gb, 4, none⟩ = some (.int .i64 0) := (blk_cell HG3.out 4).trans rfl; have f0 := blk_frozen HG3.out 0; have f1 := blk_frozen HG3.out 1; have f2 := blk_frozen HG3.out 2; have f3 := blk_frozen HG3.out 3; have f4 := blk_frozen HG3.out 4; clear hbE hg3 hb3) | (go_at_call 163; (with_reducible refine (impl_tree_measure.calls k g l0 (List.replicate l0.length 0) 0 1 _ m2 w _ ?side1 ?side2 HM.out).mono ?_); (case side1 => repeat (first | (with_reducible first | exact HI3.out | apply TsS134.alloc | apply TsS134.drewN | apply TsS134.drew | refine TsS134.far ?_ HN3.out HM3.out _) | exact HI3.out)); (case side2 => repeat (first | (with_reducible first | exact HB3.out | apply below_alloc | apply pw_below_drewN | apply below_drew1 | refine below_set ?_ HP3.out) | exact HB3.out)); rintro e w4 ⟨rfl, hi, hb, hk⟩; have HT4 := Aside0.mk hi; have HB4 := Aside0.mk hb; clear hi hb hk))
          go_ret2
          exact ⟨_, rfl, HB4.out, fun _ => rfl, fun h => by cases h⟩
      · rw [if_neg c1'] at h
        obtain ⟨rfl, rfl⟩ : [] = r ∧ false = ok := by simpa using h
        clear h
        have c1a : (d1 == 0) = false := beq_eq_false_iff_ne.mpr c1'
        have c1b : (d1 != 0) = true := bne_iff_ne.mpr c1'
        clear c1'
        go_enter Try.func92, Try.ntmps92
        go_wp2_with (first | (go_at_call 76; refine (impl_within.calls _ _ _ _ _ HT.out).mono ?_; rintro e w' ⟨rfl, ⟨nd, rfl⟩⟩) | ((with_reducible refine gate_dst (N := 13) rfl ?_); refine make_ints rfl (N := 13) rfl 32 3 _ _ rfl l0.length rfl rfl Try.underlying32 info3 (by have := HL2.out; omega) ?_; intro b hb w1 hg1 hb1 hs1; have HG1 := Aside0.mk hg1; have HB1 := Aside0.mk (show Below w.heap.size w w1 from (pw_below_drewN (Below.refl _ _) nd).trans (hb1.mono (by simp))); have HbE := Aside0.mk (show b = w.heap.size from hb); have HS1 := Aside0.mk hs1; clear hb hg1 hb1 hs1) | ((with_reducible refine gate_dst (N := 15) rfl ?_); refine box_event ?hg (N := 15) ?hd (cs := #[.slice (some ad) l0.length c0, .slice (some ⟨b, 0, none⟩) l0.length l0.length]) (t := 134) ?hr ?_; (case hd => rfl); (case hg => rfl); (case hr => first | (go_simp; done) | (go_simp; rfl)); intro g hgE w2 hg2 hb2; have HGE := Aside0.mk hgE; have HG2 := Aside0.mk hg2; have HB2 := Aside0.mk (HB1.out.trans (hb2.mono HB1.out.size)); have HR2 := Aside0.mk (grown_of_below hb2 none); have HA2 := Aside0.mk (show w2.heap[b]? = _ from (hb2.block b (by have := HS1.out; omega)).trans HG1.out); have y0 := pw_cell_below HB2.out X0.out; have y1 := pw_cell_below HB2.out X1.out; have y2 := pw_cell_below HB2.out X2.out; have y3 := pw_cell_below HB2.out X3.out; have y4 := pw_cell_below HB2.out X4.out; clear hgE hg2 hb2) | ((with_reducible refine gate_dst (N := 5) rfl ?_); refine box_event ?hg (N := 5) ?hd (cs := #[.int .i64 0, .int .i64 0, .int .i64 0, .string (⟨#[]⟩ : ByteArray), .int .i64 0]) (t := 53) ?hr ?_; (case hd => rfl); (case hg => rfl); (case hr => first | (go_simp; done) | (go_simp; rfl)); intro gb hbE w3 hg3 hb3; have HBE := Aside0.mk hbE; have HG3 := Aside0.mk hg3; have HB3 := Aside0.mk (HB2.out.trans (hb3.mono HB2.out.size)); have HI3 := Aside0.mk (TreeOf_told (w := w) (by have := HL2.out; omega) HbE.out HS1.out HGE.out HG2.out HA2.out HC.out hb3); have HN3 := Aside0.mk (show g ≠ gb from by have := blk_lt HG2.out; have := HBE.out; omega); have HM3 := Aside0.mk (show g - 1 ≠ gb from by have := blk_lt HG2.out; have := HBE.out; omega); have HP3 := Aside0.mk (show w.heap.size ≤ gb from by have := HB2.out.size; have := HBE.out; omega); have z0 : w3.cell? ⟨gb, 0, none⟩ = some (.int .i64 0) := (blk_cell HG3.out 0).trans rfl; have z1 : w3.cell? ⟨gb, 1, none⟩ = some (.int .i64 0) := (blk_cell HG3.out 1).trans rfl; have z2 : w3.cell? ⟨gb, 2, none⟩ = some (.int .i64 0) := (blk_cell HG3.out 2).trans rfl; have z3 : w3.cell? ⟨gb, 3, none⟩ = some (.string (⟨#[]⟩ : ByteArray)) := (blk_cell HG3.out 3).trans rfl; have z4 : w3.cell? ⟨gb, 4, none⟩ = some (.int .i64 0) := (blk_cell HG3.out 4).trans rfl; have f0 := blk_frozen HG3.out 0; have f1 := blk_frozen HG3.out 1; have f2 := blk_frozen HG3.out 2; have f3 := blk_frozen HG3.out 3; have f4 := blk_frozen HG3.out 4; clear hbE hg3 hb3) | (go_at_call 163; (with_reducible refine (impl_tree_measure.calls k g l0 (List.replicate l0.length 0) 0 1 _ m2 w _ ?side1 ?side2 HM.out).mono ?_); (case side1 => repeat (first | (with_reducible first | exact HI3.out | apply TsS134.alloc | apply TsS134.drewN | apply TsS134.drew | refine TsS134.far ?_ HN3.out HM3.out _) | exact HI3.out)); (case side2 => repeat (first | (with_reducible first | exact HB3.out | apply below_alloc | apply pw_below_drewN | apply below_drew1 | refine below_set ?_ HP3.out) | exact HB3.out)); rintro e w4 ⟨rfl, hi, hb, hk⟩; have HT4 := Aside0.mk hi; have HB4 := Aside0.mk hb; clear hi hb hk))
        go_ret2
        exact ⟨_, rfl, by repeat (first | (with_reducible first | exact HB3.out | apply below_alloc | apply pw_below_drewN | apply below_drew1 | refine below_set ?_ HP3.out) | exact HB3.out), fun _ => rfl, fun h => by cases h⟩
    · rw [if_neg c0'] at h
      obtain ⟨rfl, rfl⟩ : [] = r ∧ false = ok := by simpa using h
      clear h
      have c0a : (d0 == 12) = false := beq_eq_false_iff_ne.mpr c0'
      have c0b : (d0 != 12) = true := bne_iff_ne.mpr c0'
      clear c0'
      go_enter Try.func92, Try.ntmps92
      go_wp2_with (first | (go_at_call 76; refine (impl_within.calls _ _ _ _ _ HT.out).mono ?_; rintro e w' ⟨rfl, ⟨nd, rfl⟩⟩) | ((with_reducible refine gate_dst (N := 13) rfl ?_); refine make_ints rfl (N := 13) rfl 32 3 _ _ rfl l0.length rfl rfl Try.underlying32 info3 (by have := HL2.out; omega) ?_; intro b hb w1 hg1 hb1 hs1; have HG1 := Aside0.mk hg1; have HB1 := Aside0.mk (show Below w.heap.size w w1 from (pw_below_drewN (Below.refl _ _) nd).trans (hb1.mono (by simp))); have HbE := Aside0.mk (show b = w.heap.size from hb); have HS1 := Aside0.mk hs1; clear hb hg1 hb1 hs1) | ((with_reducible refine gate_dst (N := 15) rfl ?_); refine box_event ?hg (N := 15) ?hd (cs := #[.slice (some ad) l0.length c0, .slice (some ⟨b, 0, none⟩) l0.length l0.length]) (t := 134) ?hr ?_; (case hd => rfl); (case hg => rfl); (case hr => first | (go_simp; done) | (go_simp; rfl)); intro g hgE w2 hg2 hb2; have HGE := Aside0.mk hgE; have HG2 := Aside0.mk hg2; have HB2 := Aside0.mk (HB1.out.trans (hb2.mono HB1.out.size)); have HR2 := Aside0.mk (grown_of_below hb2 none); have HA2 := Aside0.mk (show w2.heap[b]? = _ from (hb2.block b (by have := HS1.out; omega)).trans HG1.out); have y0 := pw_cell_below HB2.out X0.out; have y1 := pw_cell_below HB2.out X1.out; have y2 := pw_cell_below HB2.out X2.out; have y3 := pw_cell_below HB2.out X3.out; have y4 := pw_cell_below HB2.out X4.out; clear hgE hg2 hb2) | ((with_reducible refine gate_dst (N := 5) rfl ?_); refine box_event ?hg (N := 5) ?hd (cs := #[.int .i64 0, .int .i64 0, .int .i64 0, .string (⟨#[]⟩ : ByteArray), .int .i64 0]) (t := 53) ?hr ?_; (case hd => rfl); (case hg => rfl); (case hr => first | (go_simp; done) | (go_simp; rfl)); intro gb hbE w3 hg3 hb3; have HBE := Aside0.mk hbE; have HG3 := Aside0.mk hg3; have HB3 := Aside0.mk (HB2.out.trans (hb3.mono HB2.out.size)); have HI3 := Aside0.mk (TreeOf_told (w := w) (by have := HL2.out; omega) HbE.out HS1.out HGE.out HG2.out HA2.out HC.out hb3); have HN3 := Aside0.mk (show g ≠ gb from by have := blk_lt HG2.out; have := HBE.out; omega); have HM3 := Aside0.mk (show g - 1 ≠ gb from by have := blk_lt HG2.out; have := HBE.out; omega); have HP3 := Aside0.mk (show w.heap.size ≤ gb from by have := HB2.out.size; have := HBE.out; omega); have z0 : w3.cell? ⟨gb, 0, none⟩ = some (.int .i64 0) := (blk_cell HG3.out 0).trans rfl; have z1 : w3.cell? ⟨gb, 1, none⟩ = some (.int .i64 0) := (blk_cell HG3.out 1).trans rfl; have z2 : w3.cell? ⟨gb, 2, none⟩ = some (.int .i64 0) := (blk_cell HG3.out 2).trans rfl; have z3 : w3.cell? ⟨gb, 3, none⟩ = some (.string (⟨#[]⟩ : ByteArray)) := (blk_cell HG3.out 3).trans rfl; have z4 : w3.cell? ⟨gb, 4, none⟩ = some (.int .i64 0) := (blk_cell HG3.out 4).trans rfl; have f0 := blk_frozen HG3.out 0; have f1 := blk_frozen HG3.out 1; have f2 := blk_frozen HG3.out 2; have f3 := blk_frozen HG3.out 3; have f4 := blk_frozen HG3.out 4; clear hbE hg3 hb3) | (go_at_call 163; (with_reducible refine (impl_tree_measure.calls k g l0 (List.replicate l0.length 0) 0 1 _ m2 w _ ?side1 ?side2 HM.out).mono ?_); (case side1 => repeat (first | (with_reducible first | exact HI3.out | apply TsS134.alloc | apply TsS134.drewN | apply TsS134.drew | refine TsS134.far ?_ HN3.out HM3.out _) | exact HI3.out)); (case side2 => repeat (first | (with_reducible first | exact HB3.out | apply below_alloc | apply pw_below_drewN | apply below_drew1 | refine below_set ?_ HP3.out) | exact HB3.out)); rintro e w4 ⟨rfl, hi, hb, hk⟩; have HT4 := Aside0.mk hi; have HB4 := Aside0.mk hb; clear hi hb hk))
      go_ret2
      exact ⟨_, rfl, by repeat (first | (with_reducible first | exact HB3.out | apply below_alloc | apply pw_below_drewN | apply below_drew1 | refine below_set ?_ HP3.out) | exact HB3.out), fun _ => rfl, fun h => by cases h⟩
theorem below_via {B : Nat} {w w1 w2 wz : World} (h : Below B w w1) (h1 : Below wz.heap.size wz w1) (h2 : Below wz.heap.size wz w2) (hz : B ≤ wz.heap.size) (hw : w.heap.size ≤ wz.heap.size) : Below B w w2 :=
  ⟨h2.os.trans (h1.os.symm.trans h.os), h2.tape.trans (h1.tape.symm.trans h.tape), h2.output.trans (h1.output.symm.trans h.output), Nat.le_trans hw h2.size, fun k hk => (h2.block k (by omega)).trans ((h1.block k (by omega)).symm.trans (h.block k hk))⟩

end Go.Proofs.Ytnfamhegbfjggaa.PFnTreeParts
