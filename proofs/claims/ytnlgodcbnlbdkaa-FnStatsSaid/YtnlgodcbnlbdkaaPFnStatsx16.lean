/- The machine's side of FnStats: each Go function, and what its call comes to. No condition. -/
import Derived.Test.YtnlgodcbnlbdkaaPFnStatsx0
import Derived.Test.YtnlgodcbnlbdkaaPFnStatsx10
import Derived.Test.YtnlgodcbnlbdkaaPFnStatsx15
namespace Go.Proofs.Ytnlgodcbnlbdkaa.PFnStats
open Go.RowKit Go.Proofs.YtnlgodcbnlbdkaaW.PrintWords Go.Proofs.YtnlgodcbnlbdkaaW.PrintLast Go.Proofs.YtnlgodcbnlbdkaaW.PrintMore Go.Proofs.YtnlgodcbnlbdkaaW.PrintMore2
attribute [local go_sem] max2_int min2_int max_two min_two max_three min_three max_four min_four
set_option linter.unusedVariables false
set_option linter.unusedSimpArgs false
set_option maxHeartbeats 8000000
set_option maxRecDepth 100000

/-- A state of type 83 at block g of W; what its slices lead to came in by w0. -/
def IsS83 (w0 W : World) (g : Nat) (f0 : List (S76)) (f1 : List Int) : Prop := ∃ A0 c0, ∃ A1 c1, W.heap[g]? = some (.cells #[.slice A0 f0.length c0, .slice A1 f1.length c1] 83 (0, 0)) ∧ w0.heap.size ≤ g ∧ Kd.C k76 w0 A0 f0.length f0 ∧ Kd.C (Kd.int .i64) w0 A1 f1.length f1
theorem IsS83.grown {w0 W : World} {g : Nat} {f0 : List (S76)} {f1 : List Int} {W1 : World} {row : Option Nat} (h : IsS83 w0 W g f0 f1) (hw : W.grownBy W1 row) (hne : some g ≠ row) : IsS83 w0 W1 g f0 f1 := by
 obtain ⟨A0, c0, A1, c1, hb, hg, hr0, hr1⟩ := h
 exact ⟨A0, c0, A1, c1, blk_grown hb hw hne, hg, hr0, hr1⟩
theorem IsS83.own_neN {w0 W : World} {g : Nat} {f0 : List (S76)} {f1 : List Int} {α : Type} {d : Kd α} {e : Nat} {base : Nat} {ok : Nat → Prop} {v : Value} {xs : List α} (h : IsS83 w0 W g f0 f1) (ho : Kd.N d e W base ok v xs) (ht : e ≠ 83) : some g ≠ v.ownBlock := by
 obtain ⟨A0, c0, A1, c1, hb, hg, hr0, hr1⟩ := h
 exact Kd.N_ne ho hb ht
theorem IsS83.fresh {w0 W : World} {g : Nat} {f0 : List (S76)} {f1 : List Int} (h : IsS83 w0 W g f0 f1) : ∀ k, W.heap.size ≤ k → k ≠ g := by
 obtain ⟨A0, c0, A1, c1, hb, hg, hr0, hr1⟩ := h
 exact Kd.freshB hb
theorem IsS83.kept {w0 W : World} {g : Nat} {f0 : List (S76)} {f1 : List Int} {W1 : World} {S : Nat → Prop} (h : IsS83 w0 W g f0 f1) (hk : Kept W W1 S) (hne : ¬ S g) : IsS83 w0 W1 g f0 f1 := by
 obtain ⟨A0, c0, A1, c1, hb, hg, hr0, hr1⟩ := h
 exact ⟨A0, c0, A1, c1, blk_kept hb hk hne, hg, hr0, hr1⟩
theorem IsS83.below {w0 W : World} {g : Nat} {f0 : List (S76)} {f1 : List Int} {W1 : World} (h : IsS83 w0 W g f0 f1) (hw : Below W.heap.size W W1) : IsS83 w0 W1 g f0 f1 := h.grown (grown_of_below hw none) (by simp)
theorem IsS83.alloc {w0 W : World} {g : Nat} {f0 : List (S76)} {f1 : List Int} (h : IsS83 w0 W g f0 f1) (o : Obj) : IsS83 w0 (W.alloc o) g f0 f1 := h.below (below_alloc (Below.refl _ _) o)
theorem IsS83.drewN {w0 W : World} {g : Nat} {f0 : List (S76)} {f1 : List Int} (h : IsS83 w0 W g f0 f1) (m : Nat) : IsS83 w0 (W.drewN m) g f0 f1 := h
theorem IsS83.drew {w0 W : World} {g : Nat} {f0 : List (S76)} {f1 : List Int} (h : IsS83 w0 W g f0 f1) : IsS83 w0 W.drew g f0 f1 := h
theorem IsS83.at_ {w0 W : World} {g : Nat} {f0 : List (S76)} {f1 : List Int} {w' : World} {m : Nat} (hq : W.drewN m = w') (h : IsS83 w0 W g f0 f1) : IsS83 w0 w' g f0 f1 := by subst hq; exact IsS83.drewN h m
theorem IsS83.apart {w0 W : World} {g : Nat} {f0 : List (S76)} {f1 : List Int} {α : Type} {d : Kd α} {e : Nat} {base : Nat} {ok : Nat → Prop} {v : Value} {xs : List α} (h : IsS83 w0 W g f0 f1) (ho : d.R e W base ok v xs) (ht : ∀ q, q ∈ e :: d.E → q ≠ 83) : d.R e W base (fun k => ok k ∧ k ≠ g) v xs := by
 obtain ⟨A0, c0, A1, c1, hb, hg, hr0, hr1⟩ := h
 exact Kd.R_types ho hb ht
theorem IsS83.own_ne {w0 W : World} {g : Nat} {f0 : List (S76)} {f1 : List Int} {α : Type} {d : Kd α} {e : Nat} {base : Nat} {ok : Nat → Prop} {v : Value} {xs : List α} (h : IsS83 w0 W g f0 f1) (ho : d.R e W base ok v xs) (ht : e ≠ 83) : some g ≠ v.ownBlock := by
 obtain ⟨A0, c0, A1, c1, hb, hg, hr0, hr1⟩ := h
 exact Kd.R_ne ho hb ht
theorem IsS83.apartQ {w0 W : World} {g : Nat} {f0 : List (S76)} {f1 : List Int} {α : Type} {d : Kd α} {e : Nat} {base : Nat} {ok : Nat → Prop} {v : Value} {xs : List α} (h : IsS83 w0 W g f0 f1) (ho : d.Q e W base ok v xs) (ht : ∀ q, q ∈ e :: d.E → q ≠ 83) : d.Q e W base (fun k => ok k ∧ k ≠ g) v xs := by
 obtain ⟨A0, c0, A1, c1, hb, hg, hr0, hr1⟩ := h
 exact Kd.Q_types ho hb ht
theorem IsS83.own_neQ {w0 W : World} {g : Nat} {f0 : List (S76)} {f1 : List Int} {α : Type} {d : Kd α} {e : Nat} {base : Nat} {ok : Nat → Prop} {v : Value} {xs : List α} (h : IsS83 w0 W g f0 f1) (ho : d.Q e W base ok v xs) (ht : e ≠ 83) : some g ≠ v.ownBlock := by
 obtain ⟨A0, c0, A1, c1, hb, hg, hr0, hr1⟩ := h
 exact Kd.Q_ne ho hb ht
theorem IsS83.apartS {w0 W : World} {g : Nat} {f0 : List (S76)} {f1 : List Int} {α : Type} {d : Kd α} {e : Nat} {base : Nat} {ok : Nat → Prop} {v : Value} {xs : List α} (h : IsS83 w0 W g f0 f1) (ho : d.S e W base ok v xs) (ht : ∀ q, q ∈ e :: d.E → q ≠ 83) : d.S e W base (fun k => ok k ∧ k ≠ g) v xs := by
 obtain ⟨A0, c0, A1, c1, hb, hg, hr0, hr1⟩ := h
 exact Kd.S_types ho hb ht
theorem IsS83.own_neS {w0 W : World} {g : Nat} {f0 : List (S76)} {f1 : List Int} {α : Type} {d : Kd α} {e : Nat} {base : Nat} {ok : Nat → Prop} {v : Value} {xs : List α} (h : IsS83 w0 W g f0 f1) (ho : d.S e W base ok v xs) (ht : e ≠ 83) : some g ≠ v.ownBlock := by
 obtain ⟨A0, c0, A1, c1, hb, hg, hr0, hr1⟩ := h
 exact Kd.S_ne ho hb ht
theorem IsS83.lt {w0 W : World} {g : Nat} {f0 : List (S76)} {f1 : List Int} (h : IsS83 w0 W g f0 f1) : g < W.heap.size := by
 obtain ⟨A0, c0, A1, c1, hb, hg, hr0, hr1⟩ := h
 exact blk_lt hb
theorem IsS83.ge {w0 W : World} {g : Nat} {f0 : List (S76)} {f1 : List Int} (h : IsS83 w0 W g f0 f1) : w0.heap.size ≤ g := by
 obtain ⟨A0, c0, A1, c1, hb, hg, hr0, hr1⟩ := h
 exact hg
theorem IsS83.ne_blk {w0 W : World} {g : Nat} {f0 : List (S76)} {f1 : List Int} {a : Nat} {cs : Array Value} {t : TypeId} {fr : Nat × Nat} (h : IsS83 w0 W g f0 f1) (hb2 : W.heap[a]? = some (.cells cs t fr)) (ht : t ≠ 83) : g ≠ a := by
 obtain ⟨A0, c0, A1, c1, hb, hg, hr0, hr1⟩ := h
 rintro rfl
 rw [hb] at hb2
 injection hb2 with hb2
 injection hb2 with _ ht2
 exact ht ht2.symm
theorem IsS83.far {w0 W : World} {g : Nat} {f0 : List (S76)} {f1 : List Int} {p : Addr} (h : IsS83 w0 W g f0 f1) (hne : g ≠ p.block) (u : Value) : IsS83 w0 (W.setCell p u) g f0 f1 := by
 obtain ⟨A0, c0, A1, c1, hb, hg, hr0, hr1⟩ := h
 exact ⟨A0, c0, A1, c1, blk_far hb hne u, hg, hr0, hr1⟩
theorem IsS83.later {w0 W W' : World} {g : Nat} {f0 f0' : List (S76)} {f1 f1' : List Int} (h : IsS83 w0 W g f0 f1) (k : IsS83 w0 W g f0 f1 → IsS83 w0 W' g f0' f1' := by (intro hb_; repeat (first | (with_reducible first | exact hb_ | apply IsS83.alloc | apply IsS83.drewN | apply IsS83.drew | refine IsS83.far ?_ (Aside0.out (by with_reducible assumption)) _) | exact hb_))) : IsS83 w0 W' g f0' f1' := k h
theorem IsS83.l {w0 W W' : World} {g : Nat} {f0 f0' : List (S76)} {f1 f1' : List Int} (h : Aside0 (IsS83 w0 W g f0 f1)) (k : IsS83 w0 W g f0 f1 → IsS83 w0 W' g f0' f1' := by (intro hb_; repeat (first | (with_reducible first | exact hb_ | apply IsS83.alloc | apply IsS83.drewN | apply IsS83.drew | refine IsS83.far ?_ (Aside0.out (by with_reducible assumption)) _) | exact hb_))) : IsS83 w0 W' g f0' f1' := k h.out
theorem IsS83.be {w0 W W' w2 : World} {g : Nat} {f0 f0' : List (S76)} {f1 f1' : List Int} (h : Aside0 (IsS83 w0 W g f0 f1)) (hb : Below W'.heap.size W' w2) (k : IsS83 w0 W g f0 f1 → IsS83 w0 W' g f0' f1' := by (intro hb_; repeat (first | (with_reducible first | exact hb_ | apply IsS83.alloc | apply IsS83.drewN | apply IsS83.drew | refine IsS83.far ?_ (Aside0.out (by with_reducible assumption)) _) | exact hb_))) : Aside0 (IsS83 w0 w2 g f0' f1') := ⟨IsS83.below (k h.out) hb⟩
section
variable {P : Program} {ops : Array Oper} {rest : List Oper} {o : Oper} {a : Act} {Q : Exit → Act → World → Prop}
theorem IsS83.bv {w w0 W0 W1 W2 W : World} {g : Nat} {f0 f0' : List (S76)} {f1 f1' : List Int} (N : Tmp) (hd : o.dst = some N) (cs : Array Value) (t : TypeId) (hI : Aside0 (IsS83 w0 W0 g f0 f1)) (hK : Aside0 (KeepBut w W1 g none)) (hB : Aside0 (Below w0.heap.size w0 W2)) (hW : Aside0 (w0.heap.size ≤ w.heap.size))
 (h : ∀ g' w1, Aside0 (w1.heap[g']? = some (.cells cs t (0, 0))) → Aside0 (w.heap.size ≤ g') → Aside0 (w0.heap.size ≤ g') → Aside0 (g ≠ g') → Aside0 (g' ≠ g) → Aside0 (IsS83 w0 w1 g f0' f1') → Aside0 (KeepBut w w1 g none) → Aside0 (Below w0.heap.size w0 w1) → g' = W.heap.size → Below W.heap.size W w1 → wpList P ops Q rest (a.put o.dst (.pointer (some ⟨g', 0, none⟩))) w1)
 (hgd : o.guard = none := by rfl)
 (hrun : (execOp a.eval o).run P W = .ok (.value (.pointer (some ⟨W.heap.size, 0, none⟩))) (W.alloc (.cells cs t (0, 0))) := by first | (go_simp; done) | (go_simp; rfl))
 (kI : IsS83 w0 W0 g f0 f1 → IsS83 w0 W g f0' f1' := by (intro hb_; repeat (first | (with_reducible first | exact hb_ | apply IsS83.alloc | apply IsS83.drewN | apply IsS83.drew | refine IsS83.far ?_ (Aside0.out (by with_reducible assumption)) _) | exact hb_))) (kK : KeepBut w W1 g none → KeepBut w W g none := by (exact fun h_ => keep_later h_)) (kB : Below w0.heap.size w0 W2 → Below w0.heap.size w0 W := by (exact fun h_ => below_later h_)) : wpList P ops Q (o :: rest) a W :=
 box_event hgd hd hrun fun g' hg w1 hbox hb => by
  have h1 := kI hI.out
  have h2 := kK hK.out
  have h3 := kB hB.out
  have h4 : w.heap.size ≤ g' := by rw [hg]; exact keep_size h2
  have h5 : g ≠ g' := by rw [hg]; exact Nat.ne_of_lt (IsS83.lt h1)
  exact h g' w1 ⟨hbox⟩ ⟨h4⟩ ⟨Nat.le_trans hW.out h4⟩ ⟨h5⟩ ⟨h5.symm⟩ ⟨IsS83.below h1 hb⟩ ⟨KeepBut.trans h2 (KeepBut.of_below hb g none) (.inl rfl)⟩ ⟨below_step h3 hb⟩ hg hb
theorem IsS83.bx {w w0 W0 W1 W2 W : World} {g : Nat} {f0 f0' : List (S76)} {f1 f1' : List Int} (N : Tmp) (hd : o.dst = some N) (cs : Array Value) (t : TypeId) (hI : Aside0 (IsS83 w0 W0 g f0 f1)) (hK : Aside0 (KeepBut w W1 g none)) (hB : Aside0 (Below w0.heap.size w0 W2)) (hW : Aside0 (w0.heap.size ≤ w.heap.size))
 (h : ∀ g' w1, Aside0 (w1.heap[g']? = some (.cells cs t (0, 0))) → Aside0 (w.heap.size ≤ g') → Aside0 (w0.heap.size ≤ g') → Aside0 (g ≠ g') → Aside0 (g' ≠ g) → Aside0 (IsS83 w0 w1 g f0' f1') → Aside0 (KeepBut w w1 g none) → Aside0 (Below w0.heap.size w0 w1) → wpList P ops Q rest (a.put o.dst (.pointer (some ⟨g', 0, none⟩))) w1)
 (hgd : o.guard = none := by rfl)
 (hrun : (execOp a.eval o).run P W = .ok (.value (.pointer (some ⟨W.heap.size, 0, none⟩))) (W.alloc (.cells cs t (0, 0))) := by first | (go_simp; done) | (go_simp; rfl))
 (kI : IsS83 w0 W0 g f0 f1 → IsS83 w0 W g f0' f1' := by (intro hb_; repeat (first | (with_reducible first | exact hb_ | apply IsS83.alloc | apply IsS83.drewN | apply IsS83.drew | refine IsS83.far ?_ (Aside0.out (by with_reducible assumption)) _) | exact hb_))) (kK : KeepBut w W1 g none → KeepBut w W g none := by (exact fun h_ => keep_later h_)) (kB : Below w0.heap.size w0 W2 → Below w0.heap.size w0 W := by (exact fun h_ => below_later h_)) : wpList P ops Q (o :: rest) a W :=
 IsS83.bv N hd cs t hI hK hB hW (fun g' w1 a1 a2 a3 a4 a5 a6 a7 a8 _ _ => h g' w1 a1 a2 a3 a4 a5 a6 a7 a8) hgd hrun kI kK kB
end
theorem cellS83_0 {W : World} {g : Nat} {A0 : Option Addr} {c0 : Nat} {A1 : Option Addr} {c1 : Nat} {f0 : List (S76)} {f1 : List Int} (h : W.heap[g]? = some (.cells #[.slice A0 f0.length c0, .slice A1 f1.length c1] 83 (0, 0))) : W.cell? ⟨g, 0, none⟩ = some (.slice A0 f0.length c0) := (blk_cell h 0).trans rfl
theorem cellS83_1 {W : World} {g : Nat} {A0 : Option Addr} {c0 : Nat} {A1 : Option Addr} {c1 : Nat} {f0 : List (S76)} {f1 : List Int} (h : W.heap[g]? = some (.cells #[.slice A0 f0.length c0, .slice A1 f1.length c1] 83 (0, 0))) : W.cell? ⟨g, 1, none⟩ = some (.slice A1 f1.length c1) := (blk_cell h 1).trans rfl
theorem IsS83.new (w0 W : World) (A0 : Option Addr) (c0 : Nat) (A1 : Option Addr) (c1 : Nat) (f0 : List (S76)) (f1 : List Int) (hB : Below w0.heap.size w0 W) (hr0 : Kd.C k76 w0 A0 f0.length f0) (hr1 : Kd.C (Kd.int .i64) w0 A1 f1.length f1) : IsS83 w0 (W.alloc (.cells #[.slice A0 f0.length c0, .slice A1 f1.length c1] 83)) W.heap.size f0 f1 := ⟨A0, c0, A1, c1, by simpa using heap_alloc_new W _, hB.size, hr0, hr1⟩

/-! ### impl_treeOf: function 22 -/
/-- A state whose second field's row lies in the block ahead of its own. -/
def TsS83 (w0 W : World) (g : Nat) (f0 : List (S76)) (f1 : List Int) : Prop := ∃ A0 c0, W.heap[g]? = some (.cells #[.slice A0 f0.length c0, .slice (some ⟨g - 1, 0, none⟩) f1.length f1.length] 83 (0, 0)) ∧ (w0.heap.size ≤ g ∧ W.heap[g - 1]? = some (.cells (nums .i64 f1).toArray 3 (0, 0)) ∧ w0.heap.size ≤ g - 1 ∧ 1 ≤ g ∧ f1.length ≤ 9223372036854775807) ∧ Kd.C k76 w0 A0 f0.length f0
section
variable {w0 W : World} {g : Nat} {f0 : List (S76)} {f1 : List Int}
theorem TsS83.step {W1 : World} (h : TsS83 w0 W g f0 f1) (h1 : W1.heap[g]? = W.heap[g]?) (h2 : W1.heap[g - 1]? = W.heap[g - 1]?) : TsS83 w0 W1 g f0 f1 := by
 obtain ⟨A0, c0, a, ⟨b, c, d, e⟩, f⟩ := h
 exact ⟨A0, c0, h1.trans a, ⟨b, h2.trans c, d, e⟩, f⟩
theorem TsS83.lt (h : TsS83 w0 W g f0 f1) : g < W.heap.size := by
 obtain ⟨A0, c0, a, _⟩ := h
 exact blk_lt a
theorem TsS83.ge (h : TsS83 w0 W g f0 f1) : w0.heap.size ≤ g := by
 obtain ⟨_, _, _, ⟨b, _⟩, _⟩ := h
 exact b
theorem TsS83.ge1 (h : TsS83 w0 W g f0 f1) : w0.heap.size ≤ g - 1 := by
 obtain ⟨_, _, _, ⟨_, _, d, _⟩, _⟩ := h
 exact d
theorem TsS83.below {W1 : World} (h : TsS83 w0 W g f0 f1) (hw : Below W.heap.size W W1) : TsS83 w0 W1 g f0 f1 :=
  h.step (hw.block g h.lt) (hw.block (g - 1) (by have := h.lt; omega))
theorem TsS83.alloc (h : TsS83 w0 W g f0 f1) (o : Obj) : TsS83 w0 (W.alloc o) g f0 f1 := h.below (below_alloc (Below.refl _ _) o)
theorem TsS83.drewN (h : TsS83 w0 W g f0 f1) (m : Nat) : TsS83 w0 (W.drewN m) g f0 f1 := h
theorem TsS83.drew (h : TsS83 w0 W g f0 f1) : TsS83 w0 W.drew g f0 f1 := h
theorem TsS83.at_ {w' : World} {m : Nat} (hq : W.drewN m = w') (h : TsS83 w0 W g f0 f1) : TsS83 w0 w' g f0 f1 := by subst hq; exact TsS83.drewN h m
theorem TsS83.far {p : Addr} (h : TsS83 w0 W g f0 f1) (hne : g ≠ p.block) (hne1 : g - 1 ≠ p.block) (u : Value) : TsS83 w0 (W.setCell p u) g f0 f1 :=
  h.step (Below.heap_setCell W p u g hne) (Below.heap_setCell W p u (g - 1) hne1)
theorem TsS83.acell (h : TsS83 w0 W g f0 f1) {i : Int} (h0 : 0 ≤ i) (h1 : i < (f1.length : Int)) : W.cell? ⟨g - 1, i.toNat, none⟩ = some (.int .i64 (rd f1 i)) := by
 obtain ⟨_, _, _, ⟨_, c, _, _⟩, _⟩ := h
 refine (blk_cell c i.toNat).trans ?_
 have e : i.toNat < f1.length := by omega
 simp [nums, rd, e]
theorem TsS83.afree (h : TsS83 w0 W g f0 f1) (j : Nat) : W.frozen? ⟨g - 1, j, none⟩ = false := by
 obtain ⟨_, _, _, ⟨_, c, _, _⟩, _⟩ := h
 exact blk_frozen c j
theorem TsS83.set_1 (h : TsS83 w0 W g f0 f1) (i : Nat) (x : Int) : TsS83 w0 (W.setCell ⟨g - 1, i, none⟩ (.int .i64 x)) g f0 (f1.set i x) := by
 have hlt := h.lt
 obtain ⟨A0, c0, a, ⟨b, c, d, e⟩, f⟩ := h
 refine ⟨A0, c0, ?_, ⟨b, ?_, d, e.1, by rw [List.length_set]; exact e.2⟩, f⟩
 · rw [List.length_set]; exact (Below.heap_setCell W _ _ g (by show g ≠ g - 1; omega)).trans a
 have h2 := blk_set c i (.int .i64 x)
 have e2 : ((nums .i64 f1).toArray.setIfInBounds i (.int .i64 x)) = (nums .i64 (f1.set i x)).toArray := by simp [nums, List.map_set]
 rw [← e2]; exact h2
theorem cellT83_0 {A0 : Option Addr} {c0 : Nat} (h : W.heap[g]? = some (.cells #[.slice A0 f0.length c0, .slice (some ⟨g - 1, 0, none⟩) f1.length f1.length] 83 (0, 0))) : W.cell? ⟨g, 0, none⟩ = some (.slice A0 f0.length c0) := (blk_cell h 0).trans rfl
theorem cellT83_1 {A0 : Option Addr} {c0 : Nat} (h : W.heap[g]? = some (.cells #[.slice A0 f0.length c0, .slice (some ⟨g - 1, 0, none⟩) f1.length f1.length] 83 (0, 0))) : W.cell? ⟨g, 1, none⟩ = some (.slice (some ⟨g - 1, 0, none⟩) f1.length f1.length) := (blk_cell h 1).trans rfl
end
theorem arr_ne {g n b : Nat} (h : g < n) (k : n ≤ b) : g - 1 ≠ b := by omega
theorem arr_neS {g n b : Nat} (h : g < n) (k : n ≤ b) : some b ≠ some (g - 1) := by intro e; injection e with e; omega
theorem keep_allocR {w W : World} {g : Nat} {row : Option Nat} (h : KeepBut w W g row) (o : Obj) : KeepBut w (W.alloc o) g row := ⟨Nat.le_trans h.1 (by simp), fun i hi h1 h2 => ((below_alloc (Below.refl W.heap.size W) o).block i (Nat.lt_of_lt_of_le hi h.1)).trans (h.2 i hi h1 h2)⟩
theorem keep_setR {w W : World} {g r : Nat} (h : KeepBut w W g (some r)) (j : Nat) (u : Value) : KeepBut w (W.setCell ⟨r, j, none⟩ u) g (some r) := ⟨Nat.le_trans h.1 (by simp), fun i hi h1 h2 => (Below.heap_setCell W _ u i (fun e => h2 (by rw [e]))).trans (h.2 i hi h1 h2)⟩
/-! ### impl_tree_measure: function 42 -/
mutual
def impl_tree_measure.j0 : Nat → Int → Int → Bool → List (S76) → List Int → Option (Int × List Int)
  | 0, _, _, _, _, _ => none
  | k + 1, x1, x2, x32, x1000, x1001 => if x32 = true then (some ((-1), x1001)) else (if 0 ≤ x1 then (if x1 < (x1000.length : Int) then (impl_tree_measure.l0 k x1 x2 (wrap64 (x1 + 1)) 0 ((rd_T76 x1000 x1).f4) 0 x1000 x1001 ((rd_T76 x1000 x1).f0) ((rd_T76 x1000 x1).f1) ((rd_T76 x1000 x1).f2) ((rd_T76 x1000 x1).f3) ((rd_T76 x1000 x1).f4)) else (none)) else (none))
def impl_tree_measure.l0 : Nat → Int → Int → Int → Int → Int → Int → List (S76) → List Int → Int → Int → Int → ByteArray → Int → Option (Int × List Int)
  | 0, _, _, _, _, _, _, _, _, _, _, _, _, _ => none
  | k + 1, x1, x2, x8, x9, x43, x44, x1000, x1001, x698000, x698001, x698002, x698003, x698004 => if x44 < x43 then (if x8 ≥ (x1000.length : Int) then (some ((-1), x1001)) else (if 0 ≤ x8 then (if x8 < (x1000.length : Int) then (if x698000 = 9 then (if ((rd_T76 x1000 x8).f0) = x698002 then (impl_tree_measure.j2 k x1 x2 x8 x9 x43 x44 (((rd_T76 x1000 x8).f1) != 0) x1000 x1001 x698000 x698001 x698002 x698003 x698004 ((rd_T76 x1000 x8).f0) ((rd_T76 x1000 x8).f1) ((rd_T76 x1000 x8).f2) ((rd_T76 x1000 x8).f3) ((rd_T76 x1000 x8).f4)) else (impl_tree_measure.j2 k x1 x2 x8 x9 x43 x44 true x1000 x1001 x698000 x698001 x698002 x698003 x698004 ((rd_T76 x1000 x8).f0) ((rd_T76 x1000 x8).f1) ((rd_T76 x1000 x8).f2) ((rd_T76 x1000 x8).f3) ((rd_T76 x1000 x8).f4))) else (impl_tree_measure.j2 k x1 x2 x8 x9 x43 x44 false x1000 x1001 x698000 x698001 x698002 x698003 x698004 ((rd_T76 x1000 x8).f0) ((rd_T76 x1000 x8).f1) ((rd_T76 x1000 x8).f2) ((rd_T76 x1000 x8).f3) ((rd_T76 x1000 x8).f4))) else (none)) else (none))) else (if 0 ≤ x1 then (if x1 < (x1001.length : Int) then (some (x8, x1001.set (x1 : Int).toNat x8)) else (none)) else (none))
def impl_tree_measure.j2 : Nat → Int → Int → Int → Int → Int → Int → Bool → List (S76) → List Int → Int → Int → Int → ByteArray → Int → Int → Int → Int → ByteArray → Int → Option (Int × List Int)
  | 0, _, _, _, _, _, _, _, _, _, _, _, _, _, _, _, _, _, _, _ => none
  | k + 1, x1, x2, x8, x9, x43, x44, x74, x1000, x1001, x698000, x698001, x698002, x698003, x698004, x700000, x700001, x700002, x700003, x700004 => if x74 = true then (some ((-1), x1001)) else (if x698000 = 12 then ((impl_within.f x700001 (wrap64 (x9 + 1)) 1000).bind fun t700 => (impl_tree_measure.j3 k x1 x2 x8 x43 x44 (!t700) x1000 x1001 x698000 x698001 x698002 x698003 x698004 x700000 x700001 x700002 x700003 x700004)) else (impl_tree_measure.j3 k x1 x2 x8 x43 x44 false x1000 x1001 x698000 x698001 x698002 x698003 x698004 x700000 x700001 x700002 x700003 x700004))
def impl_tree_measure.j3 : Nat → Int → Int → Int → Int → Int → Bool → List (S76) → List Int → Int → Int → Int → ByteArray → Int → Int → Int → Int → ByteArray → Int → Option (Int × List Int)
  | 0, _, _, _, _, _, _, _, _, _, _, _, _, _, _, _, _, _, _ => none
  | k + 1, x1, x2, x8, x43, x44, x85, x1000, x1001, x698000, x698001, x698002, x698003, x698004, x700000, x700001, x700002, x700003, x700004 => if x85 = true then (some ((-1), x1001)) else ((impl_tree_measure.f k x1000 x1001 x8 (wrap64 (x2 + 1))).bind fun bt701 => (if bt701.1 < 0 then (some ((-1), bt701.2)) else (impl_tree_measure.l0 k x1 x2 bt701.1 x700001 x43 (wrap64 (x44 + 1)) x1000 bt701.2 x698000 x698001 x698002 x698003 x698004)))
def impl_tree_measure.f : Nat → List (S76) → List Int → Int → Int → Option (Int × List Int)
  | 0, _, _, _, _ => none
  | k + 1, s0_0, s0_1, a1, a2 => if a1 ≥ (s0_0.length : Int) then (impl_tree_measure.j0 k a1 a2 true s0_0 s0_1) else (if a2 > 12 then (impl_tree_measure.j0 k a1 a2 true s0_0 s0_1) else (if 0 ≤ a1 then (if a1 < (s0_0.length : Int) then ((impl_nodeOk.f k ((rd_T76 s0_0 a1).f0) ((rd_T76 s0_0 a1).f1) ((rd_T76 s0_0 a1).f2) ((rd_T76 s0_0 a1).f3) ((rd_T76 s0_0 a1).f4)).bind fun t695 => (impl_tree_measure.j0 k a1 a2 (!t695) s0_0 s0_1)) else (none)) else (none)))
end
theorem impl_tree_measure.calls (k : Nat) : ∀ (g : Nat) (s0_0 : List (S76)) (s0_1 : List Int) (a1 : Int) (a2 : Int) (r1 : Int) (r2 : List Int) (w0 w : World) (hI : TsS83 w0 w g s0_0 s0_1) (hB : Below w0.heap.size w0 w) (h : impl_tree_measure.f k s0_0 s0_1 a1 a2 = some (r1, r2)),
    Calls Try.prog 42 #[.pointer (some ⟨g, 0, none⟩), .int .i64 a1, .int .i64 a2] w fun e w' => e = .returned (.int .i64 r1) ∧ TsS83 w0 w' g s0_0 r2 ∧ Below w0.heap.size w0 w' ∧ KeepBut w w' g (some (g - 1)) := by
 induction k using Nat.strongRecOn with
 | _ k ih =>
 intro g s0_0 s0_1 a1 a2 r1 r2 w0 w hI hB h
 cases k with
 | zero => exact absurd h (by simp [impl_tree_measure.f])
 | succ k =>
 simp only [impl_tree_measure.f] at h
 have hu76 := Try.underlying76
 have HI0 := am hI
 have HLT := am hI.lt
 have HK := am (KeepBut.refl w g (some (g - 1)))
 have HL := am hB.size
 clear hI
 have HW0 := am hB.size
 have HB := am hB
 clear hB
 have H : (if a1 ≥ (s0_0.length : Int) then (impl_tree_measure.j0 k a1 a2 true s0_0 s0_1) else (if a2 > 12 then (impl_tree_measure.j0 k a1 a2 true s0_0 s0_1) else (if 0 ≤ a1 then (if a1 < (s0_0.length : Int) then ((impl_nodeOk.f k ((rd_T76 s0_0 a1).f0) ((rd_T76 s0_0 a1).f1) ((rd_T76 s0_0 a1).f2) ((rd_T76 s0_0 a1).f3) ((rd_T76 s0_0 a1).f4)).bind fun t695 => (impl_tree_measure.j0 k a1 a2 (!t695) s0_0 s0_1)) else (none)) else (none)))) = some (r1, r2) := h
 clear h
 have HC4 := am H
 clear H
 go_enter Try.func42, Try.ntmps42
 go_upto_region 1 with (fail)
 go_cut [32] (fun v32 wc => ∃ (kq : Nat) (x32_3 : Bool), v32 = .bool x32_3 ∧ Aside0 (impl_tree_measure.j0 kq a1 a2 x32_3 s0_0 s0_1 = some (r1, r2)) ∧ Aside0 (kq ≤ k) ∧ Aside0 (TsS83 w0 wc g s0_0 s0_1) ∧ Aside0 (KeepBut w wc g (some (g - 1))) ∧ Aside0 (Below w0.heap.size w0 wc))
 case first =>
  have H := HC4.out
  clear HC4
  replace H := ige H; obtain ⟨c5b0, H⟩ | ⟨c5b0, H⟩ := H
  · (first | rw [c5b0] | (simp only [i64_w, i32_w]; rw [c5b0]) | skip)
    have H' := am H; clear H
    obtain ⟨ASz6_0, cSz6_0, HGz6, hgz6, HSz6_0⟩ := HI0.out
    have hcz6_0 := cellT83_0 HGz6
    have hcz6_1 := cellT83_1 HGz6
    have hfz6_1 := blk_frozen HGz6 1
    clear HGz6 hgz6
    go_wp2
    go_meet
    case rel => exact ⟨_, (true), sr, H', ⟨by first | omega | exact Nat.le_refl _⟩, ⟨by repeat (first | (with_reducible first | exact HI0.out | apply TsS83.alloc | apply TsS83.drewN | apply TsS83.drew | apply TsS83.set_1) | exact HI0.out)⟩, ⟨by repeat (first | (with_reducible first | exact HK.out | apply KeepBut.set_ | apply keep_setR | apply keep_drewN | apply keep_drew | apply keep_allocR) | exact HK.out)⟩, ⟨by repeat (first | (with_reducible first | exact HB.out | apply below_alloc | apply pw_below_drewN | apply below_drew1 | refine below_set ?_ (TsS83.ge HI0.out) | refine below_set ?_ (TsS83.ge1 HI0.out)) | exact HB.out)⟩⟩
  (first | rw [c5b0] | (simp only [i64_w, i32_w]; rw [c5b0]) | skip)
  replace H := igt H; obtain ⟨c7b0, H⟩ | ⟨c7b0, H⟩ := H
  · have H' := am H; clear H
    obtain ⟨ASz8_0, cSz8_0, HGz8, hgz8, HSz8_0⟩ := HI0.out
    have hcz8_0 := cellT83_0 HGz8
    have hcz8_1 := cellT83_1 HGz8
    have hfz8_1 := blk_frozen HGz8 1
    clear HGz8 hgz8
    go_wp2
    go_meet
    case rel => exact ⟨_, (true), sr, H', ⟨by first | omega | exact Nat.le_refl _⟩, ⟨by repeat (first | (with_reducible first | exact HI0.out | apply TsS83.alloc | apply TsS83.drewN | apply TsS83.drew | apply TsS83.set_1) | exact HI0.out)⟩, ⟨by repeat (first | (with_reducible first | exact HK.out | apply KeepBut.set_ | apply keep_setR | apply keep_drewN | apply keep_drew | apply keep_allocR) | exact HK.out)⟩, ⟨by repeat (first | (with_reducible first | exact HB.out | apply below_alloc | apply pw_below_drewN | apply below_drew1 | refine below_set ?_ (TsS83.ge HI0.out) | refine below_set ?_ (TsS83.ge1 HI0.out)) | exact HB.out)⟩⟩
  replace H := if_dd H; obtain ⟨c9b0, c10b0, H⟩ := H
  replace H := bnd H; obtain ⟨t695, A11, H⟩ := H
  have H' := am H; clear H
  obtain ⟨ASz12_0, cSz12_0, HGz12, hgz12, HSz12_0⟩ := HI0.out
  have hcz12_0 := cellT83_0 HGz12
  have hcz12_1 := cellT83_1 HGz12
  have hfz12_1 := blk_frozen HGz12 1
  clear HGz12 hgz12
  have p694 : 0 ≤ (a1 : Int) := dcd
  have q694 : a1 < (s0_0.length : Int) := dcd
  obtain ⟨ad694, e694, hx694_0, hx694_1, hx694_2, hx694_3, hx694_4⟩ := at_T76 HSz12_0 a1 p694 q694
  cases e694
  replace hx694_0 := pw_cell_below HB.out hx694_0
  replace hx694_1 := pw_cell_below HB.out hx694_1
  replace hx694_2 := pw_cell_below HB.out hx694_2
  replace hx694_3 := pw_cell_below HB.out hx694_3
  replace hx694_4 := pw_cell_below HB.out hx694_4
  replace p694 := eq_true p694
  replace q694 := eq_true q694
  go_wp2_with (first | (go_at_call 60; (with_reducible refine (impl_nodeOk.calls A11.out).mono ?_); rintro e w13 ⟨rfl, hb⟩; replace HK := am (KeepBut.trans (by repeat (first | (with_reducible first | exact HK.out | apply KeepBut.set_ | apply keep_setR | apply keep_drewN | apply keep_drew | apply keep_allocR) | exact HK.out)) (KeepBut.of_below hb g (some (g - 1))) (.inl rfl)); replace HB := am (below_step (by repeat (first | (with_reducible first | exact HB.out | apply below_alloc | apply pw_below_drewN | apply below_drew1 | refine below_set ?_ (TsS83.ge HI0.out) | refine below_set ?_ (TsS83.ge1 HI0.out)) | exact HB.out)) hb); replace HI0 := am (TsS83.below (by repeat (first | (with_reducible first | exact HI0.out | apply TsS83.alloc | apply TsS83.drewN | apply TsS83.drew | apply TsS83.set_1) | exact HI0.out)) hb); clear hb))
  go_meet
  case rel => exact ⟨_, (!t695), sr, H', ⟨by first | omega | exact Nat.le_refl _⟩, ⟨by repeat (first | (with_reducible first | exact HI0.out | apply TsS83.alloc | apply TsS83.drewN | apply TsS83.drew | apply TsS83.set_1) | exact HI0.out)⟩, ⟨by repeat (first | (with_reducible first | exact HK.out | apply KeepBut.set_ | apply keep_setR | apply keep_drewN | apply keep_drew | apply keep_allocR) | exact HK.out)⟩, ⟨by repeat (first | (with_reducible first | exact HB.out | apply below_alloc | apply pw_below_drewN | apply below_drew1 | refine below_set ?_ (TsS83.ge HI0.out) | refine below_set ?_ (TsS83.ge1 HI0.out)) | exact HB.out)⟩⟩
 clear HC4
 try clear c1
 obtain ⟨kq, x32_3, rfl, HA, HJ3, HI0, HK, HB⟩ := hcut
 cases kq with
 | zero => exact absurd HA.out (by simp [impl_tree_measure.j0])
 | succ kj3 => ?_
 have H := HA.out
 clear HA
 simp only [impl_tree_measure.j0] at H
 replace H := ibt H; obtain ⟨rfl, H⟩ | ⟨rfl, H⟩ := H
 · replace H := sj2 H; obtain ⟨rfl, rfl⟩ := H
   go_wp2
   go_ret
   exact fin_ ⟨by repeat (first | (with_reducible first | exact HI0.out | apply TsS83.alloc | apply TsS83.drewN | apply TsS83.drew | apply TsS83.set_1) | exact HI0.out), by repeat (first | (with_reducible first | exact HB.out | apply below_alloc | apply pw_below_drewN | apply below_drew1 | refine below_set ?_ (TsS83.ge HI0.out) | refine below_set ?_ (TsS83.ge1 HI0.out)) | exact HB.out), by repeat (first | (with_reducible first | exact HK.out | apply KeepBut.set_ | apply keep_setR | apply keep_drewN | apply keep_drew | apply keep_allocR) | exact HK.out)⟩
 replace H := if_dd H; obtain ⟨c15b0, c16b0, H⟩ := H
 have H' := am H; clear H
 obtain ⟨ASz17_0, cSz17_0, HGz17, hgz17, HSz17_0⟩ := HI0.out
 have hcz17_0 := cellT83_0 HGz17
 have hcz17_1 := cellT83_1 HGz17
 have hfz17_1 := blk_frozen HGz17 1
 clear HGz17 hgz17
 have p696 : 0 ≤ (a1 : Int) := dcd
 have q696 : a1 < (s0_0.length : Int) := dcd
 obtain ⟨ad696, e696, hx696_0, hx696_1, hx696_2, hx696_3, hx696_4⟩ := at_T76 HSz17_0 a1 p696 q696
 cases e696
 replace hx696_0 := pw_cell_below HB.out hx696_0
 replace hx696_1 := pw_cell_below HB.out hx696_1
 replace hx696_2 := pw_cell_below HB.out hx696_2
 replace hx696_3 := pw_cell_below HB.out hx696_3
 replace hx696_4 := pw_cell_below HB.out hx696_4
 replace p696 := eq_true p696
 replace q696 := eq_true q696
 go_wp2_with (first | ((with_reducible refine gd 7 rfl ?_); refine bx_ 7 #[.int .i64 0, .int .i64 0, .int .i64 0, .string ⟨#[]⟩, .int .i64 0] 76 ?_; intro gb697 hg w18 hbox hb; have BK697 := am hbox; have GW697 := am ((by rw [hg]; exact (keep_size (w := w) (g := g) (row := some (g - 1)) (by repeat (first | (with_reducible first | exact HK.out | apply KeepBut.set_ | apply keep_setR | apply keep_drewN | apply keep_drew | apply keep_allocR) | exact HK.out))) : w.heap.size ≤ gb697)); have GE697 := am ((Nat.le_trans HW0.out (by rw [hg]; exact (keep_size (w := w) (g := g) (row := some (g - 1)) (by repeat (first | (with_reducible first | exact HK.out | apply KeepBut.set_ | apply keep_setR | apply keep_drewN | apply keep_drew | apply keep_allocR) | exact HK.out))) : w.heap.size ≤ gb697) : w0.heap.size ≤ gb697)); have NB0_697 := am ((by rw [hg]; exact Nat.ne_of_lt (TsS83.lt (show TsS83 w0 _ g s0_0 s0_1 from by repeat (first | (with_reducible first | exact HI0.out | apply TsS83.alloc | apply TsS83.drewN | apply TsS83.drew | apply TsS83.set_1) | exact HI0.out))) : g ≠ gb697)); have NB697_0 := am ((by rw [hg]; exact Nat.ne_of_gt (TsS83.lt (show TsS83 w0 _ g s0_0 s0_1 from by repeat (first | (with_reducible first | exact HI0.out | apply TsS83.alloc | apply TsS83.drewN | apply TsS83.drew | apply TsS83.set_1) | exact HI0.out))) : gb697 ≠ g)); replace HK := am (KeepBut.trans (by repeat (first | (with_reducible first | exact HK.out | apply KeepBut.set_ | apply keep_setR | apply keep_drewN | apply keep_drew | apply keep_allocR) | exact HK.out)) (KeepBut.of_below hb g (some (g - 1))) (.inl rfl)); replace HB := am (below_step (by repeat (first | (with_reducible first | exact HB.out | apply below_alloc | apply pw_below_drewN | apply below_drew1 | refine below_set ?_ (TsS83.ge HI0.out) | refine below_set ?_ (TsS83.ge1 HI0.out)) | exact HB.out)) hb); replace HI0 := am (TsS83.below (by repeat (first | (with_reducible first | exact HI0.out | apply TsS83.alloc | apply TsS83.drewN | apply TsS83.drew | apply TsS83.set_1) | exact HI0.out)) hb); clear hb hbox hg; obtain ⟨hnb19, hnc19⟩ := nbo NB697_0; obtain ⟨hcz20_0, hcz20_1, hcz20_2, hcz20_3, hcz20_4, hfz20_0, hfz20_1, hfz20_2, hfz20_3, hfz20_4⟩ := cl5 BK697))
 go_loopg [8, 9, 44] kj3 (fun kq v8 v9 v44 w' => ∃ (x8_2 : Int) (x9_2 : Int) (x44_2 : Int) (x1001_2 : List Int), v8 = .int .i64 x8_2 ∧ v9 = .int .i64 x9_2 ∧ v44 = .int .i64 x44_2 ∧ Aside0 (impl_tree_measure.l0 kq a1 a2 x8_2 x9_2 ((rd_T76 s0_0 a1).f4) x44_2 s0_0 x1001_2 ((rd_T76 s0_0 a1).f0) ((rd_T76 s0_0 a1).f1) ((rd_T76 s0_0 a1).f2) ((rd_T76 s0_0 a1).f3) ((rd_T76 s0_0 a1).f4) = some (r1, r2)) ∧ Aside0 (kq ≤ kj3) ∧ Aside0 (w'.heap[gb697]? = some (.cells #[.int .i64 ((rd_T76 s0_0 a1).f0), .int .i64 ((rd_T76 s0_0 a1).f1), .int .i64 ((rd_T76 s0_0 a1).f2), .string ((rd_T76 s0_0 a1).f3), .int .i64 ((rd_T76 s0_0 a1).f4)] 76 (0, 0))) ∧ Aside0 (TsS83 w0 w' g s0_0 x1001_2) ∧ Aside0 (KeepBut w w' g (some (g - 1))) ∧ Aside0 (Below w0.heap.size w0 w'))
 case atStart => exact ⟨(wrap64 (a1 + 1)), (0), (0), (s0_1), sr, sr, sr, H', ⟨Nat.le_refl _⟩, ⟨kL BK697⟩, ⟨by repeat (first | (with_reducible first | exact HI0.out | apply TsS83.alloc | apply TsS83.drewN | apply TsS83.drew | apply TsS83.set_1 | refine TsS83.far ?_ NB0_697.out (arr_ne HLT.out GW697.out) _) | exact HI0.out)⟩, ⟨by repeat (first | (with_reducible first | exact HK.out | apply KeepBut.set_ | apply keep_setR | apply keep_drewN | apply keep_drew | apply keep_allocR | refine keep_far ?_ (Aside0.out (by with_reducible assumption)) _) | exact HK.out)⟩, ⟨by repeat (first | (with_reducible first | exact HB.out | apply below_alloc | apply pw_below_drewN | apply below_drew1 | refine below_set ?_ (TsS83.ge HI0.out) | refine below_set ?_ (TsS83.ge1 HI0.out) | refine below_set ?_ GE697.out) | exact HB.out)⟩⟩
 clear H'
 try clear c1 c14 c15b0 c16b0 hcz17_0 hcz17_1 hcz20_0 hcz20_1 hcz20_2 hcz20_3 hcz20_4 hfz17_1 hfz20_0 hfz20_1 hfz20_2 hfz20_3 hfz20_4 hx696_0 hx696_1 hx696_2 hx696_3 hx696_4 p696 q696
 obtain ⟨x8_2, x9_2, x44_2, x1001_2, rfl, rfl, rfl, HA, HK2, BK697, HI0, HK, HB⟩ := hrel
 cases gk with
 | zero => exact absurd HA.out (by simp [impl_tree_measure.l0])
 | succ k2 => ?_
 have H := HA.out
 clear HA
 simp only [impl_tree_measure.l0] at H
 replace H := idc H; obtain ⟨c21b0, H⟩ | ⟨c21b0, H⟩ := H
 rotate_left
 · replace H := if_dd H; obtain ⟨c70b0, c71b0, H⟩ := H
   replace H := sj2 H; obtain ⟨rfl, rfl⟩ := H
   obtain ⟨ASz73_0, cSz73_0, HGz73, hgz73, HSz73_0⟩ := HI0.out
   have hcz73_0 := cellT83_0 HGz73
   have hcz73_1 := cellT83_1 HGz73
   have hfz73_1 := blk_frozen HGz73 1
   clear HGz73 hgz73
   have pa72 : 0 ≤ (a1 : Int) := dcd
   have qa72 : a1 < (x1001_2.length : Int) := dcd
   have hxa72 := TsS83.acell (by repeat (first | (with_reducible first | exact HI0.out | apply TsS83.alloc | apply TsS83.drewN | apply TsS83.drew | apply TsS83.set_1 | refine TsS83.far ?_ NB0_697.out (arr_ne HLT.out GW697.out) _) | exact HI0.out)) pa72 qa72
   have hfa72 := TsS83.afree (by repeat (first | (with_reducible first | exact HI0.out | apply TsS83.alloc | apply TsS83.drewN | apply TsS83.drew | apply TsS83.set_1 | refine TsS83.far ?_ NB0_697.out (arr_ne HLT.out GW697.out) _) | exact HI0.out)) (a1 : Int).toNat
   replace pa72 := eq_true pa72
   replace qa72 := eq_true qa72
   go_wp2
   go_ret
   exact fin_ ⟨by repeat (first | (with_reducible first | exact HI0.out | apply TsS83.alloc | apply TsS83.drewN | apply TsS83.drew | apply TsS83.set_1 | refine TsS83.far ?_ NB0_697.out (arr_ne HLT.out GW697.out) _) | exact HI0.out), by repeat (first | (with_reducible first | exact HB.out | apply below_alloc | apply pw_below_drewN | apply below_drew1 | refine below_set ?_ (TsS83.ge HI0.out) | refine below_set ?_ (TsS83.ge1 HI0.out) | refine below_set ?_ GE697.out) | exact HB.out), by repeat (first | (with_reducible first | exact HK.out | apply KeepBut.set_ | apply keep_setR | apply keep_drewN | apply keep_drew | apply keep_allocR | refine keep_far ?_ (Aside0.out (by with_reducible assumption)) _) | exact HK.out)⟩
 replace H := ige H; obtain ⟨c22b0, H⟩ | ⟨c22b0, H⟩ := H
 · replace H := sj2 H; obtain ⟨rfl, rfl⟩ := H
   obtain ⟨ASz23_0, cSz23_0, HGz23, hgz23, HSz23_0⟩ := HI0.out
   have hcz23_0 := cellT83_0 HGz23
   have hcz23_1 := cellT83_1 HGz23
   have hfz23_1 := blk_frozen HGz23 1
   clear HGz23 hgz23
   go_wp2
   go_ret
   exact fin_ ⟨by repeat (first | (with_reducible first | exact HI0.out | apply TsS83.alloc | apply TsS83.drewN | apply TsS83.drew | apply TsS83.set_1 | refine TsS83.far ?_ NB0_697.out (arr_ne HLT.out GW697.out) _) | exact HI0.out), by repeat (first | (with_reducible first | exact HB.out | apply below_alloc | apply pw_below_drewN | apply below_drew1 | refine below_set ?_ (TsS83.ge HI0.out) | refine below_set ?_ (TsS83.ge1 HI0.out) | refine below_set ?_ GE697.out) | exact HB.out), by repeat (first | (with_reducible first | exact HK.out | apply KeepBut.set_ | apply keep_setR | apply keep_drewN | apply keep_drew | apply keep_allocR | refine keep_far ?_ (Aside0.out (by with_reducible assumption)) _) | exact HK.out)⟩
 replace H := if_dd H; obtain ⟨c24b0, c25b0, H⟩ := H
 have HC26 := am H
 clear H
 obtain ⟨ASz27_0, cSz27_0, HGz27, hgz27, HSz27_0⟩ := HI0.out
 have hcz27_0 := cellT83_0 HGz27
 have hcz27_1 := cellT83_1 HGz27
 have hfz27_1 := blk_frozen HGz27 1
 clear HGz27 hgz27
 have p698 : 0 ≤ (x8_2 : Int) := dcd
 have q698 : x8_2 < (s0_0.length : Int) := dcd
 obtain ⟨ad698, e698, hx698_0, hx698_1, hx698_2, hx698_3, hx698_4⟩ := at_T76 HSz27_0 x8_2 p698 q698
 cases e698
 replace hx698_0 := pw_cell_below HB.out hx698_0
 replace hx698_1 := pw_cell_below HB.out hx698_1
 replace hx698_2 := pw_cell_below HB.out hx698_2
 replace hx698_3 := pw_cell_below HB.out hx698_3
 replace hx698_4 := pw_cell_below HB.out hx698_4
 replace p698 := eq_true p698
 replace q698 := eq_true q698
 go_upto_region 11 with (first | ((with_reducible refine gd 10 rfl ?_); refine bx_ 10 #[.int .i64 0, .int .i64 0, .int .i64 0, .string ⟨#[]⟩, .int .i64 0] 76 ?_; intro gb699 hg w28 hbox hb; have BK699 := am hbox; have GW699 := am ((by rw [hg]; exact (keep_size (w := w) (g := g) (row := some (g - 1)) (by repeat (first | (with_reducible first | exact HK.out | apply KeepBut.set_ | apply keep_setR | apply keep_drewN | apply keep_drew | apply keep_allocR | refine keep_far ?_ (Aside0.out (by with_reducible assumption)) _) | exact HK.out))) : w.heap.size ≤ gb699)); have GE699 := am ((Nat.le_trans HW0.out (by rw [hg]; exact (keep_size (w := w) (g := g) (row := some (g - 1)) (by repeat (first | (with_reducible first | exact HK.out | apply KeepBut.set_ | apply keep_setR | apply keep_drewN | apply keep_drew | apply keep_allocR | refine keep_far ?_ (Aside0.out (by with_reducible assumption)) _) | exact HK.out))) : w.heap.size ≤ gb699) : w0.heap.size ≤ gb699)); obtain ⟨NB697_699, NB699_697⟩ := nbp (nbl BK697 hg); have NB0_699 := am ((by rw [hg]; exact Nat.ne_of_lt (TsS83.lt (show TsS83 w0 _ g s0_0 x1001_2 from by repeat (first | (with_reducible first | exact HI0.out | apply TsS83.alloc | apply TsS83.drewN | apply TsS83.drew | apply TsS83.set_1 | refine TsS83.far ?_ NB0_697.out (arr_ne HLT.out GW697.out) _) | exact HI0.out))) : g ≠ gb699)); have NB699_0 := am ((by rw [hg]; exact Nat.ne_of_gt (TsS83.lt (show TsS83 w0 _ g s0_0 x1001_2 from by repeat (first | (with_reducible first | exact HI0.out | apply TsS83.alloc | apply TsS83.drewN | apply TsS83.drew | apply TsS83.set_1 | refine TsS83.far ?_ NB0_697.out (arr_ne HLT.out GW697.out) _) | exact HI0.out))) : gb699 ≠ g)); replace BK697 := bkb BK697 hb; replace HK := am (KeepBut.trans (by repeat (first | (with_reducible first | exact HK.out | apply KeepBut.set_ | apply keep_setR | apply keep_drewN | apply keep_drew | apply keep_allocR | refine keep_far ?_ (Aside0.out (by with_reducible assumption)) _) | exact HK.out)) (KeepBut.of_below hb g (some (g - 1))) (.inl rfl)); replace HB := am (below_step (by repeat (first | (with_reducible first | exact HB.out | apply below_alloc | apply pw_below_drewN | apply below_drew1 | refine below_set ?_ (TsS83.ge HI0.out) | refine below_set ?_ (TsS83.ge1 HI0.out) | refine below_set ?_ GE697.out) | exact HB.out)) hb); replace HI0 := am (TsS83.below (by repeat (first | (with_reducible first | exact HI0.out | apply TsS83.alloc | apply TsS83.drewN | apply TsS83.drew | apply TsS83.set_1 | refine TsS83.far ?_ NB0_697.out (arr_ne HLT.out GW697.out) _) | exact HI0.out)) hb); clear hb hbox hg; obtain ⟨hnb29, hnc29⟩ := nbo NB699_697; obtain ⟨hnb30, hnc30⟩ := nbo NB699_0; obtain ⟨hcz31_0, hcz31_1, hcz31_2, hcz31_3, hcz31_4, hfz31_0, hfz31_1, hfz31_2, hfz31_3, hfz31_4⟩ := cl5 BK699))
 (try simp only [Act.put, List.setIfInBounds_toArray, List.set_cons_zero, List.set_cons_succ])
 go_cut [74] (fun v74 wc => ∃ (kq : Nat) (x74_25 : Bool), v74 = .bool x74_25 ∧ Aside0 (impl_tree_measure.j2 kq a1 a2 x8_2 x9_2 ((rd_T76 s0_0 a1).f4) x44_2 x74_25 s0_0 x1001_2 ((rd_T76 s0_0 a1).f0) ((rd_T76 s0_0 a1).f1) ((rd_T76 s0_0 a1).f2) ((rd_T76 s0_0 a1).f3) ((rd_T76 s0_0 a1).f4) ((rd_T76 s0_0 x8_2).f0) ((rd_T76 s0_0 x8_2).f1) ((rd_T76 s0_0 x8_2).f2) ((rd_T76 s0_0 x8_2).f3) ((rd_T76 s0_0 x8_2).f4) = some (r1, r2)) ∧ Aside0 (kq ≤ k2) ∧ Aside0 (wc.heap[gb697]? = some (.cells #[.int .i64 ((rd_T76 s0_0 a1).f0), .int .i64 ((rd_T76 s0_0 a1).f1), .int .i64 ((rd_T76 s0_0 a1).f2), .string ((rd_T76 s0_0 a1).f3), .int .i64 ((rd_T76 s0_0 a1).f4)] 76 (0, 0))) ∧ Aside0 (wc.heap[gb699]? = some (.cells #[.int .i64 ((rd_T76 s0_0 x8_2).f0), .int .i64 ((rd_T76 s0_0 x8_2).f1), .int .i64 ((rd_T76 s0_0 x8_2).f2), .string ((rd_T76 s0_0 x8_2).f3), .int .i64 ((rd_T76 s0_0 x8_2).f4)] 76 (0, 0))) ∧ Aside0 (TsS83 w0 wc g s0_0 x1001_2) ∧ Aside0 (KeepBut w wc g (some (g - 1))) ∧ Aside0 (Below w0.heap.size w0 wc))
 case first =>
  have H := HC26.out
  clear HC26
  replace H := ieq H; obtain ⟨c32b0, c32b1, H⟩ | ⟨c32, c32b0, c32b1, H⟩ := H
  rotate_left
  · (first | rw [c32b0] | rw [c32b1] | (simp only [i64_w, i32_w]; rw [c32b0]) | skip)
    have H' := am H; clear H
    obtain ⟨hnb44, hnc44⟩ := nbo NB697_699
    obtain ⟨hnb45, hnc45⟩ := nbo NB697_0
    obtain ⟨_, _, _, _, _, _, _, _, _, _⟩ := cl5 BK697
    go_wp2
    go_meet
    case rel => exact ⟨_, (false), sr, H', ⟨by have := HJ3.out; have := HK2.out; first | omega | exact Nat.le_refl _⟩, ⟨kL BK697⟩, ⟨kL BK699⟩, ⟨by repeat (first | (with_reducible first | exact HI0.out | apply TsS83.alloc | apply TsS83.drewN | apply TsS83.drew | apply TsS83.set_1 | refine TsS83.far ?_ NB0_697.out (arr_ne HLT.out GW697.out) _ | refine TsS83.far ?_ NB0_699.out (arr_ne HLT.out GW699.out) _) | exact HI0.out)⟩, ⟨by repeat (first | (with_reducible first | exact HK.out | apply KeepBut.set_ | apply keep_setR | apply keep_drewN | apply keep_drew | apply keep_allocR | refine keep_far ?_ (Aside0.out (by with_reducible assumption)) _) | exact HK.out)⟩, ⟨by repeat (first | (with_reducible first | exact HB.out | apply below_alloc | apply pw_below_drewN | apply below_drew1 | refine below_set ?_ (TsS83.ge HI0.out) | refine below_set ?_ (TsS83.ge1 HI0.out) | refine below_set ?_ GE697.out | refine below_set ?_ GE699.out) | exact HB.out)⟩⟩
  (first | rw [c32b0] | rw [c32b1] | (simp only [i64_w, i32_w]; rw [c32b0]) | skip)
  replace H := ieq H; obtain ⟨c33b0, c33b1, H⟩ | ⟨c33, c33b0, c33b1, H⟩ := H
  rotate_left
  · have H' := am H; clear H
    obtain ⟨hnb39, hnc39⟩ := nbo NB697_699
    obtain ⟨hnb40, hnc40⟩ := nbo NB697_0
    obtain ⟨_, _, _, _, _, _, _, _, _, _⟩ := cl5 BK697
    obtain ⟨hnb42, hnc42⟩ := nbo NB699_0
    obtain ⟨_, _, _, _, _, _, _, _, _, _⟩ := cl5 BK699
    go_wp2
    go_meet
    case rel => exact ⟨_, (true), sr, H', ⟨by have := HJ3.out; have := HK2.out; first | omega | exact Nat.le_refl _⟩, ⟨kL BK697⟩, ⟨kL BK699⟩, ⟨by repeat (first | (with_reducible first | exact HI0.out | apply TsS83.alloc | apply TsS83.drewN | apply TsS83.drew | apply TsS83.set_1 | refine TsS83.far ?_ NB0_697.out (arr_ne HLT.out GW697.out) _ | refine TsS83.far ?_ NB0_699.out (arr_ne HLT.out GW699.out) _) | exact HI0.out)⟩, ⟨by repeat (first | (with_reducible first | exact HK.out | apply KeepBut.set_ | apply keep_setR | apply keep_drewN | apply keep_drew | apply keep_allocR | refine keep_far ?_ (Aside0.out (by with_reducible assumption)) _) | exact HK.out)⟩, ⟨by repeat (first | (with_reducible first | exact HB.out | apply below_alloc | apply pw_below_drewN | apply below_drew1 | refine below_set ?_ (TsS83.ge HI0.out) | refine below_set ?_ (TsS83.ge1 HI0.out) | refine below_set ?_ GE697.out | refine below_set ?_ GE699.out) | exact HB.out)⟩⟩
  have H' := am H; clear H
  obtain ⟨hnb34, hnc34⟩ := nbo NB697_699
  obtain ⟨hnb35, hnc35⟩ := nbo NB697_0
  obtain ⟨_, _, _, _, _, _, _, _, _, _⟩ := cl5 BK697
  obtain ⟨hnb37, hnc37⟩ := nbo NB699_0
  obtain ⟨_, _, _, _, _, _, _, _, _, _⟩ := cl5 BK699
  go_wp2
  go_meet
  case rel => exact ⟨_, ((((rd_T76 s0_0 x8_2).f1) != 0)), sr, H', ⟨by have := HJ3.out; have := HK2.out; first | omega | exact Nat.le_refl _⟩, ⟨kL BK697⟩, ⟨kL BK699⟩, ⟨by repeat (first | (with_reducible first | exact HI0.out | apply TsS83.alloc | apply TsS83.drewN | apply TsS83.drew | apply TsS83.set_1 | refine TsS83.far ?_ NB0_697.out (arr_ne HLT.out GW697.out) _ | refine TsS83.far ?_ NB0_699.out (arr_ne HLT.out GW699.out) _) | exact HI0.out)⟩, ⟨by repeat (first | (with_reducible first | exact HK.out | apply KeepBut.set_ | apply keep_setR | apply keep_drewN | apply keep_drew | apply keep_allocR | refine keep_far ?_ (Aside0.out (by with_reducible assumption)) _) | exact HK.out)⟩, ⟨by repeat (first | (with_reducible first | exact HB.out | apply below_alloc | apply pw_below_drewN | apply below_drew1 | refine below_set ?_ (TsS83.ge HI0.out) | refine below_set ?_ (TsS83.ge1 HI0.out) | refine below_set ?_ GE697.out | refine below_set ?_ GE699.out) | exact HB.out)⟩⟩
 clear HC26
 try clear c1 c14 c15b0 c16b0 c21 c21b0 c22 c22b0 c24b0 c25b0 hcz17_0 hcz17_1 hcz20_0 hcz20_1 hcz20_2 hcz20_3 hcz20_4 hcz27_0 hcz27_1 hcz31_0 hcz31_1 hcz31_2 hcz31_3 hcz31_4 hfz17_1 hfz20_0 hfz20_1 hfz20_2 hfz20_3 hfz20_4 hfz27_1 hfz31_0 hfz31_1 hfz31_2 hfz31_3 hfz31_4 hx696_0 hx696_1 hx696_2 hx696_3 hx696_4 hx698_0 hx698_1 hx698_2 hx698_3 hx698_4 p696 p698 q696 q698
 obtain ⟨kq, x74_25, rfl, HA, HJ25, BK697, BK699, HI0, HK, HB⟩ := hcut
 cases kq with
 | zero => exact absurd HA.out (by simp [impl_tree_measure.j2])
 | succ kj25 => ?_
 have H := HA.out
 clear HA
 simp only [impl_tree_measure.j2] at H
 replace H := ibt H; obtain ⟨rfl, H⟩ | ⟨rfl, H⟩ := H
 · replace H := sj2 H; obtain ⟨rfl, rfl⟩ := H
   go_wp2
   go_ret
   exact fin_ ⟨by repeat (first | (with_reducible first | exact HI0.out | apply TsS83.alloc | apply TsS83.drewN | apply TsS83.drew | apply TsS83.set_1 | refine TsS83.far ?_ NB0_697.out (arr_ne HLT.out GW697.out) _ | refine TsS83.far ?_ NB0_699.out (arr_ne HLT.out GW699.out) _) | exact HI0.out), by repeat (first | (with_reducible first | exact HB.out | apply below_alloc | apply pw_below_drewN | apply below_drew1 | refine below_set ?_ (TsS83.ge HI0.out) | refine below_set ?_ (TsS83.ge1 HI0.out) | refine below_set ?_ GE697.out | refine below_set ?_ GE699.out) | exact HB.out), by repeat (first | (with_reducible first | exact HK.out | apply KeepBut.set_ | apply keep_setR | apply keep_drewN | apply keep_drew | apply keep_allocR | refine keep_far ?_ (Aside0.out (by with_reducible assumption)) _) | exact HK.out)⟩
 have HC48 := am H
 clear H
 go_upto_region 13 with (fail)
 go_cut [85] (fun v85 wc => ∃ (kq : Nat) (x85_47 : Bool), v85 = .bool x85_47 ∧ Aside0 (impl_tree_measure.j3 kq a1 a2 x8_2 ((rd_T76 s0_0 a1).f4) x44_2 x85_47 s0_0 x1001_2 ((rd_T76 s0_0 a1).f0) ((rd_T76 s0_0 a1).f1) ((rd_T76 s0_0 a1).f2) ((rd_T76 s0_0 a1).f3) ((rd_T76 s0_0 a1).f4) ((rd_T76 s0_0 x8_2).f0) ((rd_T76 s0_0 x8_2).f1) ((rd_T76 s0_0 x8_2).f2) ((rd_T76 s0_0 x8_2).f3) ((rd_T76 s0_0 x8_2).f4) = some (r1, r2)) ∧ Aside0 (kq ≤ kj25) ∧ Aside0 (wc.heap[gb697]? = some (.cells #[.int .i64 ((rd_T76 s0_0 a1).f0), .int .i64 ((rd_T76 s0_0 a1).f1), .int .i64 ((rd_T76 s0_0 a1).f2), .string ((rd_T76 s0_0 a1).f3), .int .i64 ((rd_T76 s0_0 a1).f4)] 76 (0, 0))) ∧ Aside0 (wc.heap[gb699]? = some (.cells #[.int .i64 ((rd_T76 s0_0 x8_2).f0), .int .i64 ((rd_T76 s0_0 x8_2).f1), .int .i64 ((rd_T76 s0_0 x8_2).f2), .string ((rd_T76 s0_0 x8_2).f3), .int .i64 ((rd_T76 s0_0 x8_2).f4)] 76 (0, 0))) ∧ Aside0 (TsS83 w0 wc g s0_0 x1001_2) ∧ Aside0 (KeepBut w wc g (some (g - 1))) ∧ Aside0 (Below w0.heap.size w0 wc))
 case first =>
  have H := HC48.out
  clear HC48
  replace H := ieq H; obtain ⟨c49b0, c49b1, H⟩ | ⟨c49, c49b0, c49b1, H⟩ := H
  rotate_left
  · (first | rw [c49b0] | rw [c49b1] | (simp only [i64_w, i32_w]; rw [c49b0]) | skip)
    have H' := am H; clear H
    obtain ⟨hnb56, hnc56⟩ := nbo NB697_699
    obtain ⟨hnb57, hnc57⟩ := nbo NB697_0
    obtain ⟨_, _, _, _, _, _, _, _, _, _⟩ := cl5 BK697
    go_wp2
    go_meet
    case rel => exact ⟨_, (false), sr, H', ⟨by have := HJ3.out; have := HK2.out; have := HJ25.out; first | omega | exact Nat.le_refl _⟩, ⟨kL BK697⟩, ⟨kL BK699⟩, ⟨by repeat (first | (with_reducible first | exact HI0.out | apply TsS83.alloc | apply TsS83.drewN | apply TsS83.drew | apply TsS83.set_1 | refine TsS83.far ?_ NB0_697.out (arr_ne HLT.out GW697.out) _ | refine TsS83.far ?_ NB0_699.out (arr_ne HLT.out GW699.out) _) | exact HI0.out)⟩, ⟨by repeat (first | (with_reducible first | exact HK.out | apply KeepBut.set_ | apply keep_setR | apply keep_drewN | apply keep_drew | apply keep_allocR | refine keep_far ?_ (Aside0.out (by with_reducible assumption)) _) | exact HK.out)⟩, ⟨by repeat (first | (with_reducible first | exact HB.out | apply below_alloc | apply pw_below_drewN | apply below_drew1 | refine below_set ?_ (TsS83.ge HI0.out) | refine below_set ?_ (TsS83.ge1 HI0.out) | refine below_set ?_ GE697.out | refine below_set ?_ GE699.out) | exact HB.out)⟩⟩
  (first | rw [c49b0] | rw [c49b1] | (simp only [i64_w, i32_w]; rw [c49b0]) | skip)
  replace H := bnd H; obtain ⟨t700, A50, H⟩ := H
  have H' := am H; clear H
  obtain ⟨hnb51, hnc51⟩ := nbo NB697_699
  obtain ⟨hnb52, hnc52⟩ := nbo NB697_0
  obtain ⟨_, _, _, _, _, _, _, _, _, _⟩ := cl5 BK697
  obtain ⟨hnb54, hnc54⟩ := nbo NB699_0
  obtain ⟨_, _, _, _, _, _, _, _, _, _⟩ := cl5 BK699
  go_wp2_with (first | (go_at_call 31; (with_reducible refine (impl_within.calls A50.out).mono ?_); rintro e w' ⟨rfl, ⟨nd, rfl⟩⟩))
  go_meet
  case rel => exact ⟨_, (!t700), sr, H', ⟨by have := HJ3.out; have := HK2.out; have := HJ25.out; first | omega | exact Nat.le_refl _⟩, ⟨kL BK697⟩, ⟨kL BK699⟩, ⟨by repeat (first | (with_reducible first | exact HI0.out | apply TsS83.alloc | apply TsS83.drewN | apply TsS83.drew | apply TsS83.set_1 | refine TsS83.far ?_ NB0_697.out (arr_ne HLT.out GW697.out) _ | refine TsS83.far ?_ NB0_699.out (arr_ne HLT.out GW699.out) _) | exact HI0.out)⟩, ⟨by repeat (first | (with_reducible first | exact HK.out | apply KeepBut.set_ | apply keep_setR | apply keep_drewN | apply keep_drew | apply keep_allocR | refine keep_far ?_ (Aside0.out (by with_reducible assumption)) _) | exact HK.out)⟩, ⟨by repeat (first | (with_reducible first | exact HB.out | apply below_alloc | apply pw_below_drewN | apply below_drew1 | refine below_set ?_ (TsS83.ge HI0.out) | refine below_set ?_ (TsS83.ge1 HI0.out) | refine below_set ?_ GE697.out | refine below_set ?_ GE699.out) | exact HB.out)⟩⟩
 clear HC48
 try clear c1 c14 c15b0 c16b0 c21 c21b0 c22 c22b0 c24b0 c25b0 c47 hcz17_0 hcz17_1 hcz20_0 hcz20_1 hcz20_2 hcz20_3 hcz20_4 hcz27_0 hcz27_1 hcz31_0 hcz31_1 hcz31_2 hcz31_3 hcz31_4 hfz17_1 hfz20_0 hfz20_1 hfz20_2 hfz20_3 hfz20_4 hfz27_1 hfz31_0 hfz31_1 hfz31_2 hfz31_3 hfz31_4 hx696_0 hx696_1 hx696_2 hx696_3 hx696_4 hx698_0 hx698_1 hx698_2 hx698_3 hx698_4 p696 p698 q696 q698
 obtain ⟨kq, x85_47, rfl, HA, HJ47, BK697, BK699, HI0, HK, HB⟩ := hcut
 cases kq with
 | zero => exact absurd HA.out (by simp [impl_tree_measure.j3])
 | succ kj47 => ?_
 have H := HA.out
 clear HA
 simp only [impl_tree_measure.j3] at H
 replace H := ibt H; obtain ⟨rfl, H⟩ | ⟨rfl, H⟩ := H
 · replace H := sj2 H; obtain ⟨rfl, rfl⟩ := H
   go_wp2
   go_ret
   exact fin_ ⟨by repeat (first | (with_reducible first | exact HI0.out | apply TsS83.alloc | apply TsS83.drewN | apply TsS83.drew | apply TsS83.set_1 | refine TsS83.far ?_ NB0_697.out (arr_ne HLT.out GW697.out) _ | refine TsS83.far ?_ NB0_699.out (arr_ne HLT.out GW699.out) _) | exact HI0.out), by repeat (first | (with_reducible first | exact HB.out | apply below_alloc | apply pw_below_drewN | apply below_drew1 | refine below_set ?_ (TsS83.ge HI0.out) | refine below_set ?_ (TsS83.ge1 HI0.out) | refine below_set ?_ GE697.out | refine below_set ?_ GE699.out) | exact HB.out), by repeat (first | (with_reducible first | exact HK.out | apply KeepBut.set_ | apply keep_setR | apply keep_drewN | apply keep_drew | apply keep_allocR | refine keep_far ?_ (Aside0.out (by with_reducible assumption)) _) | exact HK.out)⟩
 replace H := bnd2 H; obtain ⟨t701, t702, A60, H⟩ := H; dsimp only at H
 replace H := idc H; obtain ⟨c61b0, H⟩ | ⟨c61b0, H⟩ := H
 · replace H := sj2 H; obtain ⟨rfl, rfl⟩ := H
   obtain ⟨hnb62, hnc62⟩ := nbo NB699_697
   obtain ⟨hnb63, hnc63⟩ := nbo NB699_0
   obtain ⟨_, _, _, _, _, _, _, _, _, _⟩ := cl5 BK699
   go_wp2_with (first | ((with_reducible refine gc 42 rfl ?_); refine gl_ (some 92) Try.func42 #[.pointer (some ⟨g, 0, none⟩), .int .i64 x8_2, .int .i64 (wrap64 (a2 + 1))] rfl ?_; (with_reducible refine (ih kj47 (by have := HJ3.out; have := HK2.out; have := HJ25.out; have := HJ47.out; omega) g s0_0 x1001_2 x8_2 (wrap64 (a2 + 1)) t701 t702 w0 _ ?side1 ?side2 A60.out).mono ?_); (case side1 => repeat (first | (with_reducible first | exact HI0.out | apply TsS83.alloc | apply TsS83.drewN | apply TsS83.drew | apply TsS83.set_1 | refine TsS83.far ?_ NB0_697.out (arr_ne HLT.out GW697.out) _ | refine TsS83.far ?_ NB0_699.out (arr_ne HLT.out GW699.out) _) | exact HI0.out)); (case side2 => repeat (first | (with_reducible first | exact HB.out | apply below_alloc | apply pw_below_drewN | apply below_drew1 | refine below_set ?_ (TsS83.ge HI0.out) | refine below_set ?_ (TsS83.ge1 HI0.out) | refine below_set ?_ GE697.out | refine below_set ?_ GE699.out) | exact HB.out)); rintro e w65 ⟨rfl, hi, hb, hk⟩; refine ⟨_, rfl, ?_⟩; replace BK697 := am (KeepBut.blk hk (g' := gb697) (o := .cells #[.int .i64 ((rd_T76 s0_0 a1).f0), .int .i64 ((rd_T76 s0_0 a1).f1), .int .i64 ((rd_T76 s0_0 a1).f2), .string ((rd_T76 s0_0 a1).f3), .int .i64 ((rd_T76 s0_0 a1).f4)] 76 (0, 0)) (blk_later BK697.out) NB697_0.out (arr_neS HLT.out GW697.out)); replace BK699 := am (KeepBut.blk hk (g' := gb699) (o := .cells #[.int .i64 ((rd_T76 s0_0 x8_2).f0), .int .i64 ((rd_T76 s0_0 x8_2).f1), .int .i64 ((rd_T76 s0_0 x8_2).f2), .string ((rd_T76 s0_0 x8_2).f3), .int .i64 ((rd_T76 s0_0 x8_2).f4)] 76 (0, 0)) (blk_later BK699.out) NB699_0.out (arr_neS HLT.out GW699.out)); replace HK := am (KeepBut.trans (by repeat (first | (with_reducible first | exact HK.out | apply KeepBut.set_ | apply keep_setR | apply keep_drewN | apply keep_drew | apply keep_allocR | refine keep_far ?_ (Aside0.out (by with_reducible assumption)) _) | exact HK.out)) hk (.inl rfl)); replace HB := am hb; replace HI0 := am hi; clear hb hk hi))
   go_ret
   exact fin_ ⟨by repeat (first | (with_reducible first | exact HI0.out | apply TsS83.alloc | apply TsS83.drewN | apply TsS83.drew | apply TsS83.set_1 | refine TsS83.far ?_ NB0_697.out (arr_ne HLT.out GW697.out) _ | refine TsS83.far ?_ NB0_699.out (arr_ne HLT.out GW699.out) _) | exact HI0.out), by repeat (first | (with_reducible first | exact HB.out | apply below_alloc | apply pw_below_drewN | apply below_drew1 | refine below_set ?_ (TsS83.ge HI0.out) | refine below_set ?_ (TsS83.ge1 HI0.out) | refine below_set ?_ GE697.out | refine below_set ?_ GE699.out) | exact HB.out), by repeat (first | (with_reducible first | exact HK.out | apply KeepBut.set_ | apply keep_setR | apply keep_drewN | apply keep_drew | apply keep_allocR | refine keep_far ?_ (Aside0.out (by with_reducible assumption)) _) | exact HK.out)⟩
 have H' := am H; clear H
 obtain ⟨hnb66, hnc66⟩ := nbo NB699_697
 obtain ⟨hnb67, hnc67⟩ := nbo NB699_0
 obtain ⟨_, _, _, _, _, _, _, _, _, _⟩ := cl5 BK699
 go_wp2_with (first | ((with_reducible refine gc 42 rfl ?_); refine gl_ (some 92) Try.func42 #[.pointer (some ⟨g, 0, none⟩), .int .i64 x8_2, .int .i64 (wrap64 (a2 + 1))] rfl ?_; (with_reducible refine (ih kj47 (by have := HJ3.out; have := HK2.out; have := HJ25.out; have := HJ47.out; omega) g s0_0 x1001_2 x8_2 (wrap64 (a2 + 1)) t701 t702 w0 _ ?side1 ?side2 A60.out).mono ?_); (case side1 => repeat (first | (with_reducible first | exact HI0.out | apply TsS83.alloc | apply TsS83.drewN | apply TsS83.drew | apply TsS83.set_1 | refine TsS83.far ?_ NB0_697.out (arr_ne HLT.out GW697.out) _ | refine TsS83.far ?_ NB0_699.out (arr_ne HLT.out GW699.out) _) | exact HI0.out)); (case side2 => repeat (first | (with_reducible first | exact HB.out | apply below_alloc | apply pw_below_drewN | apply below_drew1 | refine below_set ?_ (TsS83.ge HI0.out) | refine below_set ?_ (TsS83.ge1 HI0.out) | refine below_set ?_ GE697.out | refine below_set ?_ GE699.out) | exact HB.out)); rintro e w69 ⟨rfl, hi, hb, hk⟩; refine ⟨_, rfl, ?_⟩; replace BK697 := am (KeepBut.blk hk (g' := gb697) (o := .cells #[.int .i64 ((rd_T76 s0_0 a1).f0), .int .i64 ((rd_T76 s0_0 a1).f1), .int .i64 ((rd_T76 s0_0 a1).f2), .string ((rd_T76 s0_0 a1).f3), .int .i64 ((rd_T76 s0_0 a1).f4)] 76 (0, 0)) (blk_later BK697.out) NB697_0.out (arr_neS HLT.out GW697.out)); replace BK699 := am (KeepBut.blk hk (g' := gb699) (o := .cells #[.int .i64 ((rd_T76 s0_0 x8_2).f0), .int .i64 ((rd_T76 s0_0 x8_2).f1), .int .i64 ((rd_T76 s0_0 x8_2).f2), .string ((rd_T76 s0_0 x8_2).f3), .int .i64 ((rd_T76 s0_0 x8_2).f4)] 76 (0, 0)) (blk_later BK699.out) NB699_0.out (arr_neS HLT.out GW699.out)); replace HK := am (KeepBut.trans (by repeat (first | (with_reducible first | exact HK.out | apply KeepBut.set_ | apply keep_setR | apply keep_drewN | apply keep_drew | apply keep_allocR | refine keep_far ?_ (Aside0.out (by with_reducible assumption)) _) | exact HK.out)) hk (.inl rfl)); replace HB := am hb; replace HI0 := am hi; clear hb hk hi))
 go_roundg kj47
 case measure => have := HJ3.out; have := HK2.out; have := HJ25.out; have := HJ47.out; omega
 case rel => exact ⟨(t701), (((rd_T76 s0_0 x8_2).f1)), (wrap64 (x44_2 + 1)), (t702), sr, sr, sr, H', ⟨by have := HJ3.out; have := HK2.out; have := HJ25.out; have := HJ47.out; omega⟩, ⟨kL BK697⟩, ⟨by repeat (first | (with_reducible first | exact HI0.out | apply TsS83.alloc | apply TsS83.drewN | apply TsS83.drew | apply TsS83.set_1 | refine TsS83.far ?_ NB0_697.out (arr_ne HLT.out GW697.out) _ | refine TsS83.far ?_ NB0_699.out (arr_ne HLT.out GW699.out) _) | exact HI0.out)⟩, ⟨by repeat (first | (with_reducible first | exact HK.out | apply KeepBut.set_ | apply keep_setR | apply keep_drewN | apply keep_drew | apply keep_allocR | refine keep_far ?_ (Aside0.out (by with_reducible assumption)) _) | exact HK.out)⟩, ⟨by repeat (first | (with_reducible first | exact HB.out | apply below_alloc | apply pw_below_drewN | apply below_drew1 | refine below_set ?_ (TsS83.ge HI0.out) | refine below_set ?_ (TsS83.ge1 HI0.out) | refine below_set ?_ GE697.out | refine below_set ?_ GE699.out) | exact HB.out)⟩⟩
section
variable {P : Program} {ops : Array Oper} {rest : List Oper} {o : Oper} {a : Act} {Q : Exit → Act → World → Prop}
/-- 'make([]int, n)', and where the row lies. -/
theorem make_ints {W : World} (hgd : o.guard = none) {N : Tmp} (_hd : o.dst = some N) (t e : TypeId) (x y : Operand) (ho : o.op = .makeSlice t x y) (n : Nat) (hx : a.eval x = .int .i64 n) (hy : a.eval y = .int .i64 n)
    (ht : P.underlying t = some (.slice e)) (hinfo : (P.info? e).map (fun i => (i.zero, i.size, i.bytes)) = some (some (.int .i64 0), 1, 8)) (hl : n ≤ 1048576)
    (h : ∀ b, b = W.heap.size → ∀ w1, w1.heap[b]? = some (.cells (nums .i64 (List.replicate n 0)).toArray e (0, 0)) → Below W.heap.size W w1 → w1.heap.size = b + 1 → wpList P ops Q rest (a.put o.dst (.slice (some ⟨b, 0, none⟩) n n)) w1) : wpList P ops Q (o :: rest) a W := by
 obtain ⟨i0, hi, hzz⟩ := Option.map_eq_some_iff.1 hinfo
 simp only [Prod.mk.injEq] at hzz
 obtain ⟨hz0, hz1, hz2⟩ := hzz
 have hr := run_make (P := P) W t e i0 (.int .i64 0) ht hi hz0 .i64 .i64 (n : Int) (n : Int) (by omega) (by omega) (by rw [hz2]; omega) (by omega)
 simp only [Int.toNat_natCast] at hr
 have hm : madeCells (Value.int .i64 0).cells (n * i0.size) = (nums .i64 (List.replicate n 0)).toArray := by
   rw [hz1, Nat.mul_one]
   apply Array.ext'
   simp [madeCells, nums, Value.cells]
   apply List.ext_getElem?
   intro j
   by_cases hj : j < n <;> simp [hj, Nat.mod_one]
 rw [hm] at hr
 refine Kd.event_run hgd ?_ (h _ rfl _ (blk_new W _) (below_alloc (Below.refl _ _) _) (by simp))
 simp [execOp, ho, hx, hy, hr]
end
def impl_treeOf.f (k : Nat) (l0 : List (S76)) : Option (List Int × Bool) :=
  (impl_within.f (l0.length : Int) 1 1500).bind fun t => if t = true then (if (rd_T76 l0 0).f0 = 12 then (if (rd_T76 l0 0).f1 = 0 then ((impl_tree_measure.f k l0 (List.replicate l0.length 0) 0 1).bind fun m => if m.1 = (l0.length : Int) then some (m.2, true) else some ([], false)) else some ([], false)) else some ([], false)) else some ([], false)
/-- What treeOf leaves. -/
def TreeP (l0 : List (S76)) (a : List Int) (ok : Bool) (w : World) (p : Value) (w' : World) : Prop :=
  Below w.heap.size w w' ∧ (ok = false → p = .pointer none) ∧ (ok = true → ∃ g wz, p = .pointer (some ⟨g, 0, none⟩) ∧ IsS83 wz w' g l0 a ∧ Below wz.heap.size wz w' ∧ w.heap.size ≤ wz.heap.size)
theorem TsS83.told {w0 W : World} {g : Nat} {f0 : List (S76)} {f1 : List Int} (h : TsS83 w0 W g f0 f1) (hB : Below w0.heap.size w0 W) : ∃ wz, IsS83 wz W g f0 f1 ∧ Below wz.heap.size wz W ∧ w0.heap.size ≤ wz.heap.size := by
 have hlt := h.lt
 obtain ⟨A0, c0, a, ⟨b, c, d, e⟩, f⟩ := h
 have hz : (W.heap.extract 0 g).size = g := by simp; omega
 have hk : ∀ k, k < g → (W.heap.extract 0 g)[k]? = W.heap[k]? := fun k hk => by
   rw [Array.getElem?_extract]; simp; omega
 refine ⟨{ W with heap := W.heap.extract 0 g }, ⟨A0, c0, some ⟨g - 1, 0, none⟩, f1.length, a, Nat.le_of_eq hz, ?_, ?_⟩, ?_, ?_⟩
 · exact Kd.C_below f ⟨hB.os, hB.tape, hB.output, by show _ ≤ (W.heap.extract 0 g).size; omega, fun k hk2 => (hk k (by omega)).trans (hB.block k hk2)⟩
 · refine ⟨rfl, e.2, fun _ => ⟨_, rfl, fun j p hj => ⟨[.int .i64 p], rfl, rfl, fun i u hu => ?_⟩⟩⟩
   have hi : i = 0 := by have := (List.getElem?_eq_some_iff.1 hu).1; simp at this; omega
   subst hi
   have hu2 : u = .int .i64 p := by simpa using hu.symm
   subst hu2
   have h3 : ((⟨g - 1, 0, none⟩ : Addr).add (j * (Kd.int .i64).sz + 0)) = ⟨g - 1, j, none⟩ := by
     show Addr.add _ (j * 1 + 0) = _
     rw [add_plain]; simp
   rw [h3]
   refine (blk_cell (w := { W with heap := W.heap.extract 0 g }) ((hk (g - 1) (by omega)).trans c) j).trans ?_
   simp [nums, hj]
 · exact ⟨rfl, rfl, rfl, by show (W.heap.extract 0 g).size ≤ _; omega, fun k hk2 => (hk k (by rw [← hz]; exact hk2)).symm⟩
 show _ ≤ (W.heap.extract 0 g).size; omega
theorem TreeOf_told {w w1 w2 w3 : World} {b g c0 : Nat} {ad : Addr} {l0 : List (S76)} {n : Nat} (hn : n ≤ 1048576) (hb : b = w.heap.size) (hs : w1.heap.size = b + 1) (hg : g = w1.heap.size)
    (h2 : w2.heap[g]? = some (.cells #[.slice (some ad) l0.length c0, .slice (some ⟨b, 0, none⟩) n n] 83 (0, 0))) (ha : w2.heap[b]? = some (.cells (nums .i64 (List.replicate n 0)).toArray 3 (0, 0)))
    (hc : Kd.C k76 w (some ad) l0.length l0) (h3 : Below w2.heap.size w2 w3) : TsS83 w w3 g l0 (List.replicate n 0) := by
 have e : g - 1 = b := by omega
 have hlt := blk_lt h2
 refine ⟨some ad, c0, ?_, ⟨by omega, ?_, by omega, by omega, by rw [List.length_replicate]; omega⟩, hc⟩
 rotate_left
 · rw [e]; exact (h3.block b (by omega)).trans ha
 rw [e, List.length_replicate]; exact (h3.block g hlt).trans h2
theorem impl_treeOf.calls {k : Nat} {A0 : Option Addr} {c0 : Nat} {l0 : List (S76)} {r : List Int} {ok : Bool} {w : World} (hr0 : Kd.C k76 w A0 l0.length l0) (hc0 : l0.length ≤ c0) (h : impl_treeOf.f k l0 = some (r, ok)) :
    Calls Try.prog 22 #[.slice A0 l0.length c0] w fun e w' => ∃ p, e = .returned (.tuple #[p, .bool ok]) ∧ TreeP l0 r ok w p w' := by
 have hu := Try.underlying76
 unfold impl_treeOf.f at h
 obtain ⟨t, ht, h⟩ := Option.bind_eq_some_iff.mp h
 have HT := am ht
 clear ht
 have hlen : 0 ≤ (l0.length : Int) := by omega
 cases t with
 | false =>
  rw [if_neg (by decide)] at h
  obtain ⟨rfl, rfl⟩ : [] = r ∧ false = ok := by simpa using h
  clear h
  have HC := am hr0
  clear hr0
  go_enter Try.func22, Try.ntmps22
  go_wp2_with (go_at_call 31; refine (impl_within.calls HT.out).mono ?_; rintro e w' ⟨rfl, ⟨nd, rfl⟩⟩)
  go_ret2
  exact ⟨_, rfl, ⟨pw_below_drewN (Below.refl _ _) _, fun _ => rfl, fun h => by cases h⟩⟩
 | true =>
  rw [if_pos rfl] at h
  have hn : 1 ≤ l0.length ∧ l0.length ≤ 1500 := by
    have h1 := HT.out
    unfold impl_within.f at h1
    split at h1
    · have h2 := of_decide_eq_true (Option.some.inj h1); omega
    · cases h1
  have hn0 : (0 : Int) < (l0.length : Int) := by omega
  obtain ⟨ad, e0, x0, x1, x2, x3, x4⟩ := at_T76 hr0 0 (by omega) hn0
  cases e0
  have ea : ad.add ((0 : Int).toNat * 5) = ad := by simp [Addr.add]
  rw [ea] at x0 x1 x2 x3 x4
  clear ea
  have HL1 := am hn.1
  have HL2 := am hn.2
  have q0 : ((0 : Int) < (l0.length : Int)) = True := eq_true hn0
  have q1 : (0 < l0.length) = True := eq_true hn.1
  have HC := am hr0
  have X0 := am x0
  have X1 := am x1
  have X2 := am x2
  have X3 := am x3
  have X4 := am x4
  clear x0 x1 x2 x3 x4 hr0 hn hn0 hlen
  obtain ⟨d0, hd0⟩ : ∃ z, z = (rd_T76 l0 0).f0 := ⟨_, rfl⟩
  obtain ⟨d1, hd1⟩ : ∃ z, z = (rd_T76 l0 0).f1 := ⟨_, rfl⟩
  rw [← hd0, ← hd1] at h
  rw [← hd0] at X0
  rw [← hd1] at X1
  clear hd0 hd1
  by_cases c0' : d0 = 12
  rotate_left
  · rw [if_neg c0'] at h
    obtain ⟨rfl, rfl⟩ : [] = r ∧ false = ok := by simpa using h
    clear h
    have c0a : (d0 == 12) = false := beq_eq_false_iff_ne.mpr c0'
    have c0b : (d0 != 12) = true := bne_iff_ne.mpr c0'
    clear c0'
    go_enter Try.func22, Try.ntmps22
    go_wp2_with (first | (go_at_call 31; refine (impl_within.calls HT.out).mono ?_; rintro e w' ⟨rfl, ⟨nd, rfl⟩⟩) | ((with_reducible refine gd 13 rfl ?_); refine make_ints rfl (N := 13) rfl 71 3 _ _ rfl l0.length rfl rfl Try.underlying71 info3 (by have := HL2.out; omega) ?_; intro b hb w1 hg1 hb1 hs1; have HG1 := am hg1; have HB1 := am (show Below w.heap.size w w1 from (pw_below_drewN (Below.refl _ _) nd).trans (hb1.mono (by simp))); have HbE := am (show b = w.heap.size from hb); have HS1 := am hs1; clear hb hg1 hb1 hs1) | ((with_reducible refine gd 15 rfl ?_); refine bx_ 15 #[.slice (some ad) l0.length c0, .slice (some ⟨b, 0, none⟩) l0.length l0.length] 83 ?_; intro g hgE w2 hg2 hb2; have HGE := am hgE; have HG2 := am hg2; have HB2 := am (HB1.out.trans (hb2.mono HB1.out.size)); have HR2 := am (grown_of_below hb2 none); have HA2 := am (show w2.heap[b]? = _ from (hb2.block b (by have := HS1.out; omega)).trans HG1.out); have y0 := pw_cell_below HB2.out X0.out; have y1 := pw_cell_below HB2.out X1.out; have y2 := pw_cell_below HB2.out X2.out; have y3 := pw_cell_below HB2.out X3.out; have y4 := pw_cell_below HB2.out X4.out; clear hgE hg2 hb2) | ((with_reducible refine gd 5 rfl ?_); refine bx_ 5 #[.int .i64 0, .int .i64 0, .int .i64 0, .string ⟨#[]⟩, .int .i64 0] 76 ?_; intro gb hbE w3 hg3 hb3; have HBE := am hbE; have HG3 := am hg3; have HB3 := am (HB2.out.trans (hb3.mono HB2.out.size)); have HI3 := am (TreeOf_told (w := w) (by have := HL2.out; omega) HbE.out HS1.out HGE.out HG2.out HA2.out HC.out hb3); have HN3 := am (show g ≠ gb from by have := blk_lt HG2.out; have := HBE.out; omega); have HM3 := am (show g - 1 ≠ gb from by have := blk_lt HG2.out; have := HBE.out; omega); have HP3 := am (show w.heap.size ≤ gb from by have := HB2.out.size; have := HBE.out; omega); have z0 : w3.cell? ⟨gb, 0, none⟩ = some (.int .i64 0) := (blk_cell HG3.out 0).trans rfl; have z1 : w3.cell? ⟨gb, 1, none⟩ = some (.int .i64 0) := (blk_cell HG3.out 1).trans rfl; have z2 : w3.cell? ⟨gb, 2, none⟩ = some (.int .i64 0) := (blk_cell HG3.out 2).trans rfl; have z3 : w3.cell? ⟨gb, 3, none⟩ = some (.string ⟨#[]⟩) := (blk_cell HG3.out 3).trans rfl; have z4 : w3.cell? ⟨gb, 4, none⟩ = some (.int .i64 0) := (blk_cell HG3.out 4).trans rfl; have f0 := blk_frozen HG3.out 0; have f1 := blk_frozen HG3.out 1; have f2 := blk_frozen HG3.out 2; have f3 := blk_frozen HG3.out 3; have f4 := blk_frozen HG3.out 4; clear hbE hg3 hb3) | (go_at_call 42; (with_reducible refine (impl_tree_measure.calls k g l0 (List.replicate l0.length 0) 0 1 _ m2 w _ ?side1 ?side2 HM.out).mono ?_); (case side1 => repeat (first | (with_reducible first | exact HI3.out | apply TsS83.alloc | apply TsS83.drewN | apply TsS83.drew | refine TsS83.far ?_ HN3.out HM3.out _) | exact HI3.out)); (case side2 => exact bL HB3); rintro e w4 ⟨rfl, hi, hb, hk⟩; have HT4 := am hi; have HB4 := am hb; clear hi hb hk))
    go_ret2
    exact ⟨_, rfl, bL HB3, fun _ => rfl, fun h => by cases h⟩
  subst c0'
  rw [if_pos rfl] at h
  by_cases c1' : d1 = 0
  rotate_left
  · rw [if_neg c1'] at h
    obtain ⟨rfl, rfl⟩ : [] = r ∧ false = ok := by simpa using h
    clear h
    have c1a : (d1 == 0) = false := beq_eq_false_iff_ne.mpr c1'
    have c1b : (d1 != 0) = true := bne_iff_ne.mpr c1'
    clear c1'
    go_enter Try.func22, Try.ntmps22
    go_wp2_with (first | (go_at_call 31; refine (impl_within.calls HT.out).mono ?_; rintro e w' ⟨rfl, ⟨nd, rfl⟩⟩) | ((with_reducible refine gd 13 rfl ?_); refine make_ints rfl (N := 13) rfl 71 3 _ _ rfl l0.length rfl rfl Try.underlying71 info3 (by have := HL2.out; omega) ?_; intro b hb w1 hg1 hb1 hs1; have HG1 := am hg1; have HB1 := am (show Below w.heap.size w w1 from (pw_below_drewN (Below.refl _ _) nd).trans (hb1.mono (by simp))); have HbE := am (show b = w.heap.size from hb); have HS1 := am hs1; clear hb hg1 hb1 hs1) | ((with_reducible refine gd 15 rfl ?_); refine bx_ 15 #[.slice (some ad) l0.length c0, .slice (some ⟨b, 0, none⟩) l0.length l0.length] 83 ?_; intro g hgE w2 hg2 hb2; have HGE := am hgE; have HG2 := am hg2; have HB2 := am (HB1.out.trans (hb2.mono HB1.out.size)); have HR2 := am (grown_of_below hb2 none); have HA2 := am (show w2.heap[b]? = _ from (hb2.block b (by have := HS1.out; omega)).trans HG1.out); have y0 := pw_cell_below HB2.out X0.out; have y1 := pw_cell_below HB2.out X1.out; have y2 := pw_cell_below HB2.out X2.out; have y3 := pw_cell_below HB2.out X3.out; have y4 := pw_cell_below HB2.out X4.out; clear hgE hg2 hb2) | ((with_reducible refine gd 5 rfl ?_); refine bx_ 5 #[.int .i64 0, .int .i64 0, .int .i64 0, .string ⟨#[]⟩, .int .i64 0] 76 ?_; intro gb hbE w3 hg3 hb3; have HBE := am hbE; have HG3 := am hg3; have HB3 := am (HB2.out.trans (hb3.mono HB2.out.size)); have HI3 := am (TreeOf_told (w := w) (by have := HL2.out; omega) HbE.out HS1.out HGE.out HG2.out HA2.out HC.out hb3); have HN3 := am (show g ≠ gb from by have := blk_lt HG2.out; have := HBE.out; omega); have HM3 := am (show g - 1 ≠ gb from by have := blk_lt HG2.out; have := HBE.out; omega); have HP3 := am (show w.heap.size ≤ gb from by have := HB2.out.size; have := HBE.out; omega); have z0 : w3.cell? ⟨gb, 0, none⟩ = some (.int .i64 0) := (blk_cell HG3.out 0).trans rfl; have z1 : w3.cell? ⟨gb, 1, none⟩ = some (.int .i64 0) := (blk_cell HG3.out 1).trans rfl; have z2 : w3.cell? ⟨gb, 2, none⟩ = some (.int .i64 0) := (blk_cell HG3.out 2).trans rfl; have z3 : w3.cell? ⟨gb, 3, none⟩ = some (.string ⟨#[]⟩) := (blk_cell HG3.out 3).trans rfl; have z4 : w3.cell? ⟨gb, 4, none⟩ = some (.int .i64 0) := (blk_cell HG3.out 4).trans rfl; have f0 := blk_frozen HG3.out 0; have f1 := blk_frozen HG3.out 1; have f2 := blk_frozen HG3.out 2; have f3 := blk_frozen HG3.out 3; have f4 := blk_frozen HG3.out 4; clear hbE hg3 hb3) | (go_at_call 42; (with_reducible refine (impl_tree_measure.calls k g l0 (List.replicate l0.length 0) 0 1 _ m2 w _ ?side1 ?side2 HM.out).mono ?_); (case side1 => repeat (first | (with_reducible first | exact HI3.out | apply TsS83.alloc | apply TsS83.drewN | apply TsS83.drew | refine TsS83.far ?_ HN3.out HM3.out _) | exact HI3.out)); (case side2 => exact bL HB3); rintro e w4 ⟨rfl, hi, hb, hk⟩; have HT4 := am hi; have HB4 := am hb; clear hi hb hk))
    go_ret2
    exact ⟨_, rfl, bL HB3, fun _ => rfl, fun h => by cases h⟩
  subst c1'
  rw [if_pos rfl] at h
  obtain ⟨⟨m1, m2⟩, hm, h⟩ := Option.bind_eq_some_iff.mp h
  have HM := am hm
  clear hm
  dsimp only at h
  by_cases c2' : m1 = (l0.length : Int)
  · rw [if_pos c2'] at h
    obtain ⟨rfl, rfl⟩ : m2 = r ∧ true = ok := by simpa using h
    clear h
    subst c2'
    go_enter Try.func22, Try.ntmps22
    go_wp2_with (first | (go_at_call 31; refine (impl_within.calls HT.out).mono ?_; rintro e w' ⟨rfl, ⟨nd, rfl⟩⟩) | ((with_reducible refine gd 13 rfl ?_); refine make_ints rfl (N := 13) rfl 71 3 _ _ rfl l0.length rfl rfl Try.underlying71 info3 (by have := HL2.out; omega) ?_; intro b hb w1 hg1 hb1 hs1; have HG1 := am hg1; have HB1 := am (show Below w.heap.size w w1 from (pw_below_drewN (Below.refl _ _) nd).trans (hb1.mono (by simp))); have HbE := am (show b = w.heap.size from hb); have HS1 := am hs1; clear hb hg1 hb1 hs1) | ((with_reducible refine gd 15 rfl ?_); refine bx_ 15 #[.slice (some ad) l0.length c0, .slice (some ⟨b, 0, none⟩) l0.length l0.length] 83 ?_; intro g hgE w2 hg2 hb2; have HGE := am hgE; have HG2 := am hg2; have HB2 := am (HB1.out.trans (hb2.mono HB1.out.size)); have HR2 := am (grown_of_below hb2 none); have HA2 := am (show w2.heap[b]? = _ from (hb2.block b (by have := HS1.out; omega)).trans HG1.out); have y0 := pw_cell_below HB2.out X0.out; have y1 := pw_cell_below HB2.out X1.out; have y2 := pw_cell_below HB2.out X2.out; have y3 := pw_cell_below HB2.out X3.out; have y4 := pw_cell_below HB2.out X4.out; clear hgE hg2 hb2) | ((with_reducible refine gd 5 rfl ?_); refine bx_ 5 #[.int .i64 0, .int .i64 0, .int .i64 0, .string ⟨#[]⟩, .int .i64 0] 76 ?_; intro gb hbE w3 hg3 hb3; have HBE := am hbE; have HG3 := am hg3; have HB3 := am (HB2.out.trans (hb3.mono HB2.out.size)); have HI3 := am (TreeOf_told (w := w) (by have := HL2.out; omega) HbE.out HS1.out HGE.out HG2.out HA2.out HC.out hb3); have HN3 := am (show g ≠ gb from by have := blk_lt HG2.out; have := HBE.out; omega); have HM3 := am (show g - 1 ≠ gb from by have := blk_lt HG2.out; have := HBE.out; omega); have HP3 := am (show w.heap.size ≤ gb from by have := HB2.out.size; have := HBE.out; omega); have z0 : w3.cell? ⟨gb, 0, none⟩ = some (.int .i64 0) := (blk_cell HG3.out 0).trans rfl; have z1 : w3.cell? ⟨gb, 1, none⟩ = some (.int .i64 0) := (blk_cell HG3.out 1).trans rfl; have z2 : w3.cell? ⟨gb, 2, none⟩ = some (.int .i64 0) := (blk_cell HG3.out 2).trans rfl; have z3 : w3.cell? ⟨gb, 3, none⟩ = some (.string ⟨#[]⟩) := (blk_cell HG3.out 3).trans rfl; have z4 : w3.cell? ⟨gb, 4, none⟩ = some (.int .i64 0) := (blk_cell HG3.out 4).trans rfl; have f0 := blk_frozen HG3.out 0; have f1 := blk_frozen HG3.out 1; have f2 := blk_frozen HG3.out 2; have f3 := blk_frozen HG3.out 3; have f4 := blk_frozen HG3.out 4; clear hbE hg3 hb3) | (go_at_call 42; (with_reducible refine (impl_tree_measure.calls k g l0 (List.replicate l0.length 0) 0 1 _ m2 w _ ?side1 ?side2 HM.out).mono ?_); (case side1 => repeat (first | (with_reducible first | exact HI3.out | apply TsS83.alloc | apply TsS83.drewN | apply TsS83.drew | refine TsS83.far ?_ HN3.out HM3.out _) | exact HI3.out)); (case side2 => exact bL HB3); rintro e w4 ⟨rfl, hi, hb, hk⟩; have HT4 := am hi; have HB4 := am hb; clear hi hb hk))
    go_ret2
    obtain ⟨wz, z1, z2, z3⟩ := HT4.out.told HB4.out
    exact ⟨_, rfl, HB4.out, (fun h => by cases h), fun _ => ⟨_, wz, rfl, z1, z2, z3⟩⟩
  rw [if_neg c2'] at h
  obtain ⟨rfl, rfl⟩ : [] = r ∧ false = ok := by simpa using h
  clear h
  have c2a : (m1 == (l0.length : Int)) = false := beq_eq_false_iff_ne.mpr c2'
  have c2b : (m1 != (l0.length : Int)) = true := bne_iff_ne.mpr c2'
  clear c2'
  go_enter Try.func22, Try.ntmps22
  go_wp2_with (first | (go_at_call 31; refine (impl_within.calls HT.out).mono ?_; rintro e w' ⟨rfl, ⟨nd, rfl⟩⟩) | ((with_reducible refine gd 13 rfl ?_); refine make_ints rfl (N := 13) rfl 71 3 _ _ rfl l0.length rfl rfl Try.underlying71 info3 (by have := HL2.out; omega) ?_; intro b hb w1 hg1 hb1 hs1; have HG1 := am hg1; have HB1 := am (show Below w.heap.size w w1 from (pw_below_drewN (Below.refl _ _) nd).trans (hb1.mono (by simp))); have HbE := am (show b = w.heap.size from hb); have HS1 := am hs1; clear hb hg1 hb1 hs1) | ((with_reducible refine gd 15 rfl ?_); refine bx_ 15 #[.slice (some ad) l0.length c0, .slice (some ⟨b, 0, none⟩) l0.length l0.length] 83 ?_; intro g hgE w2 hg2 hb2; have HGE := am hgE; have HG2 := am hg2; have HB2 := am (HB1.out.trans (hb2.mono HB1.out.size)); have HR2 := am (grown_of_below hb2 none); have HA2 := am (show w2.heap[b]? = _ from (hb2.block b (by have := HS1.out; omega)).trans HG1.out); have y0 := pw_cell_below HB2.out X0.out; have y1 := pw_cell_below HB2.out X1.out; have y2 := pw_cell_below HB2.out X2.out; have y3 := pw_cell_below HB2.out X3.out; have y4 := pw_cell_below HB2.out X4.out; clear hgE hg2 hb2) | ((with_reducible refine gd 5 rfl ?_); refine bx_ 5 #[.int .i64 0, .int .i64 0, .int .i64 0, .string ⟨#[]⟩, .int .i64 0] 76 ?_; intro gb hbE w3 hg3 hb3; have HBE := am hbE; have HG3 := am hg3; have HB3 := am (HB2.out.trans (hb3.mono HB2.out.size)); have HI3 := am (TreeOf_told (w := w) (by have := HL2.out; omega) HbE.out HS1.out HGE.out HG2.out HA2.out HC.out hb3); have HN3 := am (show g ≠ gb from by have := blk_lt HG2.out; have := HBE.out; omega); have HM3 := am (show g - 1 ≠ gb from by have := blk_lt HG2.out; have := HBE.out; omega); have HP3 := am (show w.heap.size ≤ gb from by have := HB2.out.size; have := HBE.out; omega); have z0 : w3.cell? ⟨gb, 0, none⟩ = some (.int .i64 0) := (blk_cell HG3.out 0).trans rfl; have z1 : w3.cell? ⟨gb, 1, none⟩ = some (.int .i64 0) := (blk_cell HG3.out 1).trans rfl; have z2 : w3.cell? ⟨gb, 2, none⟩ = some (.int .i64 0) := (blk_cell HG3.out 2).trans rfl; have z3 : w3.cell? ⟨gb, 3, none⟩ = some (.string ⟨#[]⟩) := (blk_cell HG3.out 3).trans rfl; have z4 : w3.cell? ⟨gb, 4, none⟩ = some (.int .i64 0) := (blk_cell HG3.out 4).trans rfl; have f0 := blk_frozen HG3.out 0; have f1 := blk_frozen HG3.out 1; have f2 := blk_frozen HG3.out 2; have f3 := blk_frozen HG3.out 3; have f4 := blk_frozen HG3.out 4; clear hbE hg3 hb3) | (go_at_call 42; (with_reducible refine (impl_tree_measure.calls k g l0 (List.replicate l0.length 0) 0 1 _ m2 w _ ?side1 ?side2 HM.out).mono ?_); (case side1 => repeat (first | (with_reducible first | exact HI3.out | apply TsS83.alloc | apply TsS83.drewN | apply TsS83.drew | refine TsS83.far ?_ HN3.out HM3.out _) | exact HI3.out)); (case side2 => exact bL HB3); rintro e w4 ⟨rfl, hi, hb, hk⟩; have HT4 := am hi; have HB4 := am hb; clear hi hb hk))
  go_ret2
  exact ⟨_, rfl, HB4.out, fun _ => rfl, fun h => by cases h⟩
theorem below_via {B : Nat} {w w1 w2 wz : World} (h : Below B w w1) (h1 : Below wz.heap.size wz w1) (h2 : Below wz.heap.size wz w2) (hz : B ≤ wz.heap.size) (hw : w.heap.size ≤ wz.heap.size) : Below B w w2 :=
  ⟨h2.os.trans (h1.os.symm.trans h.os), h2.tape.trans (h1.tape.symm.trans h.tape), h2.output.trans (h1.output.symm.trans h.output), Nat.le_trans hw h2.size, fun k hk => (h2.block k (by omega)).trans ((h1.block k (by omega)).symm.trans (h.block k hk))⟩

end Go.Proofs.Ytnlgodcbnlbdkaa.PFnStats
