/- The machine's side of FnStats: each Go function, and what its call comes to. No condition. -/
import Derived.Test.YtnlgodcbnlbdkaaPFnStatsx0
namespace Go.Proofs.Ytnlgodcbnlbdkaa.PFnStats
open Go.RowKit Go.Proofs.YtnlgodcbnlbdkaaW.PrintWords Go.Proofs.YtnlgodcbnlbdkaaW.PrintLast Go.Proofs.YtnlgodcbnlbdkaaW.PrintMore Go.Proofs.YtnlgodcbnlbdkaaW.PrintMore2
attribute [local go_sem] max2_int min2_int max_two min_two max_three min_three max_four min_four
set_option linter.unusedVariables false
set_option linter.unusedSimpArgs false
set_option maxHeartbeats 8000000
set_option maxRecDepth 100000

/-! ### laws_big: function 4 -/
def laws_big.f (l0 : List Int) : Option (Bool) := some (decide ((l0.length : Int) > 1048576))
theorem laws_big.calls {A0 : Option Addr} {c0 : Nat} {l0 : List Int} {r : Bool} {w : World} (hr0 : Kd.C (Kd.int .u8) w A0 l0.length l0) (hc0 : l0.length ≤ c0) (h : laws_big.f l0 = some r) :
    Calls Try.prog 4 #[.slice A0 l0.length c0] w fun e w' => e = .returned (.bool r) ∧ Drawn0 w w' := by
 have HR0 := am hr0
 have HC0 := am hc0
 clear hr0 hc0
 have H := h; clear h; unfold laws_big.f at H
 obtain rfl := Option.some.inj H
 go_enter Try.func4, Try.ntmps4
 go_wp2
 go_ret
 exact ⟨sr, drl⟩
/-- A state of type 57 at block g of W; what its slices lead to came in by w0. -/
theorem keep_later {w W W' : World} {g : Nat} (h : KeepBut w W g none) (k : KeepBut w W g none → KeepBut w W' g none := by (intro hb_; repeat (first | (with_reducible first | exact hb_ | apply KeepBut.set_ | apply keep_drewN | apply keep_drew | apply keep_alloc | refine keep_far ?_ (Aside0.out (by with_reducible assumption)) _) | exact hb_))) : KeepBut w W' g none := k h
theorem kept_later {w W W' : World} {S : Nat → Prop} (h : Kept w W S) (k : Kept w W S → Kept w W' S := by (intro hb_; repeat (first | (with_reducible first | exact hb_ | apply Kept.alloc | apply Kept.drewN | apply Kept.drew | refine Kept.setCell ?_ (.inl (.inr rfl)) _ | refine Kept.setCell ?_ (.inr (Aside0.out (by with_reducible assumption))) _) | exact hb_))) : Kept w W' S := k h
def IsS57 (w0 W : World) (g : Nat) (f0 : List Int) (f1 : Int) (f2 : Int) : Prop := ∃ A0 c0, W.heap[g]? = some (.cells #[.slice A0 f0.length c0, .int .i64 f1, .int .i64 f2] 57 (0, 0)) ∧ w0.heap.size ≤ g ∧ Kd.C (Kd.int .u8) w0 A0 f0.length f0
theorem IsS57.grown {w0 W : World} {g : Nat} {f0 : List Int} {f1 : Int} {f2 : Int} {W1 : World} {row : Option Nat} (h : IsS57 w0 W g f0 f1 f2) (hw : W.grownBy W1 row) (hne : some g ≠ row) : IsS57 w0 W1 g f0 f1 f2 := by
 obtain ⟨A0, c0, hb, hg, hr0⟩ := h
 exact ⟨A0, c0, blk_grown hb hw hne, hg, hr0⟩
theorem IsS57.own_neN {w0 W : World} {g : Nat} {f0 : List Int} {f1 : Int} {f2 : Int} {α : Type} {d : Kd α} {e : Nat} {base : Nat} {ok : Nat → Prop} {v : Value} {xs : List α} (h : IsS57 w0 W g f0 f1 f2) (ho : Kd.N d e W base ok v xs) (ht : e ≠ 57) : some g ≠ v.ownBlock := by
 obtain ⟨A0, c0, hb, hg, hr0⟩ := h
 exact Kd.N_ne ho hb ht
theorem IsS57.fresh {w0 W : World} {g : Nat} {f0 : List Int} {f1 : Int} {f2 : Int} (h : IsS57 w0 W g f0 f1 f2) : ∀ k, W.heap.size ≤ k → k ≠ g := by
 obtain ⟨A0, c0, hb, hg, hr0⟩ := h
 exact Kd.freshB hb
theorem IsS57.kept {w0 W : World} {g : Nat} {f0 : List Int} {f1 : Int} {f2 : Int} {W1 : World} {S : Nat → Prop} (h : IsS57 w0 W g f0 f1 f2) (hk : Kept W W1 S) (hne : ¬ S g) : IsS57 w0 W1 g f0 f1 f2 := by
 obtain ⟨A0, c0, hb, hg, hr0⟩ := h
 exact ⟨A0, c0, blk_kept hb hk hne, hg, hr0⟩
theorem IsS57.below {w0 W : World} {g : Nat} {f0 : List Int} {f1 : Int} {f2 : Int} {W1 : World} (h : IsS57 w0 W g f0 f1 f2) (hw : Below W.heap.size W W1) : IsS57 w0 W1 g f0 f1 f2 := h.grown (grown_of_below hw none) (by simp)
theorem IsS57.alloc {w0 W : World} {g : Nat} {f0 : List Int} {f1 : Int} {f2 : Int} (h : IsS57 w0 W g f0 f1 f2) (o : Obj) : IsS57 w0 (W.alloc o) g f0 f1 f2 := h.below (below_alloc (Below.refl _ _) o)
theorem IsS57.drewN {w0 W : World} {g : Nat} {f0 : List Int} {f1 : Int} {f2 : Int} (h : IsS57 w0 W g f0 f1 f2) (m : Nat) : IsS57 w0 (W.drewN m) g f0 f1 f2 := h
theorem IsS57.drew {w0 W : World} {g : Nat} {f0 : List Int} {f1 : Int} {f2 : Int} (h : IsS57 w0 W g f0 f1 f2) : IsS57 w0 W.drew g f0 f1 f2 := h
theorem IsS57.at_ {w0 W : World} {g : Nat} {f0 : List Int} {f1 : Int} {f2 : Int} {w' : World} {m : Nat} (hq : W.drewN m = w') (h : IsS57 w0 W g f0 f1 f2) : IsS57 w0 w' g f0 f1 f2 := by subst hq; exact IsS57.drewN h m
theorem IsS57.apart {w0 W : World} {g : Nat} {f0 : List Int} {f1 : Int} {f2 : Int} {α : Type} {d : Kd α} {e : Nat} {base : Nat} {ok : Nat → Prop} {v : Value} {xs : List α} (h : IsS57 w0 W g f0 f1 f2) (ho : d.R e W base ok v xs) (ht : ∀ q, q ∈ e :: d.E → q ≠ 57) : d.R e W base (fun k => ok k ∧ k ≠ g) v xs := by
 obtain ⟨A0, c0, hb, hg, hr0⟩ := h
 exact Kd.R_types ho hb ht
theorem IsS57.own_ne {w0 W : World} {g : Nat} {f0 : List Int} {f1 : Int} {f2 : Int} {α : Type} {d : Kd α} {e : Nat} {base : Nat} {ok : Nat → Prop} {v : Value} {xs : List α} (h : IsS57 w0 W g f0 f1 f2) (ho : d.R e W base ok v xs) (ht : e ≠ 57) : some g ≠ v.ownBlock := by
 obtain ⟨A0, c0, hb, hg, hr0⟩ := h
 exact Kd.R_ne ho hb ht
theorem IsS57.apartQ {w0 W : World} {g : Nat} {f0 : List Int} {f1 : Int} {f2 : Int} {α : Type} {d : Kd α} {e : Nat} {base : Nat} {ok : Nat → Prop} {v : Value} {xs : List α} (h : IsS57 w0 W g f0 f1 f2) (ho : d.Q e W base ok v xs) (ht : ∀ q, q ∈ e :: d.E → q ≠ 57) : d.Q e W base (fun k => ok k ∧ k ≠ g) v xs := by
 obtain ⟨A0, c0, hb, hg, hr0⟩ := h
 exact Kd.Q_types ho hb ht
theorem IsS57.own_neQ {w0 W : World} {g : Nat} {f0 : List Int} {f1 : Int} {f2 : Int} {α : Type} {d : Kd α} {e : Nat} {base : Nat} {ok : Nat → Prop} {v : Value} {xs : List α} (h : IsS57 w0 W g f0 f1 f2) (ho : d.Q e W base ok v xs) (ht : e ≠ 57) : some g ≠ v.ownBlock := by
 obtain ⟨A0, c0, hb, hg, hr0⟩ := h
 exact Kd.Q_ne ho hb ht
theorem IsS57.apartS {w0 W : World} {g : Nat} {f0 : List Int} {f1 : Int} {f2 : Int} {α : Type} {d : Kd α} {e : Nat} {base : Nat} {ok : Nat → Prop} {v : Value} {xs : List α} (h : IsS57 w0 W g f0 f1 f2) (ho : d.S e W base ok v xs) (ht : ∀ q, q ∈ e :: d.E → q ≠ 57) : d.S e W base (fun k => ok k ∧ k ≠ g) v xs := by
 obtain ⟨A0, c0, hb, hg, hr0⟩ := h
 exact Kd.S_types ho hb ht
theorem IsS57.own_neS {w0 W : World} {g : Nat} {f0 : List Int} {f1 : Int} {f2 : Int} {α : Type} {d : Kd α} {e : Nat} {base : Nat} {ok : Nat → Prop} {v : Value} {xs : List α} (h : IsS57 w0 W g f0 f1 f2) (ho : d.S e W base ok v xs) (ht : e ≠ 57) : some g ≠ v.ownBlock := by
 obtain ⟨A0, c0, hb, hg, hr0⟩ := h
 exact Kd.S_ne ho hb ht
theorem IsS57.lt {w0 W : World} {g : Nat} {f0 : List Int} {f1 : Int} {f2 : Int} (h : IsS57 w0 W g f0 f1 f2) : g < W.heap.size := by
 obtain ⟨A0, c0, hb, hg, hr0⟩ := h
 exact blk_lt hb
theorem IsS57.ge {w0 W : World} {g : Nat} {f0 : List Int} {f1 : Int} {f2 : Int} (h : IsS57 w0 W g f0 f1 f2) : w0.heap.size ≤ g := by
 obtain ⟨A0, c0, hb, hg, hr0⟩ := h
 exact hg
theorem IsS57.ne_blk {w0 W : World} {g : Nat} {f0 : List Int} {f1 : Int} {f2 : Int} {a : Nat} {cs : Array Value} {t : TypeId} {fr : Nat × Nat} (h : IsS57 w0 W g f0 f1 f2) (hb2 : W.heap[a]? = some (.cells cs t fr)) (ht : t ≠ 57) : g ≠ a := by
 obtain ⟨A0, c0, hb, hg, hr0⟩ := h
 rintro rfl
 rw [hb] at hb2
 injection hb2 with hb2
 injection hb2 with _ ht2
 exact ht ht2.symm
theorem IsS57.far {w0 W : World} {g : Nat} {f0 : List Int} {f1 : Int} {f2 : Int} {p : Addr} (h : IsS57 w0 W g f0 f1 f2) (hne : g ≠ p.block) (u : Value) : IsS57 w0 (W.setCell p u) g f0 f1 f2 := by
 obtain ⟨A0, c0, hb, hg, hr0⟩ := h
 exact ⟨A0, c0, blk_far hb hne u, hg, hr0⟩
theorem cellS57_0 {W : World} {g : Nat} {A0 : Option Addr} {c0 : Nat} {f0 : List Int} {f1 : Int} {f2 : Int} (h : W.heap[g]? = some (.cells #[.slice A0 f0.length c0, .int .i64 f1, .int .i64 f2] 57 (0, 0))) : W.cell? ⟨g, 0, none⟩ = some (.slice A0 f0.length c0) := (blk_cell h 0).trans rfl
theorem cellS57_1 {W : World} {g : Nat} {A0 : Option Addr} {c0 : Nat} {f0 : List Int} {f1 : Int} {f2 : Int} (h : W.heap[g]? = some (.cells #[.slice A0 f0.length c0, .int .i64 f1, .int .i64 f2] 57 (0, 0))) : W.cell? ⟨g, 1, none⟩ = some (.int .i64 f1) := (blk_cell h 1).trans rfl
theorem IsS57.set_1 {w0 W : World} {g : Nat} {f0 : List Int} {f1 : Int} {f2 : Int} (h : IsS57 w0 W g f0 f1 f2) (x : Int) : IsS57 w0 (W.setCell ⟨g, 1, none⟩ (.int .i64 x)) g f0 x f2 := by
 obtain ⟨A0, c0, hb, hg, hr0⟩ := h
 exact ⟨A0, c0, by simpa using blk_set hb 1 (.int .i64 x), hg, hr0⟩
theorem cellS57_2 {W : World} {g : Nat} {A0 : Option Addr} {c0 : Nat} {f0 : List Int} {f1 : Int} {f2 : Int} (h : W.heap[g]? = some (.cells #[.slice A0 f0.length c0, .int .i64 f1, .int .i64 f2] 57 (0, 0))) : W.cell? ⟨g, 2, none⟩ = some (.int .i64 f2) := (blk_cell h 2).trans rfl
theorem IsS57.set_2 {w0 W : World} {g : Nat} {f0 : List Int} {f1 : Int} {f2 : Int} (h : IsS57 w0 W g f0 f1 f2) (x : Int) : IsS57 w0 (W.setCell ⟨g, 2, none⟩ (.int .i64 x)) g f0 f1 x := by
 obtain ⟨A0, c0, hb, hg, hr0⟩ := h
 exact ⟨A0, c0, by simpa using blk_set hb 2 (.int .i64 x), hg, hr0⟩
theorem IsS57.later {w0 W W' : World} {g : Nat} {f0 f0' : List Int} {f1 f1' : Int} {f2 f2' : Int} (h : IsS57 w0 W g f0 f1 f2) (k : IsS57 w0 W g f0 f1 f2 → IsS57 w0 W' g f0' f1' f2' := by (intro hb_; repeat (first | (with_reducible first | exact hb_ | apply IsS57.alloc | apply IsS57.drewN | apply IsS57.drew | apply IsS57.set_1 | apply IsS57.set_2 | refine IsS57.far ?_ (Aside0.out (by with_reducible assumption)) _) | exact hb_))) : IsS57 w0 W' g f0' f1' f2' := k h
theorem IsS57.l {w0 W W' : World} {g : Nat} {f0 f0' : List Int} {f1 f1' : Int} {f2 f2' : Int} (h : Aside0 (IsS57 w0 W g f0 f1 f2)) (k : IsS57 w0 W g f0 f1 f2 → IsS57 w0 W' g f0' f1' f2' := by (intro hb_; repeat (first | (with_reducible first | exact hb_ | apply IsS57.alloc | apply IsS57.drewN | apply IsS57.drew | apply IsS57.set_1 | apply IsS57.set_2 | refine IsS57.far ?_ (Aside0.out (by with_reducible assumption)) _) | exact hb_))) : IsS57 w0 W' g f0' f1' f2' := k h.out
theorem IsS57.be {w0 W W' w2 : World} {g : Nat} {f0 f0' : List Int} {f1 f1' : Int} {f2 f2' : Int} (h : Aside0 (IsS57 w0 W g f0 f1 f2)) (hb : Below W'.heap.size W' w2) (k : IsS57 w0 W g f0 f1 f2 → IsS57 w0 W' g f0' f1' f2' := by (intro hb_; repeat (first | (with_reducible first | exact hb_ | apply IsS57.alloc | apply IsS57.drewN | apply IsS57.drew | apply IsS57.set_1 | apply IsS57.set_2 | refine IsS57.far ?_ (Aside0.out (by with_reducible assumption)) _) | exact hb_))) : Aside0 (IsS57 w0 w2 g f0' f1' f2') := ⟨IsS57.below (k h.out) hb⟩
theorem IsS57.nl {w0 W W' : World} {g g' : Nat} {f0 f0' : List Int} {f1 f1' : Int} {f2 f2' : Int} (h : Aside0 (IsS57 w0 W g f0 f1 f2)) (hg : g' = W'.heap.size) (k : IsS57 w0 W g f0 f1 f2 → IsS57 w0 W' g f0' f1' f2' := by (intro hb_; repeat (first | (with_reducible first | exact hb_ | apply IsS57.alloc | apply IsS57.drewN | apply IsS57.drew | apply IsS57.set_1 | apply IsS57.set_2 | refine IsS57.far ?_ (Aside0.out (by with_reducible assumption)) _) | exact hb_))) : Aside0 (g ≠ g') := ⟨by rw [hg]; exact Nat.ne_of_lt (IsS57.lt (k h.out))⟩
section
variable {P : Program} {ops : Array Oper} {rest : List Oper} {o : Oper} {a : Act} {Q : Exit → Act → World → Prop}
theorem IsS57.bv {w w0 W0 W1 W2 W : World} {g : Nat} {f0 f0' : List Int} {f1 f1' : Int} {f2 f2' : Int} (N : Tmp) (hd : o.dst = some N) (cs : Array Value) (t : TypeId) (hI : Aside0 (IsS57 w0 W0 g f0 f1 f2)) (hK : Aside0 (KeepBut w W1 g none)) (hB : Aside0 (Below w0.heap.size w0 W2)) (hW : Aside0 (w0.heap.size ≤ w.heap.size))
 (h : ∀ g' w1, Aside0 (w1.heap[g']? = some (.cells cs t (0, 0))) → Aside0 (w.heap.size ≤ g') → Aside0 (w0.heap.size ≤ g') → Aside0 (g ≠ g') → Aside0 (g' ≠ g) → Aside0 (IsS57 w0 w1 g f0' f1' f2') → Aside0 (KeepBut w w1 g none) → Aside0 (Below w0.heap.size w0 w1) → g' = W.heap.size → Below W.heap.size W w1 → wpList P ops Q rest (a.put o.dst (.pointer (some ⟨g', 0, none⟩))) w1)
 (hgd : o.guard = none := by rfl)
 (hrun : (execOp a.eval o).run P W = .ok (.value (.pointer (some ⟨W.heap.size, 0, none⟩))) (W.alloc (.cells cs t (0, 0))) := by first | (go_simp; done) | (go_simp; rfl))
 (kI : IsS57 w0 W0 g f0 f1 f2 → IsS57 w0 W g f0' f1' f2' := by (intro hb_; repeat (first | (with_reducible first | exact hb_ | apply IsS57.alloc | apply IsS57.drewN | apply IsS57.drew | apply IsS57.set_1 | apply IsS57.set_2 | refine IsS57.far ?_ (Aside0.out (by with_reducible assumption)) _) | exact hb_))) (kK : KeepBut w W1 g none → KeepBut w W g none := by (exact fun h_ => keep_later h_)) (kB : Below w0.heap.size w0 W2 → Below w0.heap.size w0 W := by (exact fun h_ => below_later h_)) : wpList P ops Q (o :: rest) a W :=
 box_event hgd hd hrun fun g' hg w1 hbox hb => by
  have h1 := kI hI.out
  have h2 := kK hK.out
  have h3 := kB hB.out
  have h4 : w.heap.size ≤ g' := by rw [hg]; exact keep_size h2
  have h5 : g ≠ g' := by rw [hg]; exact Nat.ne_of_lt (IsS57.lt h1)
  exact h g' w1 ⟨hbox⟩ ⟨h4⟩ ⟨Nat.le_trans hW.out h4⟩ ⟨h5⟩ ⟨h5.symm⟩ ⟨IsS57.below h1 hb⟩ ⟨KeepBut.trans h2 (KeepBut.of_below hb g none) (.inl rfl)⟩ ⟨below_step h3 hb⟩ hg hb
theorem IsS57.bx {w w0 W0 W1 W2 W : World} {g : Nat} {f0 f0' : List Int} {f1 f1' : Int} {f2 f2' : Int} (N : Tmp) (hd : o.dst = some N) (cs : Array Value) (t : TypeId) (hI : Aside0 (IsS57 w0 W0 g f0 f1 f2)) (hK : Aside0 (KeepBut w W1 g none)) (hB : Aside0 (Below w0.heap.size w0 W2)) (hW : Aside0 (w0.heap.size ≤ w.heap.size))
 (h : ∀ g' w1, Aside0 (w1.heap[g']? = some (.cells cs t (0, 0))) → Aside0 (w.heap.size ≤ g') → Aside0 (w0.heap.size ≤ g') → Aside0 (g ≠ g') → Aside0 (g' ≠ g) → Aside0 (IsS57 w0 w1 g f0' f1' f2') → Aside0 (KeepBut w w1 g none) → Aside0 (Below w0.heap.size w0 w1) → wpList P ops Q rest (a.put o.dst (.pointer (some ⟨g', 0, none⟩))) w1)
 (hgd : o.guard = none := by rfl)
 (hrun : (execOp a.eval o).run P W = .ok (.value (.pointer (some ⟨W.heap.size, 0, none⟩))) (W.alloc (.cells cs t (0, 0))) := by first | (go_simp; done) | (go_simp; rfl))
 (kI : IsS57 w0 W0 g f0 f1 f2 → IsS57 w0 W g f0' f1' f2' := by (intro hb_; repeat (first | (with_reducible first | exact hb_ | apply IsS57.alloc | apply IsS57.drewN | apply IsS57.drew | apply IsS57.set_1 | apply IsS57.set_2 | refine IsS57.far ?_ (Aside0.out (by with_reducible assumption)) _) | exact hb_))) (kK : KeepBut w W1 g none → KeepBut w W g none := by (exact fun h_ => keep_later h_)) (kB : Below w0.heap.size w0 W2 → Below w0.heap.size w0 W := by (exact fun h_ => below_later h_)) : wpList P ops Q (o :: rest) a W :=
 IsS57.bv N hd cs t hI hK hB hW (fun g' w1 a1 a2 a3 a4 a5 a6 a7 a8 _ _ => h g' w1 a1 a2 a3 a4 a5 a6 a7 a8) hgd hrun kI kK kB
end
theorem IsS57.gr {α : Type} {d : Kd α} {e base : Nat} {ok : Nat → Prop} {v : Value} {xs : List α} {w0 W W' w2 : World} {g : Nat} {f0 f0' : List Int} {f1 f1' : Int} {f2 f2' : Int} (h : Aside0 (IsS57 w0 W g f0 f1 f2)) (hg : W'.grownBy w2 v.ownBlock) (hr : Aside0 (d.R e W base ok v xs)) (ht : e ≠ 57 := by decide) (k : IsS57 w0 W g f0 f1 f2 → IsS57 w0 W' g f0' f1' f2' := by (intro hb_; repeat (first | (with_reducible first | exact hb_ | apply IsS57.alloc | apply IsS57.drewN | apply IsS57.drew | apply IsS57.set_1 | apply IsS57.set_2 | refine IsS57.far ?_ (Aside0.out (by with_reducible assumption)) _) | exact hb_))) : Aside0 (IsS57 w0 w2 g f0' f1' f2') := ⟨IsS57.grown (k h.out) hg (IsS57.own_ne h.out hr.out ht)⟩
theorem IsS57.rk {α : Type} {d : Kd α} {e base : Nat} {ok : Nat → Prop} {v : Value} {xs : List α} {w0 W W0 W' w2 : World} {g : Nat} {f0 f0' : List Int} {f1 f1' : Int} {f2 f2' : Int} (h : Aside0 (IsS57 w0 W g f0 f1 f2)) (hr : Aside0 (d.R e W0 base ok v xs)) (hk : KeepBut W' w2 g none) (k : IsS57 w0 W g f0 f1 f2 → IsS57 w0 W' g f0' f1' f2' := by (intro hb_; repeat (first | (with_reducible first | exact hb_ | apply IsS57.alloc | apply IsS57.drewN | apply IsS57.drew | apply IsS57.set_1 | apply IsS57.set_2 | refine IsS57.far ?_ (Aside0.out (by with_reducible assumption)) _) | exact hb_))) (kO : d.R e W0 base ok v xs → d.R e W' base ok v xs := by exact fun h_ => R_later h_) (ht : ∀ q, q ∈ e :: d.E → q ≠ 57 := by decide) : Aside0 (d.R e w2 base ok v xs) := ⟨Kd.R_mono (Kd.R_keep (IsS57.apart (k h.out) (kO hr.out) ht) hk (fun _ h => h.2)) (fun _ h => h.1)⟩
theorem IsS57.new (w0 W : World) (A0 : Option Addr) (c0 : Nat) (f0 : List Int) (f1 : Int) (f2 : Int) (hB : Below w0.heap.size w0 W) (hr0 : Kd.C (Kd.int .u8) w0 A0 f0.length f0) : IsS57 w0 (W.alloc (.cells #[.slice A0 f0.length c0, .int .i64 f1, .int .i64 f2] 57)) W.heap.size f0 f1 f2 := ⟨A0, c0, by simpa using heap_alloc_new W _, hB.size, hr0⟩

/-! ### spec_l1New: function 11 -/
def spec_l1New.l0 : Nat → List Int → Int → Int → Option (List Int × Int × Int)
  | 0, _, _, _ => none
  | k + 1, x0, x3, x4 => if x4 < (x0.length : Int) then (if x4 < 4000 then (if 0 ≤ x4 then (spec_l1New.l0 k x0 (Go.bits .and .i64 (wrap64 ((wrap64 ((wrap64 (x3 * 131)) + (wrap64 (rd x0 x4)))) + 7)) 1073741823) (wrap64 (x4 + 1))) else (none)) else (some (x0, 0, x3))) else (some (x0, 0, x3))
def spec_l1New.f (k : Nat) (l0 : List Int) : Option (List Int × Int × Int) := spec_l1New.l0 k l0 (wrap64 (11443 + (l0.length : Int))) 0
theorem spec_l1New.calls {k : Nat} {A0 : Option Addr} {c0 : Nat} {l0 r1 : List Int} {r2 r3 : Int} {w0 w : World} (hB : Below w0.heap.size w0 w) (hr0 : Kd.C (Kd.int .u8) w0 A0 l0.length l0) (hc0 : l0.length ≤ c0) (h : spec_l1New.f k l0 = some (r1, r2, r3)) :
    Calls Try.prog 11 #[.slice A0 l0.length c0] w fun e w' => ∃ g_ : Nat, e = .returned (.pointer (some ⟨g_, 0, none⟩)) ∧ IsS57 w0 w' g_ r1 r2 r3 ∧ Below w0.heap.size w0 w' ∧ Below w.heap.size w w' := by
 have hu57 := Try.underlying57
 have HR0 := am hr0
 have HC0 := am hc0
 clear hr0 hc0
 have HBW := am (Below.refl w.heap.size w)
 have HW0 := am hB.size
 have HB := am hB
 clear hB
 have H := h; clear h; unfold spec_l1New.f at H
 have H' := am H; clear H
 go_enter Try.func11, Try.ntmps11
 go_wp2
 go_loopg [3, 4] k (fun kq v3 v4 w' => ∃ (x3_1 : Int) (x4_1 : Int), v3 = .int .i64 x3_1 ∧ v4 = .int .i64 x4_1 ∧ Aside0 (spec_l1New.l0 kq l0 x3_1 x4_1 = some (r1, r2, r3)) ∧ Aside0 (kq ≤ k) ∧ Aside0 (Below w0.heap.size w0 w') ∧ Aside0 (Below w.heap.size w w'))
 case atStart => exact ⟨(wrap64 (11443 + (l0.length : Int))), (0), sr, sr, H', ⟨Nat.le_refl _⟩, ⟨bL HB⟩, ⟨bL HBW⟩⟩
 clear H'
 obtain ⟨x3_1, x4_1, rfl, rfl, HA, HK1, HB, HBW⟩ := hrel
 cases gk with
 | zero => exact absurd HA.out (by simp [spec_l1New.l0])
 | succ k1 => ?_
 have H := HA.out
 clear HA
 simp only [spec_l1New.l0] at H
 replace H := idc H; obtain ⟨c2b0, H⟩ | ⟨c2b0, H⟩ := H
 rotate_left
 · replace H := sj3 H; obtain ⟨rfl, rfl, rfl⟩ := H
   go_wp2_with (first | ((with_reducible refine gd 31 rfl ?_); refine bx_ 31 #[.slice A0 l0.length c0, .int .i64 0, .int .i64 x3_1] 57 ?_; intro gb103 hg w6 hbox hb; have BK103 := am hbox; have GW103 := am ((by rw [hg]; exact (below_size (bL HBW)) : w.heap.size ≤ gb103)); have GE103 := am ((Nat.le_trans HW0.out (by rw [hg]; exact (below_size (bL HBW)) : w.heap.size ≤ gb103) : w0.heap.size ≤ gb103)); replace HBW := am (below_step HBW.out hb); replace HB := bst HB hb; clear hb hbox hg))
   go_ret
   exact ⟨_, rfl, (show IsS57 w0 _ gb103 l0 0 x3_1 from ⟨_, _, kL BK103, GE103.out, HR0.out⟩), bL HB, bL HBW⟩
 replace H := idc H; obtain ⟨c3b0, H⟩ | ⟨c3b0, H⟩ := H
 · replace H := ifd H; obtain ⟨c4b0, H⟩ := H
   have H' := am H; clear H
   have p101 : 0 ≤ (x4_1 : Int) := dcd
   have q101 : x4_1 < (l0.length : Int) := dcd
   obtain ⟨ad101, e101, hx101_0⟩ := Kd.at_int HR0.out x4_1 p101 q101
   cases e101
   replace hx101_0 := pw_cell_below HB.out hx101_0
   replace p101 := eq_true p101
   replace q101 := eq_true q101
   go_wp2
   go_roundg k1
   case measure => have := HK1.out; omega
   case rel => exact ⟨(Go.bits .and .i64 (wrap64 ((wrap64 ((wrap64 (x3_1 * 131)) + (wrap64 (rd l0 x4_1)))) + 7)) 1073741823), (wrap64 (x4_1 + 1)), sr, sr, H', ⟨by have := HK1.out; omega⟩, ⟨bL HB⟩, ⟨bL HBW⟩⟩
 replace H := sj3 H; obtain ⟨rfl, rfl, rfl⟩ := H
 go_wp2_with (first | ((with_reducible refine gd 31 rfl ?_); refine bx_ 31 #[.slice A0 l0.length c0, .int .i64 0, .int .i64 x3_1] 57 ?_; intro gb102 hg w5 hbox hb; have BK102 := am hbox; have GW102 := am ((by rw [hg]; exact (below_size (bL HBW)) : w.heap.size ≤ gb102)); have GE102 := am ((Nat.le_trans HW0.out (by rw [hg]; exact (below_size (bL HBW)) : w.heap.size ≤ gb102) : w0.heap.size ≤ gb102)); replace HBW := am (below_step HBW.out hb); replace HB := bst HB hb; clear hb hbox hg))
 go_ret
 exact ⟨_, rfl, (show IsS57 w0 _ gb102 l0 0 x3_1 from ⟨_, _, kL BK102, GE102.out, HR0.out⟩), bL HB, bL HBW⟩
/-! ### spec_l1Byte: function 53 -/
def spec_l1Byte.f (s0_0 : List Int) (s0_1 : Int) (s0_2 : Int) : Option (Int × Int × Int) := if s0_1 < (s0_0.length : Int) then (if 0 ≤ s0_1 then (some (Go.bits .and .i64 (wrap64 ((Go.bits .and .i64 (Go.bits .xor .i64 ((wrap64 ((wrap64 (s0_2 * 6364136223846793005)) + 1442695040888963407)) / 8589934592) ((wrap64 ((wrap64 (s0_2 * 6364136223846793005)) + 1442695040888963407)) / 35184372088832)) 255) + (wrap64 (rd s0_0 s0_1)))) 255, wrap64 (s0_1 + 1), wrap64 ((wrap64 (s0_2 * 6364136223846793005)) + 1442695040888963407))) else (none)) else (some (Go.bits .and .i64 (Go.bits .xor .i64 ((wrap64 ((wrap64 (s0_2 * 6364136223846793005)) + 1442695040888963407)) / 8589934592) ((wrap64 ((wrap64 (s0_2 * 6364136223846793005)) + 1442695040888963407)) / 35184372088832)) 255, s0_1, wrap64 ((wrap64 (s0_2 * 6364136223846793005)) + 1442695040888963407)))
theorem spec_l1Byte.calls {g : Nat} {s0_0 : List Int} {s0_1 s0_2 r1 r2 r3 : Int} {w0 w : World} (hI : IsS57 w0 w g s0_0 s0_1 s0_2) (hB : Below w0.heap.size w0 w) (h : spec_l1Byte.f s0_0 s0_1 s0_2 = some (r1, r2, r3)) :
    Calls Try.prog 53 #[.pointer (some ⟨g, 0, none⟩)] w fun e w' => e = .returned (.int .i64 r1) ∧ IsS57 w0 w' g s0_0 r2 r3 ∧ Below w0.heap.size w0 w' ∧ KeepBut w w' g none := by
 have HI0 := am hI
 have HGE0 := am (IsS57.ge hI)
 have HK := am (KeepBut.refl w g none)
 have HL := am hB.size
 clear hI
 have HW0 := am hB.size
 have HB := am hB
 clear hB
 have H := h; clear h; unfold spec_l1Byte.f at H
 replace H := idc H; obtain ⟨c2b0, H⟩ | ⟨c2b0, H⟩ := H
 rotate_left
 · replace H := sj3 H; obtain ⟨rfl, rfl, rfl⟩ := H
   obtain ⟨ASz5_0, cSz5_0, HGz5, hgz5, HSz5_0⟩ := HI0.out
   have hcz5_0 := cellS57_0 HGz5
   have hcz5_1 := cellS57_1 HGz5
   have hcz5_2 := cellS57_2 HGz5
   have hfz5_1 := blk_frozen HGz5 1
   have hfz5_2 := blk_frozen HGz5 2
   clear HGz5 hgz5
   go_enter Try.func53, Try.ntmps53
   go_wp2
   repeat (go_quiet (fail); try go_wp2)
   go_ret
   exact fin_ ⟨IsS57.l HI0, bL HB, pL HK⟩
 replace H := ifd H; obtain ⟨c3b0, H⟩ := H
 replace H := sj3 H; obtain ⟨rfl, rfl, rfl⟩ := H
 obtain ⟨ASz4_0, cSz4_0, HGz4, hgz4, HSz4_0⟩ := HI0.out
 have hcz4_0 := cellS57_0 HGz4
 have hcz4_1 := cellS57_1 HGz4
 have hcz4_2 := cellS57_2 HGz4
 have hfz4_1 := blk_frozen HGz4 1
 have hfz4_2 := blk_frozen HGz4 2
 clear HGz4 hgz4
 have p104 : 0 ≤ (s0_1 : Int) := dcd
 have q104 : s0_1 < (s0_0.length : Int) := dcd
 obtain ⟨ad104, e104, hx104_0⟩ := Kd.at_int HSz4_0 s0_1 p104 q104
 cases e104
 have hn104_0 : ad104.block ≠ g := Nat.ne_of_lt (Nat.lt_of_lt_of_le (by have := World.block_lt_of_cell? _ _ hx104_0; first | rwa [add_block] at this | exact this) (IsS57.ge HI0.out))
 replace hx104_0 := pw_cell_below HB.out hx104_0
 replace hx104_0 := (cell_far (p := ⟨g, 2, none⟩) (by first | (rw [add_block]; exact hn104_0) | (show (Addr.add _ _).block ≠ _; rw [add_block]; exact hn104_0) | exact hn104_0) (.int .i64 (wrap64 ((wrap64 (s0_2 * 6364136223846793005)) + 1442695040888963407)))).trans hx104_0
 (try have hy104_0 := fun (n_ : Nat) => (show (((w.drewN n_).setCell ⟨g, 2, none⟩ (.int .i64 (wrap64 ((wrap64 (s0_2 * 6364136223846793005)) + 1442695040888963407))))).cell? _ = some _ from hx104_0))
 clear hn104_0
 replace p104 := eq_true p104
 replace q104 := eq_true q104
 go_enter Try.func53, Try.ntmps53
 go_wp2
 repeat (go_quiet (fail); try go_wp2)
 go_ret
 exact fin_ ⟨IsS57.l HI0, bL HB, pL HK⟩
/-! ### spec_l1Below: function 27 -/
def spec_l1Below.f (s0_0 : List Int) (s0_1 : Int) (s0_2 : Int) (a1 : Int) : Option (Int × Int × Int) := if a1 ≤ 0 then (some (0, s0_1, s0_2)) else (if a1 ≤ 256 then ((spec_l1Byte.f s0_0 s0_1 s0_2).bind fun bt105 => (if a1 = 0 then (none) else (some (Int.tmod bt105.1 a1, bt105.2.1, bt105.2.2)))) else ((spec_l1Byte.f s0_0 s0_1 s0_2).bind fun bt108 => ((spec_l1Byte.f s0_0 bt108.2.1 bt108.2.2).bind fun bt111 => ((spec_l1Byte.f s0_0 bt111.2.1 bt111.2.2).bind fun bt114 => ((spec_l1Byte.f s0_0 bt114.2.1 bt114.2.2).bind fun bt117 => (if a1 = 0 then (none) else (some (Int.tmod (wrap64 ((wrap64 ((wrap64 ((wrap64 (bt108.1 * 16777216)) + (wrap64 (bt111.1 * 65536)))) + (wrap64 (bt114.1 * 256)))) + bt117.1)) a1, bt117.2.1, bt117.2.2))))))))
theorem spec_l1Below.calls {g : Nat} {s0_0 : List Int} {s0_1 s0_2 a1 r1 r2 r3 : Int} {w0 w : World} (hI : IsS57 w0 w g s0_0 s0_1 s0_2) (hB : Below w0.heap.size w0 w) (h : spec_l1Below.f s0_0 s0_1 s0_2 a1 = some (r1, r2, r3)) :
    Calls Try.prog 27 #[.pointer (some ⟨g, 0, none⟩), .int .i64 a1] w fun e w' => e = .returned (.int .i64 r1) ∧ IsS57 w0 w' g s0_0 r2 r3 ∧ Below w0.heap.size w0 w' ∧ KeepBut w w' g none := by
 have HI0 := am hI
 have HGE0 := am (IsS57.ge hI)
 have HK := am (KeepBut.refl w g none)
 have HL := am hB.size
 clear hI
 have HW0 := am hB.size
 have HB := am hB
 clear hB
 have H := h; clear h; unfold spec_l1Below.f at H
 replace H := idc H; obtain ⟨c3b0, H⟩ | ⟨c3b0, H⟩ := H
 · replace H := sj3 H; obtain ⟨rfl, rfl, rfl⟩ := H
   go_enter Try.func27, Try.ntmps27
   go_wp2
   go_ret
   exact fin_ ⟨IsS57.l HI0, bL HB, pL HK⟩
 replace H := idc H; obtain ⟨c4b0, H⟩ | ⟨c4b0, H⟩ := H
 · replace H := bnd3 H; obtain ⟨t105, t106, t107, A5, H⟩ := H; dsimp only at H
   by_cases c6 : a1 = 0
   · rw [if_pos c6] at H
     exact absurd H (by simp)
   rw [if_neg c6] at H
   have c6b0 : (a1 == 0) = false := beq_eq_false_iff_ne.mpr c6
   have c6b1 : (a1 != 0) = true := bne_iff_ne.mpr c6
   replace H := sj3 H; obtain ⟨rfl, rfl, rfl⟩ := H
   go_enter Try.func27, Try.ntmps27
   go_wp2_with (first | ((with_reducible refine gc 53 rfl ?_); refine gcs (some 14) Try.func53 rfl (spec_l1Byte.calls (IsS57.l HI0) (bL HB) A5.out) HK ?_; clear HK HB HI0; intro w7 HI0 HB HK hk; clear hk))
   go_ret
   exact fin_ ⟨IsS57.l HI0, bL HB, pL HK⟩
 replace H := bnd3 H; obtain ⟨t108, t109, t110, A8, H⟩ := H; dsimp only at H
 replace H := bnd3 H; obtain ⟨t111, t112, t113, A9, H⟩ := H; dsimp only at H
 replace H := bnd3 H; obtain ⟨t114, t115, t116, A10, H⟩ := H; dsimp only at H
 replace H := bnd3 H; obtain ⟨t117, t118, t119, A11, H⟩ := H; dsimp only at H
 by_cases c12 : a1 = 0
 · rw [if_pos c12] at H
   exact absurd H (by simp)
 rw [if_neg c12] at H
 have c12b0 : (a1 == 0) = false := beq_eq_false_iff_ne.mpr c12
 have c12b1 : (a1 != 0) = true := bne_iff_ne.mpr c12
 replace H := sj3 H; obtain ⟨rfl, rfl, rfl⟩ := H
 go_enter Try.func27, Try.ntmps27
 go_wp2_with (first | ((with_reducible refine gc 53 rfl ?_); refine gcs (some 18) Try.func53 rfl (spec_l1Byte.calls (IsS57.l HI0) (bL HB) A8.out) HK ?_; clear HK HB HI0; intro w13 HI0 HB HK hk; clear hk) | ((with_reducible refine gc 53 rfl ?_); refine gcs (some 20) Try.func53 rfl (spec_l1Byte.calls (IsS57.l HI0) (bL HB) A9.out) HK ?_; clear HK HB HI0; intro w14 HI0 HB HK hk; clear hk) | ((with_reducible refine gc 53 rfl ?_); refine gcs (some 22) Try.func53 rfl (spec_l1Byte.calls (IsS57.l HI0) (bL HB) A10.out) HK ?_; clear HK HB HI0; intro w15 HI0 HB HK hk; clear hk) | ((with_reducible refine gc 53 rfl ?_); refine gcs (some 24) Try.func53 rfl (spec_l1Byte.calls (IsS57.l HI0) (bL HB) A11.out) HK ?_; clear HK HB HI0; intro w16 HI0 HB HK hk; clear hk))
 go_ret
 exact fin_ ⟨IsS57.l HI0, bL HB, pL HK⟩
/-! ### spec_l1PickInt: function 29 -/
def spec_l1PickInt.f (s0_0 : List Int) (s0_1 : Int) (s0_2 : Int) (l1 : List Int) : Option (Int × Int × Int) := (spec_l1Below.f s0_0 s0_1 s0_2 (l1.length : Int)).bind fun bt120 => (if 0 ≤ bt120.1 then (if bt120.1 < (l1.length : Int) then (some (rd l1 bt120.1, bt120.2.1, bt120.2.2)) else (none)) else (none))
theorem spec_l1PickInt.calls {g : Nat} {s0_0 : List Int} {s0_1 s0_2 : Int} {A1 : Option Addr} {c1 : Nat} {l1 : List Int} {r1 r2 r3 : Int} {w0 w : World} (hI : IsS57 w0 w g s0_0 s0_1 s0_2) (hB : Below w0.heap.size w0 w) (hr1 : Kd.C (Kd.int .i64) w A1 l1.length l1) (hc1 : l1.length ≤ c1) (hf1 : ∀ ad, A1 = some ad → 0 < l1.length → ad.block ≠ g) (h : spec_l1PickInt.f s0_0 s0_1 s0_2 l1 = some (r1, r2, r3)) :
    Calls Try.prog 29 #[.pointer (some ⟨g, 0, none⟩), .slice A1 l1.length c1] w fun e w' => e = .returned (.int .i64 r1) ∧ IsS57 w0 w' g s0_0 r2 r3 ∧ Below w0.heap.size w0 w' ∧ KeepBut w w' g none := by
 have HR1 := am hr1
 have HC1 := am hc1
 clear hr1 hc1
 have HI0 := am hI
 have HGE0 := am (IsS57.ge hI)
 have HK := am (KeepBut.refl w g none)
 have HL := am hB.size
 clear hI
 have HW0 := am hB.size
 have HB := am hB
 clear hB
 have H := h; clear h; unfold spec_l1PickInt.f at H
 replace H := bnd3 H; obtain ⟨t120, t121, t122, A3, H⟩ := H; dsimp only at H
 replace H := if_dd H; obtain ⟨c4b0, c5b0, H⟩ := H
 replace H := sj3 H; obtain ⟨rfl, rfl, rfl⟩ := H
 go_enter Try.func29, Try.ntmps29
 go_wp2_with (first | ((with_reducible refine gc 27 rfl ?_); refine gc1 (some 9) Try.func27 rfl (spec_l1Below.calls (IsS57.l HI0) (bL HB) A3.out) ?_; rintro w6 ⟨hi, hb, hk⟩; replace HK := ktr HK hk; replace HB := am hb; replace HI0 := am hi; clear hb hk hi; have p123 : 0 ≤ (t120 : Int) := dcd; have q123 : t120 < (l1.length : Int) := dcd; obtain ⟨ad123, e123, hx123_0⟩ := Kd.at_int HR1.out t120 p123 q123; cases e123; replace hx123_0 := keep_cell HK.out hx123_0 (by first | (rw [add_block]; exact hf1 _ rfl (by omega)) | exact hf1 _ rfl (by omega) | exact hf1 ad123 rfl (by omega)); replace p123 := eq_true p123; replace q123 := eq_true q123))
 go_ret
 exact fin_ ⟨IsS57.l HI0, bL HB, pL HK⟩
/-! ### spec_l1Once: function 62 -/
def spec_l1Once.f (s0_0 : List Int) (s0_1 : Int) (s0_2 : Int) (a1 : Int) : Option (Bool × Int × Int) := (spec_l1Below.f s0_0 s0_1 s0_2 a1).bind fun bt124 => (some ((bt124.1 == 0), bt124.2.1, bt124.2.2))
theorem spec_l1Once.calls {g : Nat} {s0_0 : List Int} {s0_1 s0_2 a1 : Int} {r1 : Bool} {r2 r3 : Int} {w0 w : World} (hI : IsS57 w0 w g s0_0 s0_1 s0_2) (hB : Below w0.heap.size w0 w) (h : spec_l1Once.f s0_0 s0_1 s0_2 a1 = some (r1, r2, r3)) :
    Calls Try.prog 62 #[.pointer (some ⟨g, 0, none⟩), .int .i64 a1] w fun e w' => e = .returned (.bool r1) ∧ IsS57 w0 w' g s0_0 r2 r3 ∧ Below w0.heap.size w0 w' ∧ KeepBut w w' g none := by
 have HI0 := am hI
 have HGE0 := am (IsS57.ge hI)
 have HK := am (KeepBut.refl w g none)
 have HL := am hB.size
 clear hI
 have HW0 := am hB.size
 have HB := am hB
 clear hB
 have H := h; clear h; unfold spec_l1Once.f at H
 replace H := bnd3 H; obtain ⟨t124, t125, t126, A3, H⟩ := H; dsimp only at H
 replace H := sj3 H; obtain ⟨rfl, rfl, rfl⟩ := H
 go_enter Try.func62, Try.ntmps62
 go_wp2_with (first | ((with_reducible refine gc 27 rfl ?_); refine gcs (some 7) Try.func27 rfl (spec_l1Below.calls (IsS57.l HI0) (bL HB) A3.out) HK ?_; clear HK HB HI0; intro w4 HI0 HB HK hk; clear hk))
 go_ret
 exact fin_ ⟨IsS57.l HI0, bL HB, pL HK⟩
/-! ### spec_l5DrawCol: function 47 -/
mutual
def spec_l5DrawCol.j0 : Nat → ByteArray → Int → List (S94) → Bool → List Int → Int → Int → ByteArray → Int → Int → Int → Option ((List (S94)) × Int × Int)
  | 0, _, _, _, _, _, _, _, _, _, _, _ => none
  | k + 1, x1, x2, x3, x29, x1000, x1001, x1002, x137000, x137001, x137002, x137003 => if x29 = true then (spec_l5DrawCol.j1 k x1 x2 x3 x1000 x1001 x1002 x137000 7 x137002 x137003) else (spec_l5DrawCol.j1 k x1 x2 x3 x1000 x1001 x1002 x137000 x137001 x137002 x137003)
def spec_l5DrawCol.j1 : Nat → ByteArray → Int → List (S94) → List Int → Int → Int → ByteArray → Int → Int → Int → Option ((List (S94)) × Int × Int)
  | 0, _, _, _, _, _, _, _, _, _, _ => none
  | k + 1, x1, x2, x3, x1000, x1001, x1002, x137000, x137001, x137002, x137003 => if x3.length < 3518437208883 then ((some (x3 ++ [(⟨x137000, x137001, x137002, x137003⟩ : S94)] : List (S94))).bind fun y140 => (if x137001 = 7 then ((spec_l1Below.f x1000 x1001 x1002 3).bind fun bt143 => (if 0 ≤ (x3.length : Int) then (if (x3.length : Int) < (y140.length : Int) then ((some (y140.set ((x3.length : Int) : Int).toNat (⟨(rd_T94 y140 (x3.length : Int)).f0, (rd_T94 y140 (x3.length : Int)).f1, (rd_T94 y140 (x3.length : Int)).f2, wrap64 (1 + bt143.1)⟩ : S94) : List (S94))).bind fun y146 => (if x1.toList = ([] : List UInt8) then (spec_l5DrawCol.j2 k x2 (y146.set ((x3.length : Int) : Int).toNat (⟨(rd_T94 y146 (x3.length : Int)).f0, (rd_T94 y146 (x3.length : Int)).f1, 0, (rd_T94 y146 (x3.length : Int)).f3⟩ : S94)) (wrap64 (1 + bt143.1)) x1000 bt143.2.1 bt143.2.2) else (spec_l5DrawCol.j2 k x2 y146 (wrap64 (1 + bt143.1)) x1000 bt143.2.1 bt143.2.2))) else (none)) else (none))) else (some (y140, x1001, x1002)))) else (none)
def spec_l5DrawCol.j2 : Nat → Int → List (S94) → Int → List Int → Int → Int → Option ((List (S94)) × Int × Int)
  | 0, _, _, _, _, _, _ => none
  | k + 1, x2, x3, x11, x1000, x1001, x1002 => spec_l5DrawCol.l0 k x2 x3 x11 0 x1000 x1001 x1002
def spec_l5DrawCol.l0 : Nat → Int → List (S94) → Int → Int → List Int → Int → Int → Option ((List (S94)) × Int × Int)
  | 0, _, _, _, _, _, _, _ => none
  | k + 1, x2, x3, x11, x12, x1000, x1001, x1002 => if x12 < x11 then ((spec_l1Below.f x1000 x1001 x1002 4).bind fun bt148 => ((spec_l5DrawCol.f k x1000 bt148.2.1 bt148.2.2 (strOfNums (([(wrap64 (97 + x12)) % 256, (wrap64 (97 + bt148.1)) % 256] : List Int))) (wrap64 (x2 - 1)) x3).bind fun bt154 => (spec_l5DrawCol.l0 k x2 bt154.1 x11 (wrap64 (x12 + 1)) x1000 bt154.2.1 bt154.2.2))) else (some (x3, x1001, x1002))
def spec_l5DrawCol.f : Nat → List Int → Int → Int → ByteArray → Int → List (S94) → Option ((List (S94)) × Int × Int)
  | 0, _, _, _, _, _, _ => none
  | k + 1, s0_0, s0_1, s0_2, a1, a2, l3 => (spec_l1PickInt.f s0_0 s0_1 s0_2 (([0, 1, 2, 5, 6] : List Int))).bind fun bt130 => ((spec_l1Below.f s0_0 bt130.2.1 bt130.2.2 3).bind fun bt133 => (if a1.toList = ([] : List UInt8) then (spec_l5DrawCol.j0 k a1 a2 l3 true s0_0 bt133.2.1 bt133.2.2 a1 bt130.1 bt133.1 0) else (if a2 > 0 then ((spec_l1Once.f s0_0 bt133.2.1 bt133.2.2 3).bind fun bt137 => (spec_l5DrawCol.j0 k a1 a2 l3 bt137.1 s0_0 bt137.2.1 bt137.2.2 a1 bt130.1 bt133.1 0)) else (spec_l5DrawCol.j0 k a1 a2 l3 false s0_0 bt133.2.1 bt133.2.2 a1 bt130.1 bt133.1 0))))
end
theorem spec_l5DrawCol.calls (k : Nat) : ∀ (g : Nat) (s0_0 : List Int) (s0_1 : Int) (s0_2 : Int) (a1 : ByteArray) (a2 : Int) (P3_ : Nat → Prop) (u9000_ : Value) (l3 : List (S94)) (r1 : List (S94)) (r2 : Int) (r3 : Int) (w0 w : World) (hI : IsS57 w0 w g s0_0 s0_1 s0_2) (hB : Below w0.heap.size w0 w) (ho3 : Kd.R k94 94 w w0.heap.size P3_ u9000_ l3) (h : spec_l5DrawCol.f k s0_0 s0_1 s0_2 a1 a2 l3 = some (r1, r2, r3)),
    Calls Try.prog 47 #[.pointer (some ⟨g, 0, none⟩), .string a1, .int .i64 a2, u9000_] w fun e w' => ∃ v0_ : Value, e = .returned (v0_) ∧ Kd.R k94 94 w' w0.heap.size (fun k_ => (P3_ k_ ∨ w.heap.size ≤ k_)) v0_ r1 ∧ IsS57 w0 w' g s0_0 r2 r3 ∧ Below w0.heap.size w0 w' ∧ Kept w w' (fun k_ => (P3_ k_) ∨ k_ = g) := by
 induction k using Nat.strongRecOn with
 | _ k ih =>
 intro g s0_0 s0_1 s0_2 a1 a2 P3_ u9000_ l3 r1 r2 r3 w0 w hI hB ho3 h
 cases k with
 | zero => exact absurd h (by simp [spec_l5DrawCol.f])
 | succ k =>
 simp only [spec_l5DrawCol.f] at h
 have hu94 := Try.underlying94
 have HO3 := am (show Kd.R k94 94 w w0.heap.size (fun k_ => (P3_ k_ ∨ w.heap.size ≤ k_)) u9000_ l3 from Kd.R_mono ho3 (fun k_ hk => (.inl hk)))
 have HI0 := am hI
 have HGE0 := am (IsS57.ge hI)
 have HL := am hB.size
 clear hI
 have HK := am (Kept.refl w (fun k_ => (P3_ k_) ∨ k_ = g))
 have HW0 := am hB.size
 have HB := am hB
 clear hB
 have H : ((spec_l1PickInt.f s0_0 s0_1 s0_2 (([0, 1, 2, 5, 6] : List Int))).bind fun bt130 => ((spec_l1Below.f s0_0 bt130.2.1 bt130.2.2 3).bind fun bt133 => (if a1.toList = ([] : List UInt8) then (spec_l5DrawCol.j0 k a1 a2 l3 true s0_0 bt133.2.1 bt133.2.2 a1 bt130.1 bt133.1 0) else (if a2 > 0 then ((spec_l1Once.f s0_0 bt133.2.1 bt133.2.2 3).bind fun bt137 => (spec_l5DrawCol.j0 k a1 a2 l3 bt137.1 s0_0 bt137.2.1 bt137.2.2 a1 bt130.1 bt133.1 0)) else (spec_l5DrawCol.j0 k a1 a2 l3 false s0_0 bt133.2.1 bt133.2.2 a1 bt130.1 bt133.1 0))))) = some (r1, r2, r3) := h
 clear h
 obtain ⟨y127, hy127⟩ : ∃ y_ : List Int, y_ = (([0, 1, 2, 5, 6] : List Int)) := ⟨_, rfl⟩
 replace H : ((spec_l1PickInt.f s0_0 s0_1 s0_2 y127).bind fun bt130 => ((spec_l1Below.f s0_0 bt130.2.1 bt130.2.2 3).bind fun bt133 => (if a1.toList = ([] : List UInt8) then (spec_l5DrawCol.j0 k a1 a2 l3 true s0_0 bt133.2.1 bt133.2.2 a1 bt130.1 bt133.1 0) else (if a2 > 0 then ((spec_l1Once.f s0_0 bt133.2.1 bt133.2.2 3).bind fun bt137 => (spec_l5DrawCol.j0 k a1 a2 l3 bt137.1 s0_0 bt137.2.1 bt137.2.2 a1 bt130.1 bt133.1 0)) else (spec_l5DrawCol.j0 k a1 a2 l3 false s0_0 bt133.2.1 bt133.2.2 a1 bt130.1 bt133.1 0))))) = some (r1, r2, r3) := by first | (rw [hy127]; with_reducible exact H) | (rw [hy127]; exact H) | exact H
 have Ny127 := am hy127
 clear hy127
 replace H := bnd3 H; obtain ⟨t130, t131, t132, A5, H⟩ := H; dsimp only at H
 replace H := bnd3 H; obtain ⟨t133, t134, t135, A6, H⟩ := H; dsimp only at H
 have HC7 := am H
 clear H
 go_enter Try.func47, Try.ntmps47
 go_upto_region 2 with (first | ((with_reducible refine gd 15 rfl ?_); refine Kd.R_lit (Kd.int .i64) _ 3 ?hg (N := 15) ?hd (xs := ([0, 1, 2, 5, 6] : List Int)) (inner := [.int .i64 0, .int .i64 1, .int .i64 2, .int .i64 5, .int .i64 6]) (ok := fun _ => True) (okp := fun _ => True) ?hr ?hp (fun _ hk => hk) trivial (Below.refl _ _) (Nat.le_refl _) (by simp) ?_; (case hd => rfl); (case hg => rfl); (case hr => first | (go_simp; done) | (go_simp; rfl)); (case hp => exact (Reps.one (show Kd.M (Kd.int .i64) _ _ _ 0 [.int .i64 0] from rfl) (Reps.one (show Kd.M (Kd.int .i64) _ _ _ 1 [.int .i64 1] from rfl) (Reps.one (show Kd.M (Kd.int .i64) _ _ _ 2 [.int .i64 2] from rfl) (Reps.one (show Kd.M (Kd.int .i64) _ _ _ 5 [.int .i64 5] from rfl) (Reps.one (show Kd.M (Kd.int .i64) _ _ _ 6 [.int .i64 6] from rfl) (Reps.none _ _))))))); intro v128 w8 ho9 hb hg_ hnew_; clear hg_ hnew_; (first | rw [← Ny127.out] at ho9 | (simp only [Int.reduceToNat] at ho9; rw [← Ny127.out] at ho9)); have HO129 := am (Kd.R_lower (Kd.R_newM (M := fun k_ => (P3_ k_ ∨ w.heap.size ≤ k_)) ho9 (by first | exact HK.out.1 | exact (show Kept w _ (fun k_ => (P3_ k_) ∨ k_ = g) from kept_later HK.out).1) (fun k_ h_ => .inr h_)) (below_size (bL HB))); replace HO3 := rbe HO3 hb; replace HK := am (Kept.below (S := (fun k_ => (P3_ k_) ∨ k_ = g)) (kept_later HK.out) hb); replace HB := bst HB hb; replace HI0 := IsS57.be HI0 hb; clear hb ho9; obtain ⟨Ao10, co10, eo10⟩ := Kd.R_slice HO129.out; subst eo10) | ((with_reducible refine gc 29 rfl ?_); refine gc1 (some 16) Try.func29 rfl (spec_l1PickInt.calls (IsS57.l HI0) (bL HB) (C_later (Kd.R_reads' HO129.out).2.2) ((Kd.R_reads' HO129.out).2.1) (far_slice (IsS57.own_ne HI0.out HO129.out (by decide))) A5.out) ?_; rintro w11 ⟨hi, hb, hk⟩; replace HO3 := IsS57.rk HI0 HO3 hk; replace HO129 := IsS57.rk HI0 HO129 hk; replace HK := am (Kept.of_keep (S := (fun k_ => (P3_ k_) ∨ k_ = g)) (kept_later HK.out) hk (.inl (.inr rfl))); replace HB := am hb; replace HI0 := am hi; clear hb hk hi) | ((with_reducible refine gc 27 rfl ?_); refine gc1 (some 18) Try.func27 rfl (spec_l1Below.calls (IsS57.l HI0) (bL HB) A6.out) ?_; rintro w12 ⟨hi, hb, hk⟩; replace HO3 := IsS57.rk HI0 HO3 hk; replace HO129 := IsS57.rk HI0 HO129 hk; replace HK := am (Kept.of_keep (S := (fun k_ => (P3_ k_) ∨ k_ = g)) (kept_later HK.out) hk (.inl (.inr rfl))); replace HB := am hb; replace HI0 := am hi; clear hb hk hi) | ((with_reducible refine gd 9 rfl ?_); refine bx_ 9 #[.string ⟨#[]⟩, .int .i64 0, .int .i64 0, .int .i64 0] 94 ?_; intro gb136 hg w13 hbox hb; have BK136 := am hbox; have GW136 := am ((by rw [hg]; exact (by first | exact HK.out.1 | exact (show Kept w _ (fun k_ => (P3_ k_) ∨ k_ = g) from kept_later HK.out).1) : w.heap.size ≤ gb136)); have GE136 := am ((by rw [hg]; exact (below_size (bL HB)) : w0.heap.size ≤ gb136)); obtain ⟨NB0_136, NB136_0⟩ := nbp (IsS57.nl HI0 hg); replace HO3 := am (Kd.R_below (Kd.R_elderB (rL HO3) gb136 (Nat.le_of_eq hg.symm)) hb); replace HO129 := rbe HO129 hb; replace HK := am (Kept.below (S := (fun k_ => (P3_ k_) ∨ k_ = g)) (kept_later HK.out) hb); replace HB := bst HB hb; replace HI0 := IsS57.be HI0 hb; clear hb hbox hg; obtain ⟨hnb14, hnc14⟩ := nbo NB136_0; obtain ⟨hcz15_0, hcz15_1, hcz15_2, hcz15_3, hfz15_0, hfz15_1, hfz15_2, hfz15_3⟩ := cl4 BK136))
 (try simp only [Act.put, List.setIfInBounds_toArray, List.set_cons_zero, List.set_cons_succ])
 go_cut [29] (fun v29 wc => ∃ (kq : Nat) (x29_6 : Bool) (x1001_6 : Int) (x1002_6 : Int), v29 = .bool x29_6 ∧ Aside0 (spec_l5DrawCol.j0 kq a1 a2 l3 x29_6 s0_0 x1001_6 x1002_6 a1 t130 t133 0 = some (r1, r2, r3)) ∧ Aside0 (kq ≤ k) ∧ Aside0 (Kd.R k94 94 wc w0.heap.size (fun k_ => (P3_ k_ ∨ w.heap.size ≤ k_) ∧ k_ ≠ gb136) u9000_ l3) ∧ Aside0 (wc.heap[gb136]? = some (.cells #[.string a1, .int .i64 t130, .int .i64 t133, .int .i64 0] 94 (0, 0))) ∧ Aside0 (IsS57 w0 wc g s0_0 x1001_6 x1002_6) ∧ Aside0 (Kept w wc (fun k_ => (P3_ k_) ∨ k_ = g)) ∧ Aside0 (Below w0.heap.size w0 wc))
 case first =>
  have H := HC7.out
  clear HC7
  by_cases c16 : a1.toList = ([] : List UInt8)
  · rw [if_pos c16] at H
    have c16b0 : (a1.toList == ([] : List UInt8)) = true := beq_iff_eq.mpr c16
    try have c16b7 : a1.toList.isEmpty = true := by simpa using c16
    have c16b1 : (a1.toList != ([] : List UInt8)) = false := bne_eq_false_iff_eq.mpr c16
    clear c16
    (first | rw [c16b0] | rw [c16b1] | rw [c16b7] | (simp only [i64_w, i32_w]; rw [c16b0]) | skip)
    have H' := am H; clear H
    go_wp2
    go_meet
    case rel => exact ⟨_, (true), (t134), (t135), sr, H', ⟨by first | omega | exact Nat.le_refl _⟩, ⟨R_later (Kd.R_mono (Kd.R_far (p := ⟨gb136, 3, none⟩) (Kd.R_far (p := ⟨gb136, 2, none⟩) (Kd.R_far (p := ⟨gb136, 1, none⟩) (Kd.R_far (p := ⟨gb136, 0, none⟩) (Kd.R_mono HO3.out (fun k_ hk => (⟨hk, hk.2⟩ : _ ∧ k_ ≠ gb136))) (fun _ hk => hk.2) (.string a1)) (fun _ hk => hk.2) (.int .i64 t130)) (fun _ hk => hk.2) (.int .i64 t133)) (fun _ hk => hk.2) (.int .i64 0)) (fun _ hk => ⟨hk.1.1, hk.1.2⟩))⟩, ⟨kL BK136⟩, ⟨IsS57.l HI0⟩, ⟨kept_later HK.out⟩, ⟨bL HB⟩⟩
  rw [if_neg c16] at H
  have c16b0 : (a1.toList == ([] : List UInt8)) = false := beq_eq_false_iff_ne.mpr c16
  try have c16b7 : a1.toList.isEmpty = false := by simpa using c16
  have c16b1 : (a1.toList != ([] : List UInt8)) = true := bne_iff_ne.mpr c16
  (first | rw [c16b0] | rw [c16b1] | rw [c16b7] | (simp only [i64_w, i32_w]; rw [c16b0]) | skip)
  replace H := igt H; obtain ⟨c17b0, H⟩ | ⟨c17b0, H⟩ := H
  rotate_left
  · have H' := am H; clear H
    go_wp2
    go_meet
    case rel => exact ⟨_, (false), (t134), (t135), sr, H', ⟨by first | omega | exact Nat.le_refl _⟩, ⟨R_later (Kd.R_mono (Kd.R_far (p := ⟨gb136, 3, none⟩) (Kd.R_far (p := ⟨gb136, 2, none⟩) (Kd.R_far (p := ⟨gb136, 1, none⟩) (Kd.R_far (p := ⟨gb136, 0, none⟩) (Kd.R_mono HO3.out (fun k_ hk => (⟨hk, hk.2⟩ : _ ∧ k_ ≠ gb136))) (fun _ hk => hk.2) (.string a1)) (fun _ hk => hk.2) (.int .i64 t130)) (fun _ hk => hk.2) (.int .i64 t133)) (fun _ hk => hk.2) (.int .i64 0)) (fun _ hk => ⟨hk.1.1, hk.1.2⟩))⟩, ⟨kL BK136⟩, ⟨IsS57.l HI0⟩, ⟨kept_later HK.out⟩, ⟨bL HB⟩⟩
  replace H := bnd3 H; obtain ⟨t137, t138, t139, A18, H⟩ := H; dsimp only at H
  have H' := am H; clear H
  go_wp2_with (first | (go_at_call 62; (with_reducible refine (spec_l1Once.calls (w0 := w0) ?side1 ?side2 A18.out).mono ?_); (case side1 => exact IsS57.l HI0); (case side2 => exact bL HB); rintro e w19 ⟨rfl, hi, hb, hk⟩; replace HO3 := am (Kd.R_mono (Kd.R_keep (IsS57.apart (show IsS57 w0 _ g s0_0 t134 t135 from IsS57.l HI0) (by (with_reducible repeat (first | apply Kd.R_alloc | apply Kd.R_drewN | apply Kd.R_drew)); exact (Kd.R_mono (Kd.R_far (p := ⟨gb136, 3, none⟩) (Kd.R_far (p := ⟨gb136, 2, none⟩) (Kd.R_far (p := ⟨gb136, 1, none⟩) (Kd.R_far (p := ⟨gb136, 0, none⟩) (Kd.R_mono HO3.out (fun k_ hk => (⟨hk, hk.2⟩ : _ ∧ k_ ≠ gb136))) (fun _ hk => hk.2) (.string a1)) (fun _ hk => hk.2) (.int .i64 t130)) (fun _ hk => hk.2) (.int .i64 t133)) (fun _ hk => hk.2) (.int .i64 0)) (fun _ h_ => h_.1))) (by decide)) hk (fun _ h => h.2)) (fun _ h => h.1)); replace HO129 := am (Kd.R_mono (Kd.R_keep (IsS57.apart (show IsS57 w0 _ g s0_0 t134 t135 from IsS57.l HI0) (by (with_reducible repeat (first | apply Kd.R_alloc | apply Kd.R_drewN | apply Kd.R_drew)); exact (Kd.R_mono (Kd.R_far (p := ⟨gb136, 3, none⟩) (Kd.R_far (p := ⟨gb136, 2, none⟩) (Kd.R_far (p := ⟨gb136, 1, none⟩) (Kd.R_far (p := ⟨gb136, 0, none⟩) (Kd.R_types HO129.out BK136.out (by decide)) (fun _ hk => hk.2) (.string a1)) (fun _ hk => hk.2) (.int .i64 t130)) (fun _ hk => hk.2) (.int .i64 t133)) (fun _ hk => hk.2) (.int .i64 0)) (fun _ h_ => h_.1))) (by decide)) hk (fun _ h => h.2)) (fun _ h => h.1)); replace BK136 := kbo (.cells #[.string a1, .int .i64 t130, .int .i64 t133, .int .i64 0] 94 (0, 0)) hk BK136 NB136_0; replace HK := am (Kept.of_keep (S := (fun k_ => (P3_ k_) ∨ k_ = g)) (kept_later HK.out) hk (.inl (.inr rfl))); replace HB := am hb; replace HI0 := am hi; clear hb hk hi))
  go_meet
  case rel => exact ⟨_, (t137), (t138), (t139), sr, H', ⟨by first | omega | exact Nat.le_refl _⟩, ⟨rL HO3⟩, ⟨kL BK136⟩, ⟨IsS57.l HI0⟩, ⟨kept_later HK.out⟩, ⟨bL HB⟩⟩
 clear HC7
 try clear hcz15_0 hcz15_1 hcz15_2 hcz15_3 hfz15_0 hfz15_1 hfz15_2 hfz15_3
 obtain ⟨kq, x29_6, x1001_6, x1002_6, rfl, HA, HJ6, HO_3, BK136, HI0, HK, HB⟩ := hcut
 cases kq with
 | zero => exact absurd HA.out (by simp [spec_l5DrawCol.j0])
 | succ kj6 => ?_
 have H := HA.out
 clear HA
 simp only [spec_l5DrawCol.j0] at H
 have HC20 := am H
 clear H
 go_upto_if 29 with (fail)
 go_cut [] (fun wc => ∃ (kq : Nat) (x137001_19 : Int), Aside0 (spec_l5DrawCol.j1 kq a1 a2 l3 s0_0 x1001_6 x1002_6 a1 x137001_19 t133 0 = some (r1, r2, r3)) ∧ Aside0 (kq ≤ kj6) ∧ Aside0 (Kd.R k94 94 wc w0.heap.size (fun k_ => (P3_ k_ ∨ w.heap.size ≤ k_) ∧ k_ ≠ gb136) u9000_ l3) ∧ Aside0 (wc.heap[gb136]? = some (.cells #[.string a1, .int .i64 x137001_19, .int .i64 t133, .int .i64 0] 94 (0, 0))) ∧ Aside0 (IsS57 w0 wc g s0_0 x1001_6 x1002_6) ∧ Aside0 (Kept w wc (fun k_ => (P3_ k_) ∨ k_ = g)) ∧ Aside0 (Below w0.heap.size w0 wc))
 case first =>
  have H := HC20.out
  clear HC20
  replace H := ibt H; obtain ⟨rfl, H⟩ | ⟨rfl, H⟩ := H
  rotate_left
  · have H' := am H; clear H
    go_wp2
    go_meet
    case rel => exact ⟨_, (t130), H', ⟨by have := HJ6.out; first | omega | exact Nat.le_refl _⟩, ⟨rL HO_3⟩, ⟨kL BK136⟩, ⟨IsS57.l HI0⟩, ⟨kept_later HK.out⟩, ⟨bL HB⟩⟩
  have H' := am H; clear H
  obtain ⟨hnb22, hnc22⟩ := nbo NB136_0
  obtain ⟨_, _, _, _, _, _, _, _⟩ := cl4 BK136
  go_wp2
  go_meet
  case rel => exact ⟨_, (7), H', ⟨by have := HJ6.out; first | omega | exact Nat.le_refl _⟩, ⟨R_later (Kd.R_mono (Kd.R_far (p := ⟨gb136, 1, none⟩) (Kd.R_mono HO_3.out (fun k_ hk => (⟨hk, hk.2⟩ : _ ∧ k_ ≠ gb136))) (fun _ hk => hk.2) (.int .i64 7)) (fun _ hk => ⟨hk.1.1, hk.1.2⟩))⟩, ⟨kL BK136⟩, ⟨IsS57.l HI0⟩, ⟨kept_later HK.out⟩, ⟨bL HB⟩⟩
 clear HC20
 try clear hcz15_0 hcz15_1 hcz15_2 hcz15_3 hfz15_0 hfz15_1 hfz15_2 hfz15_3
 obtain ⟨kq, x137001_19, HA, HJ19, HO_3, BK136, HI0, HK, HB⟩ := hcut
 cases kq with
 | zero => exact absurd HA.out (by simp [spec_l5DrawCol.j1])
 | succ kj19 => ?_
 have H := HA.out
 clear HA
 simp only [spec_l5DrawCol.j1] at H
 replace H := ifs H; obtain ⟨c24, H⟩ := H
 have LMc24 := am c24
 clear c24
 replace H := bsm H; obtain ⟨y140, Ny140, H⟩ := H
 replace H := ieq H; obtain ⟨c25b0, c25b1, H⟩ | ⟨c25, c25b0, c25b1, H⟩ := H
 rotate_left
 · replace H := sj3 H; obtain ⟨rfl, rfl, rfl⟩ := H
   obtain ⟨Ao52, co52, eo52⟩ := Kd.R_slice HO_3.out
   subst eo52
   obtain ⟨hnb53, hnc53⟩ := nbo NB136_0
   obtain ⟨_, _, _, _, _, _, _, _⟩ := cl4 BK136
   go_wp2_with (first | ((with_reducible refine gate_builtin (b := .append) (xs := #[.tmp 33, .tmp 35]) rfl ?_); at_builtin; refine Kd.R_append k94 (w0 := w0) w0.heap.size rfl (.tmp 33) (.tmp 35) 58 94 (.agg #[(.string ⟨#[]⟩), (.int .i64 0), (.int .i64 0), (.int .i64 0)]) 40 rfl Try.underlying58 info94 rfl (by decide) (by omega) (.slice Ao52 l3.length co52) l3 (⟨a1, x137001_19, t133, 0⟩ : S94) [.string a1, .int .i64 x137001_19, .int .i64 t133, .int .i64 0] (fun k_ => (P3_ k_ ∨ w.heap.size ≤ k_) ∧ k_ ≠ gb136) (fun _ => False) rfl rfl ?aP (fun _ hk => hk.elim) ?aF ?aO ?aB ?aS ?aL ?_; (case aP => exact k94_mkM _ _ _ (⟨a1, x137001_19, t133, 0⟩ : S94)); (case aB => exact (bL HB)); (case aF => exact (fun k_ hk => ⟨(.inr (Nat.le_trans (by first | exact HK.out.1 | exact (show Kept w _ (fun k_ => (P3_ k_) ∨ k_ = g) from kept_later HK.out).1) hk)), Kd.freshB (blk_later BK136.out) k_ hk⟩)); (case aO => exact (rL HO_3)); (case aS => exact (below_size (bL HB))); (case aL => have := LMc24.out; omega); intro v141 w55 ho hb hg hat; rw [← Ny140.out] at ho; have HO142 := am ho; replace BK136 := am (blk_grown (blk_later BK136.out) hg (Kd.R_away HO_3.out (fun _ hk => hk.2))); replace HI0 := IsS57.gr HI0 hg HO_3; replace HB := am hb; replace HK := am (Kept.of_grown (S := (fun k_ => (P3_ k_) ∨ k_ = g)) hg (kept_later HK.out) (fun k_ e_ => Or.imp_left Or.inl ((HO_3.out.1 k_ e_).1))); clear HO_3; clear ho hb hg hat; obtain ⟨_, _, _, _, _, _, _, _⟩ := cl4 BK136))
   go_ret
   exact ⟨_, fin_ ⟨by (with_reducible repeat (first | apply Kd.R_alloc | apply Kd.R_drewN | apply Kd.R_drew)); exact Kd.R_mono HO142.out (fun _ hk => hk.1), IsS57.l HI0, bL HB, kept_later HK.out⟩⟩
 replace H := bnd3 H; obtain ⟨t143, t144, t145, A26, H⟩ := H; dsimp only at H
 replace H := ifs H; obtain ⟨c27, H⟩ := H
 have c27b0 := decide_eq_true c27
 have c27b1 : decide (0 ≤ l3.length) = true := decide_eq_true (by omega)
 clear c27
 replace H := ifs H; obtain ⟨c28, H⟩ := H
 have c28b0 := decide_eq_true c28
 have c28b1 : decide (l3.length < y140.length) = true := decide_eq_true (Int.ofNat_lt.mp c28)
 clear c28
 replace H := bsm H; obtain ⟨y146, Ny146, H⟩ := H
 have HC30 := am H
 clear H
 obtain ⟨Ao31, co31, eo31⟩ := Kd.R_slice HO_3.out
 subst eo31
 obtain ⟨hnb32, hnc32⟩ := nbo NB136_0
 obtain ⟨hcz33_0, hcz33_1, hcz33_2, hcz33_3, hfz33_0, hfz33_1, hfz33_2, hfz33_3⟩ := cl4 BK136
 go_upto_if 50 with (first | ((with_reducible refine gate_builtin (b := .append) (xs := #[.tmp 33, .tmp 35]) rfl ?_); at_builtin; refine Kd.R_append k94 (w0 := w0) w0.heap.size rfl (.tmp 33) (.tmp 35) 58 94 (.agg #[(.string ⟨#[]⟩), (.int .i64 0), (.int .i64 0), (.int .i64 0)]) 40 rfl Try.underlying58 info94 rfl (by decide) (by omega) (.slice Ao31 l3.length co31) l3 (⟨a1, x137001_19, t133, 0⟩ : S94) [.string a1, .int .i64 x137001_19, .int .i64 t133, .int .i64 0] (fun k_ => (P3_ k_ ∨ w.heap.size ≤ k_) ∧ k_ ≠ gb136) (fun _ => False) rfl rfl ?aP (fun _ hk => hk.elim) ?aF ?aO ?aB ?aS ?aL ?_; (case aP => exact k94_mkM _ _ _ (⟨a1, x137001_19, t133, 0⟩ : S94)); (case aB => exact (bL HB)); (case aF => exact (fun k_ hk => ⟨(.inr (Nat.le_trans (by first | exact HK.out.1 | exact (show Kept w _ (fun k_ => (P3_ k_) ∨ k_ = g) from kept_later HK.out).1) hk)), Kd.freshB (blk_later BK136.out) k_ hk⟩)); (case aO => exact (rL HO_3)); (case aS => exact (below_size (bL HB))); (case aL => have := LMc24.out; omega); intro v141 w34 ho hb hg hat; rw [← Ny140.out] at ho; have HO142 := am ho; replace BK136 := am (blk_grown (blk_later BK136.out) hg (Kd.R_away HO_3.out (fun _ hk => hk.2))); replace HI0 := IsS57.gr HI0 hg HO_3; replace HB := am hb; replace HK := am (Kept.of_grown (S := (fun k_ => (P3_ k_) ∨ k_ = g)) hg (kept_later HK.out) (fun k_ e_ => Or.imp_left Or.inl ((HO_3.out.1 k_ e_).1))); clear HO_3; clear ho hb hg hat; obtain ⟨hcz35_0, hcz35_1, hcz35_2, hcz35_3, hfz35_0, hfz35_1, hfz35_2, hfz35_3⟩ := cl4 BK136) | ((with_reducible refine gc 27 rfl ?_); refine gc1 (some 42) Try.func27 rfl (spec_l1Below.calls (IsS57.l HI0) (bL HB) A26.out) ?_; rintro w36 ⟨hi, hb, hk⟩; replace BK136 := kbo (.cells #[.string a1, .int .i64 x137001_19, .int .i64 t133, .int .i64 0] 94 (0, 0)) hk BK136 NB136_0; replace HO142 := IsS57.rk HI0 HO142 hk; replace HK := am (Kept.of_keep (S := (fun k_ => (P3_ k_) ∨ k_ = g)) (kept_later HK.out) hk (.inl (.inr rfl))); replace HB := am hb; replace HI0 := am hi; clear hb hk hi; have p29 : 0 ≤ ((l3.length : Int) : Int) := dcd; have q29 : ((l3.length : Int) : Int) < ((y140.length : Int) : Int) := dcd; obtain ⟨go29, co29, eo29, gb29, gl29, cl29, HG29⟩ := Kd.R_form HO142.out (by omega); (first | cases eo29 | (injection eo29 with ea_ en_ ec_; (first | subst ea_ | (injection ea_ with ea_; subst ea_)); subst ec_; clear en_)); have GB29 := am gb29; have GG29 := am HG29; clear gb29 gl29 HG29; have HMgo29 := am (show (P3_ go29 ∨ w.heap.size ≤ go29) from (HO142.out.1 _ rfl).1); obtain ⟨ce29, hcl29, hM29, hcc29, hfr29⟩ := Kd.R_elem HO142.out z94 ((l3.length : Int) : Int) p29 q29; obtain rfl := k94_openM hM29; have hx29_0 : w36.cell? ⟨go29, ((l3.length : Int) : Int).toNat * 4, none⟩ = some (.string ((rd_T94 y140 (l3.length : Int)).f0)) := hcc29 0 _ rfl; have hx29_1 : w36.cell? ⟨go29, ((l3.length : Int) : Int).toNat * 4 + 1, none⟩ = some (.int .i64 ((rd_T94 y140 (l3.length : Int)).f1)) := hcc29 1 _ rfl; have hx29_2 : w36.cell? ⟨go29, ((l3.length : Int) : Int).toNat * 4 + 2, none⟩ = some (.int .i64 ((rd_T94 y140 (l3.length : Int)).f2)) := hcc29 2 _ rfl; have hx29_3 : w36.cell? ⟨go29, ((l3.length : Int) : Int).toNat * 4 + 3, none⟩ = some (.int .i64 ((rd_T94 y140 (l3.length : Int)).f3)) := hcc29 3 _ rfl; have hf29_0 : w36.frozen? ⟨go29, ((l3.length : Int) : Int).toNat * 4, none⟩ = false := hfr29 0; have hf29_1 : w36.frozen? ⟨go29, ((l3.length : Int) : Int).toNat * 4 + 1, none⟩ = false := hfr29 1; have hf29_2 : w36.frozen? ⟨go29, ((l3.length : Int) : Int).toNat * 4 + 2, none⟩ = false := hfr29 2; have hf29_3 : w36.frozen? ⟨go29, ((l3.length : Int) : Int).toNat * 4 + 3, none⟩ = false := hfr29 3; clear hcl29 hcc29 hfr29 hM29; replace p29 := eq_true p29; replace q29 := eq_true q29; have HX37 := am (show Kd.R k94 94 w36 w0.heap.size (fun k_ => (P3_ k_ ∨ w.heap.size ≤ k_) ∧ k_ ≠ gb136) (.slice (some ⟨go29, 0, none⟩) y140.length co29) y140 from (rL HO142)); obtain ⟨ce37, hcl37, hM37, hcc37, hfr37⟩ := Kd.R_elem HX37.out z94 ((l3.length : Int) : Int) (dcd) (by have h_ : ((l3.length : Int) : Int) < ((y140.length : Int) : Int) := dcd; first | exact h_ | (have e_ := (Kd.R_reads' HO142.out).1; omega) | simpa using h_); obtain rfl := k94_openM hM37; have HP37 := Kd.R_seg HX37.out ((l3.length : Int) : Int) (dcd) (by have h_ : ((l3.length : Int) : Int) < ((y140.length : Int) : Int) := dcd; first | exact h_ | (have e_ := (Kd.R_reads' HO142.out).1; omega) | simpa using h_) (seg := [.int .i64 (wrap64 (1 + t143))]) (j := 3) hcl37 hcc37 (show 4 ≤ 4 from by decide) (x' := (⟨(rd_T94 y140 (l3.length : Int)).f0, (rd_T94 y140 (l3.length : Int)).f1, (rd_T94 y140 (l3.length : Int)).f2, wrap64 (1 + t143)⟩ : S94)) (k94_mkM _ _ _ (⟨(rd_T94 y140 (l3.length : Int)).f0, (rd_T94 y140 (l3.length : Int)).f1, (rd_T94 y140 (l3.length : Int)).f2, wrap64 (1 + t143)⟩ : S94) ) (fun _ hk => hk); have hx37_3 := hcc37 3 _ rfl; (try simp only [show (k94).sz = 4 from rfl, Nat.mul_one, Nat.add_zero, Int.toNat_natCast] at hx37_3); have hf37_3 := hfr37 3; (try simp only [show (k94).sz = 4 from rfl, Nat.mul_one, Nat.add_zero, Int.toNat_natCast] at hf37_3); clear hcl37 hcc37 hfr37 hM37) | ((with_reducible refine gate_store (t := 3) (p := 48) rfl ?_); refine st_ 3 48 (w36.setCell ⟨go29, ((l3.length : Int) : Int).toNat * 4 + 3, none⟩ (.int .i64 (wrap64 (1 + t143)))) ?_; intro w38 hw; have hg : w36.grownBy w38 (some go29) := (by rw [hw]; exact HP37.2); have hp_ : Kd.R k94 94 w38 w0.heap.size (fun k_ => (P3_ k_ ∨ w.heap.size ≤ k_) ∧ k_ ≠ gb136) (.slice (some ⟨go29, 0, none⟩) y140.length co29) y146 := (by rw [hw, Ny146.out]; exact HP37.1); clear HP37; replace BK136 := am (blk_grown (blk_later BK136.out) hg (Kd.R_away HO142.out (fun _ hk => hk.2))); replace HI0 := IsS57.gr HI0 hg HO142; replace HB := am ((by rw [hw]; exact below_set (HB.out) GB29.out : Below w0.heap.size w0 w38)); replace HK := am (Kept.of_grown (S := (fun k_ => (P3_ k_) ∨ k_ = g)) hg (kept_later HK.out) (fun k_ e_ => Or.imp_left Or.inl ((HO142.out.1 k_ e_).1))); replace HO142 := am hp_; clear hg hw hp_))
 (try simp only [Act.put, List.setIfInBounds_toArray, List.set_cons_zero, List.set_cons_succ])
 go_cut [] (fun wc => ∃ (kq : Nat) (x3_29 : List (S94)) (x137002_29 : Int), Aside0 (spec_l5DrawCol.j2 kq a2 x3_29 (wrap64 (1 + t143)) s0_0 t144 t145 = some (r1, r2, r3)) ∧ Aside0 (kq ≤ kj19) ∧ Aside0 (Kd.R k94 94 wc w0.heap.size (fun k_ => (P3_ k_ ∨ w.heap.size ≤ k_) ∧ k_ ≠ gb136) (.slice (some ⟨go29, 0, none⟩) y140.length co29) x3_29) ∧ Aside0 (wc.heap[gb136]? = some (.cells #[.string a1, .int .i64 x137001_19, .int .i64 x137002_29, .int .i64 0] 94 (0, 0))) ∧ Aside0 (IsS57 w0 wc g s0_0 t144 t145) ∧ Aside0 (Kept w wc (fun k_ => (P3_ k_) ∨ k_ = g)) ∧ Aside0 (Below w0.heap.size w0 wc))
 case first =>
  have H := HC30.out
  clear HC30
  by_cases c39 : a1.toList = ([] : List UInt8)
  rotate_left
  · rw [if_neg c39] at H
    have c39b0 : (a1.toList == ([] : List UInt8)) = false := beq_eq_false_iff_ne.mpr c39
    try have c39b7 : a1.toList.isEmpty = false := by simpa using c39
    have c39b1 : (a1.toList != ([] : List UInt8)) = true := bne_iff_ne.mpr c39
    (first | rw [c39b0] | rw [c39b1] | rw [c39b7] | (simp only [i64_w, i32_w]; rw [c39b0]) | skip)
    have H' := am H; clear H
    go_wp2
    go_meet
    case rel => exact ⟨_, (y146), (t133), H', ⟨by have := HJ6.out; have := HJ19.out; first | omega | exact Nat.le_refl _⟩, ⟨rL HO142⟩, ⟨kL BK136⟩, ⟨IsS57.l HI0⟩, ⟨kept_later HK.out⟩, ⟨bL HB⟩⟩
  rw [if_pos c39] at H
  have c39b0 : (a1.toList == ([] : List UInt8)) = true := beq_iff_eq.mpr c39
  try have c39b7 : a1.toList.isEmpty = true := by simpa using c39
  have c39b1 : (a1.toList != ([] : List UInt8)) = false := bne_eq_false_iff_eq.mpr c39
  clear c39
  (first | rw [c39b0] | rw [c39b1] | rw [c39b7] | (simp only [i64_w, i32_w]; rw [c39b0]) | skip)
  obtain ⟨y147, hy147⟩ : ∃ y_ : List (S94), y_ = (y146.set ((l3.length : Int) : Int).toNat (⟨(rd_T94 y146 (l3.length : Int)).f0, (rd_T94 y146 (l3.length : Int)).f1, 0, (rd_T94 y146 (l3.length : Int)).f3⟩ : S94)) := ⟨_, rfl⟩
  replace H : (spec_l5DrawCol.j2 kj19 a2 y147 (wrap64 (1 + t143)) s0_0 t144 t145) = some (r1, r2, r3) := by first | (rw [hy147]; with_reducible exact H) | (rw [hy147]; exact H) | exact H
  have Ny147 := am hy147
  clear hy147
  have H' := am H; clear H
  have p40 : 0 ≤ ((l3.length : Int) : Int) := dcd
  have q40 : ((l3.length : Int) : Int) < ((y140.length : Int) : Int) := dcd
  obtain ⟨ce40, hcl40, hM40, hcc40, hfr40⟩ := Kd.R_elem HO142.out z94 ((l3.length : Int) : Int) p40 q40
  obtain rfl := k94_openM hM40
  have hx40_0 : w38.cell? ⟨go29, ((l3.length : Int) : Int).toNat * 4, none⟩ = some (.string ((rd_T94 y146 (l3.length : Int)).f0)) := hcc40 0 _ rfl
  have hx40_1 : w38.cell? ⟨go29, ((l3.length : Int) : Int).toNat * 4 + 1, none⟩ = some (.int .i64 ((rd_T94 y146 (l3.length : Int)).f1)) := hcc40 1 _ rfl
  have hx40_2 : w38.cell? ⟨go29, ((l3.length : Int) : Int).toNat * 4 + 2, none⟩ = some (.int .i64 ((rd_T94 y146 (l3.length : Int)).f2)) := hcc40 2 _ rfl
  have hx40_3 : w38.cell? ⟨go29, ((l3.length : Int) : Int).toNat * 4 + 3, none⟩ = some (.int .i64 ((rd_T94 y146 (l3.length : Int)).f3)) := hcc40 3 _ rfl
  have hf40_0 : w38.frozen? ⟨go29, ((l3.length : Int) : Int).toNat * 4, none⟩ = false := hfr40 0
  have hf40_1 : w38.frozen? ⟨go29, ((l3.length : Int) : Int).toNat * 4 + 1, none⟩ = false := hfr40 1
  have hf40_2 : w38.frozen? ⟨go29, ((l3.length : Int) : Int).toNat * 4 + 2, none⟩ = false := hfr40 2
  have hf40_3 : w38.frozen? ⟨go29, ((l3.length : Int) : Int).toNat * 4 + 3, none⟩ = false := hfr40 3
  clear hcl40 hcc40 hfr40 hM40
  replace p40 := eq_true p40
  replace q40 := eq_true q40
  have HX41 := am (show Kd.R k94 94 w38 w0.heap.size (fun k_ => (P3_ k_ ∨ w.heap.size ≤ k_) ∧ k_ ≠ gb136) (.slice (some ⟨go29, 0, none⟩) y140.length co29) y146 from (rL HO142))
  obtain ⟨ce41, hcl41, hM41, hcc41, hfr41⟩ := Kd.R_elem HX41.out z94 ((l3.length : Int) : Int) (dcd) (by have h_ : ((l3.length : Int) : Int) < ((y140.length : Int) : Int) := dcd; first | exact h_ | (have e_ := (Kd.R_reads' HO142.out).1; omega) | simpa using h_)
  obtain rfl := k94_openM hM41
  have HP41 := Kd.R_seg HX41.out ((l3.length : Int) : Int) (dcd) (by have h_ : ((l3.length : Int) : Int) < ((y140.length : Int) : Int) := dcd; first | exact h_ | (have e_ := (Kd.R_reads' HO142.out).1; omega) | simpa using h_) (seg := [.int .i64 0]) (j := 2) hcl41 hcc41 (show 3 ≤ 4 from by decide) (x' := (⟨(rd_T94 y146 (l3.length : Int)).f0, (rd_T94 y146 (l3.length : Int)).f1, 0, (rd_T94 y146 (l3.length : Int)).f3⟩ : S94)) (k94_mkM _ _ _ (⟨(rd_T94 y146 (l3.length : Int)).f0, (rd_T94 y146 (l3.length : Int)).f1, 0, (rd_T94 y146 (l3.length : Int)).f3⟩ : S94) ) (fun _ hk => hk)
  have hx41_2 := hcc41 2 _ rfl
  (try simp only [show (k94).sz = 4 from rfl, Nat.mul_one, Nat.add_zero, Int.toNat_natCast] at hx41_2)
  have hf41_2 := hfr41 2
  (try simp only [show (k94).sz = 4 from rfl, Nat.mul_one, Nat.add_zero, Int.toNat_natCast] at hf41_2)
  clear hcl41 hcc41 hfr41 hM41
  go_wp2_with (first | ((with_reducible refine gate_store (t := 3) (p := 54) rfl ?_); refine st_ 3 54 (w38.setCell ⟨go29, ((l3.length : Int) : Int).toNat * 4 + 2, none⟩ (.int .i64 0)) ?_; intro w42 hw; have hg : w38.grownBy w42 (some go29) := (by rw [hw]; exact HP41.2); have hp_ : Kd.R k94 94 w42 w0.heap.size (fun k_ => (P3_ k_ ∨ w.heap.size ≤ k_) ∧ k_ ≠ gb136) (.slice (some ⟨go29, 0, none⟩) y140.length co29) y147 := (by rw [hw, Ny147.out]; exact HP41.1); clear HP41; replace BK136 := am (blk_grown (blk_later BK136.out) hg (Kd.R_away HO142.out (fun _ hk => hk.2))); replace HI0 := IsS57.gr HI0 hg HO142; replace HB := am ((by rw [hw]; exact below_set (HB.out) GB29.out : Below w0.heap.size w0 w42)); replace HK := am (Kept.of_grown (S := (fun k_ => (P3_ k_) ∨ k_ = g)) hg (kept_later HK.out) (fun k_ e_ => Or.imp_left Or.inl ((HO142.out.1 k_ e_).1))); replace HO142 := am hp_; clear hg hw hp_))
  go_meet
  case rel => exact ⟨_, (y147), (t133), H', ⟨by have := HJ6.out; have := HJ19.out; first | omega | exact Nat.le_refl _⟩, ⟨rL HO142⟩, ⟨kL BK136⟩, ⟨IsS57.l HI0⟩, ⟨kept_later HK.out⟩, ⟨bL HB⟩⟩
 clear HC30
 try clear c24 c25 c25b0 c25b1 c27 c27b0 c27b1 c28 c28b0 c28b1 p29 q29 hcz15_0 hcz15_1 hcz15_2 hcz15_3 hcz33_0 hcz33_1 hcz33_2 hcz33_3 hcz35_0 hcz35_1 hcz35_2 hcz35_3 hfz15_0 hfz15_1 hfz15_2 hfz15_3 hfz33_0 hfz33_1 hfz33_2 hfz33_3 hfz35_0 hfz35_1 hfz35_2 hfz35_3 hx29_0 hx29_1 hx29_2 hx29_3 hx37_3 p29 q29
 obtain ⟨kq, x3_29, x137002_29, HA, HJ29, HO_3, BK136, HI0, HK, HB⟩ := hcut
 have hl3_29 := (Kd.R_reads' HO_3.out).1
 rw [hl3_29] at HO_3
 (try simp only [hl3_29])
 (try simp only [hl3_29] at BK136)
 cases kq with
 | zero => exact absurd HA.out (by simp [spec_l5DrawCol.j2])
 | succ kj29 => ?_
 have H := HA.out
 clear HA
 simp only [spec_l5DrawCol.j2] at H
 have H' := am H; clear H
 go_wp2
 go_loopg [3, 12] kj29 (fun kq v3 v12 w' => ∃ (x3_4 : List (S94)) (x12_4 : Int) (x1001_4 : Int) (x1002_4 : Int), v12 = .int .i64 x12_4 ∧ Aside0 (spec_l5DrawCol.l0 kq a2 x3_4 (wrap64 (1 + t143)) x12_4 s0_0 x1001_4 x1002_4 = some (r1, r2, r3)) ∧ Aside0 (kq ≤ kj29) ∧ Aside0 (Kd.R k94 94 w' w0.heap.size (fun k_ => (P3_ k_ ∨ w.heap.size ≤ k_) ∧ k_ ≠ gb136) v3 x3_4) ∧ Aside0 (w'.heap[gb136]? = some (.cells #[.string a1, .int .i64 x137001_19, .int .i64 x137002_29, .int .i64 0] 94 (0, 0))) ∧ Aside0 (IsS57 w0 w' g s0_0 x1001_4 x1002_4) ∧ Aside0 (Kept w w' (fun k_ => (P3_ k_) ∨ k_ = g)) ∧ Aside0 (Below w0.heap.size w0 w'))
 case atStart => exact ⟨(x3_29), (0), (t144), (t145), sr, H', ⟨Nat.le_refl _⟩, ⟨by (try simp only [hl3_29]); (with_reducible repeat (first | apply Kd.R_alloc | apply Kd.R_drewN | apply Kd.R_drew)); exact HO_3.out⟩, ⟨by (try simp only [hl3_29]); (with_reducible repeat (first | refine blk_drewN ?_ _ | refine blk_drew ?_ | refine blk_alloc ?_ _)); exact BK136.out⟩, ⟨IsS57.l HI0⟩, ⟨kept_later HK.out⟩, ⟨bL HB⟩⟩
 clear H'
 try clear c24 c25 c25b0 c25b1 c27 c27b0 c27b1 c28 c28b0 c28b1 p29 q29 hcz15_0 hcz15_1 hcz15_2 hcz15_3 hcz33_0 hcz33_1 hcz33_2 hcz33_3 hcz35_0 hcz35_1 hcz35_2 hcz35_3 hfz15_0 hfz15_1 hfz15_2 hfz15_3 hfz33_0 hfz33_1 hfz33_2 hfz33_3 hfz35_0 hfz35_1 hfz35_2 hfz35_3 hx29_0 hx29_1 hx29_2 hx29_3 hx37_3 p29 q29
 obtain ⟨x3_4, x12_4, x1001_4, x1002_4, rfl, HA, HK4, HO_3, BK136, HI0, HK, HB⟩ := hrel
 cases gk with
 | zero => exact absurd HA.out (by simp [spec_l5DrawCol.l0])
 | succ k4 => ?_
 have H := HA.out
 clear HA
 simp only [spec_l5DrawCol.l0] at H
 replace H := idc H; obtain ⟨c43b0, H⟩ | ⟨c43b0, H⟩ := H
 rotate_left
 · replace H := sj3 H; obtain ⟨rfl, rfl, rfl⟩ := H
   go_wp2
   go_ret
   exact ⟨_, fin_ ⟨by (with_reducible repeat (first | apply Kd.R_alloc | apply Kd.R_drewN | apply Kd.R_drew)); exact Kd.R_mono HO_3.out (fun _ hk => hk.1), IsS57.l HI0, bL HB, kept_later HK.out⟩⟩
 replace H := bnd3 H; obtain ⟨t148, t149, t150, A44, H⟩ := H; dsimp only at H
 obtain ⟨y151, hy151⟩ : ∃ y_ : List Int, y_ = (([(wrap64 (97 + x12_4)) % 256, (wrap64 (97 + t148)) % 256] : List Int)) := ⟨_, rfl⟩
 replace H : ((spec_l5DrawCol.f k4 s0_0 t149 t150 (strOfNums y151) (wrap64 (a2 - 1)) x3_4).bind fun bt154 => (spec_l5DrawCol.l0 k4 a2 bt154.1 (wrap64 (1 + t143)) (wrap64 (x12_4 + 1)) s0_0 bt154.2.1 bt154.2.2)) = some (r1, r2, r3) := by first | (rw [hy151]; with_reducible exact H) | (rw [hy151]; exact H) | exact H
 have Ny151 := am hy151
 clear hy151
 replace H := bnd3 H; obtain ⟨t154, t157, t158, A45, H⟩ := H; dsimp only at H
 have H' := am H; clear H
 go_wp2_with (first | ((with_reducible refine gc 27 rfl ?_); refine gc1 (some 65) Try.func27 rfl (spec_l1Below.calls (IsS57.l HI0) (bL HB) A44.out) ?_; rintro w46 ⟨hi, hb, hk⟩; replace HO_3 := IsS57.rk HI0 HO_3 hk; replace BK136 := kbo (.cells #[.string a1, .int .i64 x137001_19, .int .i64 x137002_29, .int .i64 0] 94 (0, 0)) hk BK136 NB136_0; replace HK := am (Kept.of_keep (S := (fun k_ => (P3_ k_) ∨ k_ = g)) (kept_later HK.out) hk (.inl (.inr rfl))); replace HB := am hb; replace HI0 := am hi; clear hb hk hi) | ((with_reducible refine gd 68 rfl ?_); refine Kd.R_lit (Kd.int .u8) _ 5 ?hg (N := 68) ?hd (xs := ([(wrap64 (97 + x12_4)) % 256, (wrap64 (97 + t148)) % 256] : List Int)) (inner := [.int .u8 ((wrap64 (97 + x12_4)) % 256), .int .u8 ((wrap64 (97 + t148)) % 256)]) (ok := fun _ => True) (okp := fun _ => True) ?hr ?hp (fun _ hk => hk) trivial (Below.refl _ _) (Nat.le_refl _) (by simp) ?_; (case hd => rfl); (case hg => rfl); (case hr => first | (go_simp; done) | (go_simp; rfl)); (case hp => exact (Reps.one (show Kd.M (Kd.int .u8) _ _ _ ((wrap64 (97 + x12_4)) % 256) [.int .u8 ((wrap64 (97 + x12_4)) % 256)] from rfl) (Reps.one (show Kd.M (Kd.int .u8) _ _ _ ((wrap64 (97 + t148)) % 256) [.int .u8 ((wrap64 (97 + t148)) % 256)] from rfl) (Reps.none _ _)))); intro v152 w47 ho48 hb hg_ hnew_; clear hg_ hnew_; (first | rw [← Ny151.out] at ho48 | (simp only [Int.reduceToNat] at ho48; rw [← Ny151.out] at ho48)); have HO153 := am (Kd.R_lower (Kd.R_newM (M := fun k_ => (P3_ k_ ∨ w.heap.size ≤ k_)) ho48 (by first | exact HK.out.1 | exact (show Kept w _ (fun k_ => (P3_ k_) ∨ k_ = g) from kept_later HK.out).1) (fun k_ h_ => .inr h_)) (below_size (bL HB))); replace HO_3 := rbe HO_3 hb; replace BK136 := bkb BK136 hb; replace HK := am (Kept.below (S := (fun k_ => (P3_ k_) ∨ k_ = g)) (kept_later HK.out) hb); replace HB := bst HB hb; replace HI0 := IsS57.be HI0 hb; clear hb ho48; have hcv49 := own_string (P := Try.prog) Try.underlying22 Try.underlying5 Try.underlying9 (Kd.own_of_R HO153.out); obtain ⟨Ao50, co50, eo50⟩ := Kd.R_slice HO_3.out; subst eo50) | ((with_reducible refine gc 47 rfl ?_); refine gc2 (some 73) Try.func47 rfl (ih k4 (by have := HJ6.out; have := HJ19.out; have := HJ29.out; have := HK4.out; omega) g s0_0 t149 t150 (strOfNums y151) (wrap64 (a2 - 1)) (fun k_ => some k_ = (.slice Ao50 x3_4.length co50 : Value).ownBlock) (.slice Ao50 x3_4.length co50) x3_4 t154 t157 t158 w0 _ (IsS57.l HI0) (bL HB) (Kd.R_tight rfl HO_3.out) A45.out) ?_; rintro v155 w51 ⟨ho0, hi, hb, hkp⟩; have HO156 := am (Kd.R_mono (ok' := fun k_ => (P3_ k_ ∨ w.heap.size ≤ k_) ∧ k_ ≠ gb136) ho0 (fun k_ hk_ => ⟨Or.elim hk_ (fun hs_ => (HO_3.out.1 k_ (hs_).symm).1) (fun hn_ => (.inr (Nat.le_trans (by first | exact HK.out.1 | exact (show Kept w _ (fun k_ => (P3_ k_) ∨ k_ = g) from kept_later HK.out).1) hn_))), Or.elim hk_ (fun hs_ => fun e_ => (Kd.R_away HO_3.out (fun _ hk => hk.2)) (by rw [← e_]; exact hs_)) (fun hn_ => (Kd.freshB (blk_later BK136.out) k_ hn_))⟩)); replace BK136 := am (blk_kept (blk_later BK136.out) hkp (fun hs_ => Or.elim hs_ (fun hs_ => (fun e_ => (Kd.R_away HO_3.out (fun _ hk => hk.2)) e_) hs_) (fun e_ => NB136_0.out e_))); replace HO153 := am (Kd.R_mono (ok' := fun k_ => (P3_ k_ ∨ w.heap.size ≤ k_)) (Kd.R_keptB ((IsS57.apart HI0.out (Kd.R_apart' HO153.out (Kd.R_typed HO_3.out) (by decide)) (by decide))) hkp (fun k_ hk_ hs_ => Or.elim hs_ (fun hs_ => (hk_.1.2) hs_) (fun e_ => (hk_.2) e_))) (fun k_ hk_ => hk_.1.1.1.1)); replace HI0 := am hi; replace HK := am (Kept.then_ (S := (fun k_ => (P3_ k_) ∨ k_ = g)) (kept_later HK.out) hkp (fun k_ hs_ => Or.elim hs_ (fun hs_ => (fun e_ => Or.imp_left Or.inl ((HO_3.out.1 k_ e_.symm).1)) hs_) (fun e_ => .inl (.inr e_)))); replace HB := am hb; clear HO_3 hb hkp ho0))
 go_roundg k4
 case measure => have := HJ6.out; have := HJ19.out; have := HJ29.out; have := HK4.out; omega
 case rel => exact ⟨(t154), (wrap64 (x12_4 + 1)), (t157), (t158), sr, H', ⟨by have := HJ6.out; have := HJ19.out; have := HJ29.out; have := HK4.out; omega⟩, ⟨by (try simp only [hl3_29]); (with_reducible repeat (first | apply Kd.R_alloc | apply Kd.R_drewN | apply Kd.R_drew)); exact HO156.out⟩, ⟨by (try simp only [hl3_29]); (with_reducible repeat (first | refine blk_drewN ?_ _ | refine blk_drew ?_ | refine blk_alloc ?_ _)); exact BK136.out⟩, ⟨IsS57.l HI0⟩, ⟨kept_later HK.out⟩, ⟨bL HB⟩⟩
/-! ### spec_l1In: function 55 -/
def spec_l1In.f (a0 : Int) (a1 : Int) (a2 : Int) : Option (Bool) := if a0 ≥ a1 then (some (decide (a0 ≤ a2))) else (some false)
theorem spec_l1In.calls {a0 a1 a2 : Int} {r : Bool} {w : World} (h : spec_l1In.f a0 a1 a2 = some r) :
    Calls Try.prog 55 #[.int .i64 a0, .int .i64 a1, .int .i64 a2] w fun e w' => e = .returned (.bool r) ∧ Drawn0 w w' := by
 have H := h; clear h; unfold spec_l1In.f at H
 replace H := ige H; obtain ⟨c4b0, H⟩ | ⟨c4b0, H⟩ := H
 · obtain rfl := Option.some.inj H
   go_enter Try.func55, Try.ntmps55
   go_wp2
   go_ret
   exact ⟨sr, drl⟩
 obtain rfl := Option.some.inj H
 go_enter Try.func55, Try.ntmps55
 go_wp2
 go_ret
 exact ⟨sr, drl⟩
/-! ### spec_l5Type: function 57 -/
def spec_l5Type.f (a0 : Int) : Option (Bool) := if a0 = 0 then (some true) else (if a0 = 1 then (some true) else (if a0 = 2 then (some true) else (if a0 = 5 then (some true) else (if a0 = 6 then (some true) else (some false)))))
theorem spec_l5Type.calls {a0 : Int} {r : Bool} {w : World} (h : spec_l5Type.f a0 = some r) :
    Calls Try.prog 57 #[.int .i64 a0] w fun e w' => e = .returned (.bool r) ∧ Drawn0 w w' := by
 have H := h; clear h; unfold spec_l5Type.f at H
 replace H := ieq H; obtain ⟨c2b0, c2b1, H⟩ | ⟨c2, c2b0, c2b1, H⟩ := H
 · obtain rfl := Option.some.inj H
   go_enter Try.func57, Try.ntmps57
   go_wp2
   go_ret
   exact ⟨sr, drl⟩
 replace H := ieq H; obtain ⟨c3b0, c3b1, H⟩ | ⟨c3, c3b0, c3b1, H⟩ := H
 · obtain rfl := Option.some.inj H
   go_enter Try.func57, Try.ntmps57
   go_wp2
   go_ret
   exact ⟨sr, drl⟩
 replace H := ieq H; obtain ⟨c4b0, c4b1, H⟩ | ⟨c4, c4b0, c4b1, H⟩ := H
 · obtain rfl := Option.some.inj H
   go_enter Try.func57, Try.ntmps57
   go_wp2
   go_ret
   exact ⟨sr, drl⟩
 replace H := ieq H; obtain ⟨c5b0, c5b1, H⟩ | ⟨c5, c5b0, c5b1, H⟩ := H
 · obtain rfl := Option.some.inj H
   go_enter Try.func57, Try.ntmps57
   go_wp2
   go_ret
   exact ⟨sr, drl⟩
 replace H := ieq H; obtain ⟨c6b0, c6b1, H⟩ | ⟨c6, c6b0, c6b1, H⟩ := H
 · obtain rfl := Option.some.inj H
   go_enter Try.func57, Try.ntmps57
   go_wp2
   go_ret
   exact ⟨sr, drl⟩
 obtain rfl := Option.some.inj H
 go_enter Try.func57, Try.ntmps57
 go_wp2
 go_ret
 exact ⟨sr, drl⟩
end Go.Proofs.Ytnlgodcbnlbdkaa.PFnStats
