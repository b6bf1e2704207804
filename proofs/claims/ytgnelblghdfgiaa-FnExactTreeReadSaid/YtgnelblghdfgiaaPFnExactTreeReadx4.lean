/- The machine's side of FnExactTreeRead, written by wip/tools/hyb.py of this repo: each Go function as a plain Lean function, and the proof that the call comes to just its answer. No condition. -/
import Derived.Test.YtgnelblghdfgiaaPFnExactTreeReadx0
import Derived.Test.YtgnelblghdfgiaaPFnExactTreeReadx3
namespace Go.Proofs.Ytgnelblghdfgiaa.PFnExactTreeRead
open Go.RowKit Go.Proofs.YtgnelblghdfgiaaW.PrintWords Go.Proofs.YtgnelblghdfgiaaW.PrintLast Go.Proofs.YtgnelblghdfgiaaW.PrintMore Go.Proofs.YtgnelblghdfgiaaW.PrintMore2
attribute [local go_sem] max2_int min2_int max_two min_two max_three min_three max_four min_four   -- for this text's walks alone
set_option linter.unusedVariables false
set_option linter.unusedSimpArgs false

/-! ### impl_TreeRead: function 6 -/
/-! The reader's state. -/
structure TR where
  pos : Int
  ns : List S40
  cd : Int
/-- The reader at g: its bytes, where it is, its nodes, its code. -/
def Rd (w0 w : World) (g : Nat) (v : Value) (b : List Int) (s : TR) : Prop :=
  ∃ (A : Option Addr) (c : Nat), b.length ≤ c ∧ Kd.C (Kd.int .u8) w0 A b.length b ∧ w.heap[g]? = some (.cells #[.slice A b.length c, .int .i64 s.pos, v, .int .i64 s.cd] 36 (0, 0)) ∧ Kd.R k40 40 w w0.heap.size (fun _ => True) v s.ns ∧ Below w0.heap.size w0 w ∧ w0.heap.size ≤ g
theorem k40E : ∀ q, q ∈ 40 :: k40.E → q ≠ 36 := by decide
section
variable {w0 w w1 : World} {g : Nat} {v : Value} {b : List Int} {s : TR}
theorem Rd.drewN (h : Rd w0 w g v b s) (n : Nat) : Rd w0 (w.drewN n) g v b s := by
  obtain ⟨A, c, h1, h2, h3, h4, h5, h6⟩ := h
  exact ⟨A, c, h1, h2, h3, Kd.R_drewN h4 n, pw_below_drewN h5 n, h6⟩
theorem Rd.drew (h : Rd w0 w g v b s) : Rd w0 w.drew g v b s := by
  obtain ⟨A, c, h1, h2, h3, h4, h5, h6⟩ := h
  exact ⟨A, c, h1, h2, h3, Kd.R_drew h4, below_drew h5, h6⟩
theorem Rd.alloc (h : Rd w0 w g v b s) (o : Obj) : Rd w0 (w.alloc o) g v b s := by
  obtain ⟨A, c, h1, h2, h3, h4, h5, h6⟩ := h
  exact ⟨A, c, h1, h2, blk_alloc h3 o, Kd.R_alloc h4 o, below_alloc h5 o, h6⟩
theorem Rd.set1 (h : Rd w0 w g v b s) (x : Int) : Rd w0 (w.setCell ⟨g, 1, none⟩ (.int .i64 x)) g v b ⟨x, s.ns, s.cd⟩ := by
  obtain ⟨A, c, h1, h2, h3, h4, h5, h6⟩ := h
  exact ⟨A, c, h1, h2, by simpa using blk_set h3 1 (.int .i64 x), Kd.R_set h4 h3 k40E 1 _, below_set h5 h6, h6⟩
theorem Rd.set3 (h : Rd w0 w g v b s) (x : Int) : Rd w0 (w.setCell ⟨g, 3, none⟩ (.int .i64 x)) g v b ⟨s.pos, s.ns, x⟩ := by
  obtain ⟨A, c, h1, h2, h3, h4, h5, h6⟩ := h
  exact ⟨A, c, h1, h2, by simpa using blk_set h3 3 (.int .i64 x), Kd.R_set h4 h3 k40E 3 _, below_set h5 h6, h6⟩
/-- What the walk asks of the reader's own cells. -/
theorem Rd.cells (h : Rd w0 w g v b s) : ∃ (A : Option Addr) (c : Nat), (w.cell? ⟨g, 0, none⟩ = some (.slice A b.length c) ∧ w.cell? ⟨g, 1, none⟩ = some (.int .i64 s.pos) ∧ w.cell? ⟨g, 2, none⟩ = some v ∧ w.cell? ⟨g, 3, none⟩ = some (.int .i64 s.cd)) ∧ (w.frozen? ⟨g, 1, none⟩ = false ∧ w.frozen? ⟨g, 2, none⟩ = false ∧ w.frozen? ⟨g, 3, none⟩ = false) ∧ b.length ≤ c ∧ Kd.C (Kd.int .u8) w A b.length b ∧ Kd.R k40 40 w w0.heap.size (fun _ => True) v s.ns ∧ Aside0 (∀ i : Int, 0 ≤ i → i < (b.length : Int) → ∃ ad, A = some ad ∧ w.cell? (ad.add i.toNat) = some (.int .u8 (rd b i)) ∧ (ad.add i.toNat).block ≠ g) := by
  obtain ⟨A, c, h1, h2, h3, h4, h5, h6⟩ := h
  refine ⟨A, c, ⟨(blk_cell h3 0).trans rfl, (blk_cell h3 1).trans rfl, (blk_cell h3 2).trans rfl, (blk_cell h3 3).trans rfl⟩, ⟨blk_frozen h3 1, blk_frozen h3 2, blk_frozen h3 3⟩, h1, Kd.C_below h2 h5, h4, ⟨fun i h0 hi => ?_⟩⟩
  obtain ⟨ad, e, hx⟩ := Kd.at_int h2 i h0 hi
  exact ⟨ad, e, pw_cell_below h5 hx, Nat.ne_of_lt (Nat.lt_of_lt_of_le (World.block_lt_of_cell? _ _ hx) h6)⟩
end
def trFail (s : TR) (c : Int) : TR := if s.cd = 0 then ⟨s.pos, s.ns, c⟩ else s
set_option maxHeartbeats 1000000 in
theorem trFail.calls (w0 w : World) (g : Nat) (v : Value) (b : List Int) (s : TR) (c : Int) (h : Rd w0 w g v b s) :
    Calls Try.prog 26 #[.pointer (some ⟨g, 0, none⟩), .int .i64 c] w fun e w' => e = .returned (.tuple #[]) ∧ Rd w0 w' g v b (trFail s c) := by
  obtain ⟨A, ca, ⟨hx0, hx1, hx2, hx3⟩, ⟨hf1, hf2, hf3⟩, hc, hC, hR, hbt⟩ := h.cells
  have H := Aside0.mk h
  clear h hc hC hR hbt
  by_cases h0 : s.cd = 0
  · have e : trFail s c = ⟨s.pos, s.ns, c⟩ := if_pos h0
    rw [e]; clear e
    have b0 : (s.cd == 0) = true := beq_iff_eq.mpr h0
    clear h0
    go_enter Try.func26, Try.ntmps26
    go_wp2
    first | go_end0 | ((try simp only [Exit.inBlock, Exit.then]); refine bodyPost_ret (results_none rfl _ _ _) rfl ?_)
    exact ⟨rfl, H.out.set3 c⟩
  · have e : trFail s c = s := if_neg h0
    rw [e]; clear e
    have b0 : (s.cd == 0) = false := beq_eq_false_iff_ne.mpr h0
    clear h0
    go_enter Try.func26, Try.ntmps26
    go_wp2
    first | go_end0 | ((try simp only [Exit.inBlock, Exit.then]); refine bodyPost_ret (results_none rfl _ _ _) rfl ?_)
    exact ⟨rfl, H.out⟩
/-- 'one': with no place in reach nothing is said. -/
def trOne (b : List Int) (s : TR) : Option (Int × TR) := if s.cd = 0 ∧ s.pos < (b.length : Int) then (if 0 ≤ s.pos then some (wrap64 (rd b s.pos), ⟨s.pos + 1, s.ns, s.cd⟩) else none) else some (0, trFail s 1)
set_option maxHeartbeats 1000000 in
theorem trOne.calls (w0 w : World) (g : Nat) (v : Value) (b : List Int) (s s' : TR) (r : Int) (h : Rd w0 w g v b s) (hf : trOne b s = some (r, s')) :
    Calls Try.prog 36 #[.pointer (some ⟨g, 0, none⟩)] w fun e w' => e = .returned (.int .i64 r) ∧ Rd w0 w' g v b s' := by
  obtain ⟨A, ca, ⟨hx0, hx1, hx2, hx3⟩, ⟨hf1, hf2, hf3⟩, hc, hC, hR, hbt⟩ := h.cells
  have H := Aside0.mk h
  clear h hc hR
  unfold trOne at hf
  by_cases h0 : s.cd = 0
  · by_cases h1 : s.pos < (b.length : Int)
    · rw [if_pos ⟨h0, h1⟩] at hf
      obtain ⟨h2, hf⟩ := ifs hf
      simp only [Option.some.injEq, Prod.mk.injEq] at hf
      obtain ⟨rfl, rfl⟩ := hf
      obtain ⟨ad, rfl, hx, hne⟩ := hbt.out s.pos h2 h1
      have hm : b.length ≤ 9223372036854775807 := hC.2.1
      have hx' := (cell_far (p := ⟨g, 1, none⟩) hne (.int .i64 (s.pos + 1))).trans hx
      have hy' := fun n_ : Nat => (show ((w.drewN n_).setCell ⟨g, 1, none⟩ (.int .i64 (s.pos + 1))).cell? _ = some _ from hx')
      clear hC hbt hx hne
      have b0 : (s.cd == 0) = true := beq_iff_eq.mpr h0
      have b0' : (s.cd != 0) = false := bne_eq_false_iff_eq.mpr h0
      have b1 : decide ((b.length : Int) ≤ s.pos) = false := decide_eq_false (by omega)
      have e1 : IntKind.i64.wrap (s.pos + 1) = s.pos + 1 := IntWalk.i64_in _ (by omega)
      have e2 : IntKind.i64.wrap (s.pos + 1 - 1) = s.pos := by rw [show s.pos + 1 - 1 = s.pos from by omega]; exact IntWalk.i64_in _ (by omega)
      have e3 : IntKind.i64.wrap s.pos = s.pos := IntWalk.i64_in _ (by omega)
      have q1 := eq_true h2
      have q2 := eq_true h1
      clear h0 h1 h2
      go_enter Try.func36, Try.ntmps36
      go_wp2
      repeat (go_quiet (fail); try go_wp2)
      go_ret
      exact ⟨rfl, ((H.out.drewN _).set1 _).drewN _⟩
    · rw [if_neg (fun h => h1 h.2)] at hf
      simp only [Option.some.injEq, Prod.mk.injEq] at hf
      obtain ⟨rfl, rfl⟩ := hf
      have b0 : (s.cd == 0) = true := beq_iff_eq.mpr h0
      have b0' : (s.cd != 0) = false := bne_eq_false_iff_eq.mpr h0
      have b1 : decide ((b.length : Int) ≤ s.pos) = true := decide_eq_true (by omega)
      clear h0 h1 hbt
      go_enter Try.func36, Try.ntmps36
      go_wp2
      go_quiet (fail)
      go_wp2_with (first | (go_at_call 26; (refine (trFail.calls w0 _ g _ b s 1 (H.out.drewN _)).mono ?_); rintro e w' ⟨rfl, H1⟩))
      go_ret
      exact ⟨rfl, H1⟩
  · rw [if_neg (fun h => h0 h.1)] at hf
    simp only [Option.some.injEq, Prod.mk.injEq] at hf
    obtain ⟨rfl, rfl⟩ := hf
    have b0 : (s.cd == 0) = false := beq_eq_false_iff_ne.mpr h0
    have b0' : (s.cd != 0) = true := bne_iff_ne.mpr h0
    clear h0 hbt
    go_enter Try.func36, Try.ntmps36
    go_wp2
    go_quiet (fail)
    go_wp2_with (first | (go_at_call 26; (refine (trFail.calls w0 _ g _ b s 1 (H.out.drewN _)).mono ?_); rintro e w' ⟨rfl, H1⟩))
    go_ret
    exact ⟨rfl, H1⟩

def trUvar (k : Nat) (b : List Int) (s : TR) : Option (Int × TR) := (impl_UvarGet.f k b s.pos).bind fun t => if s.cd = 0 ∧ t.2.2 = true then some (t.1, ⟨t.2.1, s.ns, s.cd⟩) else some (0, trFail s 1)
set_option maxHeartbeats 1000000 in
theorem trUvar.calls (k : Nat) (w0 w : World) (g : Nat) (v : Value) (b : List Int) (s s' : TR) (r : Int) (h : Rd w0 w g v b s) (hf : trUvar k b s = some (r, s')) :
    Calls Try.prog 24 #[.pointer (some ⟨g, 0, none⟩)] w fun e w' => e = .returned (.int .i64 r) ∧ Rd w0 w' g v b s' := by
  obtain ⟨A, ca, ⟨hx0, hx1, hx2, hx3⟩, ⟨hf1, hf2, hf3⟩, hc, hC, hR, hbt⟩ := h.cells
  have H := Aside0.mk h
  have HC := Aside0.mk hC
  have Hc := Aside0.mk hc
  clear h hR hbt hC hc
  unfold trUvar at hf
  obtain ⟨⟨t1, t2, t3⟩, ht, hf⟩ := Option.bind_eq_some_iff.mp hf
  have HT := Aside0.mk ht
  clear ht
  by_cases h0 : s.cd = 0
  · have b0 : (s.cd == 0) = true := beq_iff_eq.mpr h0
    have b0' : (s.cd != 0) = false := bne_eq_false_iff_eq.mpr h0
    cases t3 with
    | true =>
      rw [if_pos ⟨h0, rfl⟩] at hf
      simp only [Option.some.injEq, Prod.mk.injEq] at hf
      obtain ⟨rfl, rfl⟩ := hf
      clear h0
      go_enter Try.func24, Try.ntmps24
      go_wp2
      go_quiet (first | (go_at_call 35; (with_reducible refine (impl_UvarGet.calls k _ _ b s.pos t1 t2 true _ ?side1 ?side2 HT.out).mono ?_); (case side1 => exact C_later HC.out); (case side2 => exact Hc.out); rintro e w' ⟨rfl, ⟨nd, rfl⟩⟩; (try first | exact ⟨rfl, _, World.drewN_drewN _ _ _⟩ | exact ⟨rfl, _, Eq.trans (World.drewN_drewN _ _ _) (congrArg (World.drewN _) (Nat.add_assoc _ _ _))⟩)))
      go_wp2
      go_ret
      exact ⟨rfl, (H.out.drewN _).set1 _⟩
    | false =>
      rw [if_neg (fun h => by cases h.2)] at hf
      simp only [Option.some.injEq, Prod.mk.injEq] at hf
      obtain ⟨rfl, rfl⟩ := hf
      clear h0
      go_enter Try.func24, Try.ntmps24
      go_wp2
      go_quiet (first | (go_at_call 35; (with_reducible refine (impl_UvarGet.calls k _ _ b s.pos t1 t2 false _ ?side1 ?side2 HT.out).mono ?_); (case side1 => exact C_later HC.out); (case side2 => exact Hc.out); rintro e w' ⟨rfl, ⟨nd, rfl⟩⟩; (try first | exact ⟨rfl, _, World.drewN_drewN _ _ _⟩ | exact ⟨rfl, _, Eq.trans (World.drewN_drewN _ _ _) (congrArg (World.drewN _) (Nat.add_assoc _ _ _))⟩)))
      go_wp2_with (first | (go_at_call 26; (refine (trFail.calls w0 _ g _ b s 1 (H.out.drewN _)).mono ?_); rintro e w' ⟨rfl, H1⟩))
      go_ret
      exact ⟨rfl, H1⟩
  · rw [if_neg (fun h => h0 h.1)] at hf
    simp only [Option.some.injEq, Prod.mk.injEq] at hf
    obtain ⟨rfl, rfl⟩ := hf
    have b0 : (s.cd == 0) = false := beq_eq_false_iff_ne.mpr h0
    have b0' : (s.cd != 0) = true := bne_iff_ne.mpr h0
    clear h0
    go_enter Try.func24, Try.ntmps24
    go_wp2
    go_quiet (first | (go_at_call 35; (with_reducible refine (impl_UvarGet.calls k _ _ b s.pos t1 t2 t3 _ ?side1 ?side2 HT.out).mono ?_); (case side1 => exact C_later HC.out); (case side2 => exact Hc.out); rintro e w' ⟨rfl, ⟨nd, rfl⟩⟩; (try first | exact ⟨rfl, _, World.drewN_drewN _ _ _⟩ | exact ⟨rfl, _, Eq.trans (World.drewN_drewN _ _ _) (congrArg (World.drewN _) (Nat.add_assoc _ _ _))⟩)))
    go_wp2_with (first | (go_at_call 26; (refine (trFail.calls w0 _ g _ b s 1 (H.out.drewN _)).mono ?_); rintro e w' ⟨rfl, H1⟩))
    go_ret
    exact ⟨rfl, H1⟩
/-- The cells of a node. -/
def nodeV (n : S40) : Value := .agg #[.int .i64 n.f0, .int .i64 n.f1, .int .i64 n.f2, .string n.f3, .int .i64 n.f4]
def trBegin (s : TR) (n : S40) (deep : Int) : Option (Int × TR) :=
  if 12 < deep ∨ (s.ns.length : Int) = 1500 then some (0, trFail s 4) else if s.cd = 0 then (if s.ns.length < 1500 then some ((s.ns.length : Int), ⟨s.pos, s.ns ++ [n], s.cd⟩) else none) else some (0, s)
theorem Rd.below {w0 w w1 : World} {g : Nat} {v : Value} {b : List Int} {s : TR} (h : Rd w0 w g v b s) (hb : Below w.heap.size w w1) : Rd w0 w1 g v b s := by
  obtain ⟨A, c, q1, q2, q3, q4, q5, q6⟩ := h
  exact ⟨A, c, q1, q2, (hb.block g (blk_lt q3)).trans q3, Kd.R_below q4 hb, below_then q5 q5.size hb, q6⟩
theorem trFail_ne (s : TR) (c : Int) (hc : c ≠ 0) : ((trFail s c).cd != 0) = true := by
  unfold trFail
  split
  · exact bne_iff_ne.mpr hc
  · exact bne_iff_ne.mpr ‹_›
/-- A node appended: the list's cell is written last. -/
theorem Rd.appended {w0 w w1 : World} {g : Nat} {v v1 : Value} {b : List Int} {s : TR} {n : S40} (h : Rd w0 w g v b s) (h1 : Kd.R k40 40 w1 w0.heap.size (fun _ => True) v1 (s.ns ++ [n])) (hb : Below w0.heap.size w0 w1) (hg : w.grownBy w1 v.ownBlock) :
    Rd w0 (w1.setCell ⟨g, 2, none⟩ v1) g v1 b ⟨s.pos, s.ns ++ [n], s.cd⟩ := by
  obtain ⟨A, c, q1, q2, q3, q4, q5, q6⟩ := h
  have hne := Kd.R_ne q4 q3 (show 40 ≠ 36 by decide)
  have q3' := blk_grown q3 hg hne
  obtain ⟨A1, c1, rfl⟩ := Kd.R_slice h1
  exact ⟨A, c, q1, q2, by simpa using blk_set q3' 2 _, Kd.R_set h1 q3' k40E 2 _, below_set hb q6, q6⟩
theorem Rd.belowW {w0 w : World} {g : Nat} {v : Value} {b : List Int} {s : TR} (h : Rd w0 w g v b s) : Below w0.heap.size w0 w := by
  obtain ⟨A, c, q1, q2, q3, q4, q5, q6⟩ := h
  exact q5
theorem Rd.held {w0 w w1 : World} {g : Nat} {v : Value} {b : List Int} {s : TR} (h : Rd w0 w g v b s) (hg : w.grownBy w1 v.ownBlock) : w1.cell? ⟨g, 2, none⟩ = some v ∧ w1.frozen? ⟨g, 2, none⟩ = false := by
  obtain ⟨A, c, q1, q2, q3, q4, q5, q6⟩ := h
  have q3' := blk_grown q3 hg (Kd.R_ne q4 q3 (show 40 ≠ 36 by decide))
  exact ⟨(blk_cell q3' 2).trans rfl, blk_frozen q3' 2⟩
set_option maxHeartbeats 2000000 in
set_option maxRecDepth 100000 in
theorem trBegin.calls (w0 w : World) (g : Nat) (v : Value) (b : List Int) (s s' : TR) (n : S40) (deep r : Int) (h : Rd w0 w g v b s) (hf : trBegin s n deep = some (r, s')) :
    Calls Try.prog 22 #[.pointer (some ⟨g, 0, none⟩), nodeV n, .int .i64 deep] w fun e w' => ∃ v', e = .returned (.int .i64 r) ∧ Rd w0 w' g v' b s' := by
  unfold nodeV
  have H := Aside0.mk h
  clear h
  unfold trBegin at hf
  by_cases h1 : 12 < deep
  · rw [if_pos (Or.inl h1)] at hf
    simp only [Option.some.injEq, Prod.mk.injEq] at hf
    obtain ⟨rfl, rfl⟩ := hf
    have b1 : decide (12 < deep) = true := decide_eq_true h1
    clear h1
    go_enter Try.func22, Try.ntmps22
    go_wp2_with (first | ((with_reducible refine gate_dst (N := 4) rfl ?_); refine bx_ 4 #[.int .i64 n.f0, .int .i64 n.f1, .int .i64 n.f2, .string n.f3, .int .i64 n.f4] 40 ?_; intro g1 hg1 w1 hk1 hb1; have H1 := Aside0.mk (H.out.below hb1); obtain ⟨A, ca, ⟨hx0, hx1, hx2, hx3⟩, ⟨hf1, hf2, hf3⟩, hc, hC, hR, hbt⟩ := H1.out.cells; obtain ⟨A2, c2, rfl⟩ := Kd.R_slice hR; have HR := Aside0.mk hR; have HK1 := Aside0.mk hk1; obtain ⟨hk_0, hk_1, hk_2, hk_3, hk_4, _⟩ := cl5 HK1; clear hR hbt hC hc hk1 hg1 hb1) | (go_at_call 26; (refine (trFail.calls w0 _ g _ b s 4 H1.out).mono ?_); rintro e w' ⟨rfl, H2⟩; have hz := trFail_ne s 4 (by decide); obtain ⟨A_, ca_, ⟨hy0, hy1, hy2, hy3⟩, _⟩ := H2.cells))
    go_ret
    exact ⟨_, rfl, H2⟩
  · have b1 : decide (12 < deep) = false := decide_eq_false h1
    by_cases h2 : (s.ns.length : Int) = 1500
    · rw [if_pos (Or.inr h2)] at hf
      simp only [Option.some.injEq, Prod.mk.injEq] at hf
      obtain ⟨rfl, rfl⟩ := hf
      have b2 : ((s.ns.length : Int) == 1500) = true := beq_iff_eq.mpr h2
      clear h1 h2
      go_enter Try.func22, Try.ntmps22
      go_wp2_with (first | ((with_reducible refine gate_dst (N := 4) rfl ?_); refine bx_ 4 #[.int .i64 n.f0, .int .i64 n.f1, .int .i64 n.f2, .string n.f3, .int .i64 n.f4] 40 ?_; intro g1 hg1 w1 hk1 hb1; have H1 := Aside0.mk (H.out.below hb1); obtain ⟨A, ca, ⟨hx0, hx1, hx2, hx3⟩, ⟨hf1, hf2, hf3⟩, hc, hC, hR, hbt⟩ := H1.out.cells; obtain ⟨A2, c2, rfl⟩ := Kd.R_slice hR; have HR := Aside0.mk hR; have HK1 := Aside0.mk hk1; obtain ⟨hk_0, hk_1, hk_2, hk_3, hk_4, _⟩ := cl5 HK1; clear hR hbt hC hc hk1 hg1 hb1) | (go_at_call 26; (refine (trFail.calls w0 _ g _ b s 4 H1.out).mono ?_); rintro e w' ⟨rfl, H2⟩; have hz := trFail_ne s 4 (by decide); obtain ⟨A_, ca_, ⟨hy0, hy1, hy2, hy3⟩, _⟩ := H2.cells))
      go_ret
      exact ⟨_, rfl, H2⟩
    · rw [if_neg (fun h => h.elim h1 h2)] at hf
      have b2 : ((s.ns.length : Int) == 1500) = false := beq_eq_false_iff_ne.mpr h2
      by_cases h0 : s.cd = 0
      · rw [if_pos h0] at hf
        obtain ⟨h3, hf⟩ := ifs hf
        simp only [Option.some.injEq, Prod.mk.injEq] at hf
        obtain ⟨rfl, rfl⟩ := hf
        have b0 : (s.cd != 0) = false := bne_eq_false_iff_eq.mpr h0
        have HL := Aside0.mk h3
        clear h1 h2 h0 h3
        go_enter Try.func22, Try.ntmps22
        go_wp2_with (first | ((with_reducible refine gate_dst (N := 4) rfl ?_); refine bx_ 4 #[.int .i64 n.f0, .int .i64 n.f1, .int .i64 n.f2, .string n.f3, .int .i64 n.f4] 40 ?_; intro g1 hg1 w1 hk1 hb1; have H1 := Aside0.mk (H.out.below hb1); obtain ⟨A, ca, ⟨hx0, hx1, hx2, hx3⟩, ⟨hf1, hf2, hf3⟩, hc, hC, hR, hbt⟩ := H1.out.cells; obtain ⟨A2, c2, rfl⟩ := Kd.R_slice hR; have HR := Aside0.mk hR; have HK1 := Aside0.mk hk1; obtain ⟨hk_0, hk_1, hk_2, hk_3, hk_4, _⟩ := cl5 HK1; clear hR hbt hC hc hk1 hg1 hb1))
        have hx2a := fun o_ : Obj => pw_cell_below (below_alloc (Below.refl _ w1) o_) hx2
        go_region_law (((refine Kd.R_append_step k40 (w0 := w0) w0.heap.size (by rfl) (.tmp 28) (.tmp 30) 23 40 (.agg #[(.int .i64 0), (.int .i64 0), (.int .i64 0), (.string ⟨#[]⟩), (.int .i64 0)]) 48 rfl Try.underlying23 info40 rfl (by decide) (by omega) (.slice A2 s.ns.length c2) s.ns n [.int .i64 n.f0, .int .i64 n.f1, .int .i64 n.f2, .string n.f3, .int .i64 n.f4] (fun _ => True) (fun _ => False) rfl rfl (k40_mkM _ _ _ n) (fun _ hk => hk.elim) (fun _ _ => trivial) (Kd.R_drew HR.out) H1.out.drew.belowW H1.out.drew.belowW.size (by have := HL.out; omega) ?_); intro v3 w3 ho hb hg hat; have HS := Aside0.mk (H1.out.drew.appended ho hb hg); obtain ⟨hs1, hs2⟩ := H1.out.drew.held hg; obtain ⟨A3, c3, rfl⟩ := Kd.R_slice ho; clear ho hb hg hat))
        all_goals
          go_wp2
          go_ret
          refine ⟨_, ?_, by have h_ := HS.out; rw [List.length_append] at h_; exact h_⟩
          show Ending.returned (.int .i64 (wrap64 (s.ns.length : Int))) = _
          rw [show wrap64 (s.ns.length : Int) = (s.ns.length : Int) from by have := HL.out; unfold wrap64; omega]
      · rw [if_neg h0] at hf
        simp only [Option.some.injEq, Prod.mk.injEq] at hf
        obtain ⟨rfl, rfl⟩ := hf
        have b0 : (s.cd != 0) = true := bne_iff_ne.mpr h0
        clear h1 h2 h0
        go_enter Try.func22, Try.ntmps22
        go_wp2_with (first | ((with_reducible refine gate_dst (N := 4) rfl ?_); refine bx_ 4 #[.int .i64 n.f0, .int .i64 n.f1, .int .i64 n.f2, .string n.f3, .int .i64 n.f4] 40 ?_; intro g1 hg1 w1 hk1 hb1; have H1 := Aside0.mk (H.out.below hb1); obtain ⟨A, ca, ⟨hx0, hx1, hx2, hx3⟩, ⟨hf1, hf2, hf3⟩, hc, hC, hR, hbt⟩ := H1.out.cells; obtain ⟨A2, c2, rfl⟩ := Kd.R_slice hR; have HR := Aside0.mk hR; have HK1 := Aside0.mk hk1; obtain ⟨hk_0, hk_1, hk_2, hk_3, hk_4, _⟩ := cl5 HK1; clear hR hbt hC hc hk1 hg1 hb1))
        go_ret
        exact ⟨_, rfl, H1.out⟩

/-- 'text'. -/
def trText (k : Nat) (b : List Int) (s : TR) : Option (ByteArray × TR) := (trUvar k b s).bind fun u =>
  if u.2.cd = 0 then (if 0 ≤ u.1 ∧ u.1 ≤ 300 then (if wrap64 ((b.length : Int) - u.2.pos) < u.1 then some (⟨#[]⟩, trFail u.2 1) else if 0 ≤ u.2.pos ∧ u.2.pos + u.1 ≤ (b.length : Int) then some (strOfNums ((b.take (u.2.pos + u.1).toNat).drop u.2.pos.toNat), ⟨u.2.pos + u.1, u.2.ns, u.2.cd⟩) else none) else some (⟨#[]⟩, trFail u.2 4)) else some (⟨#[]⟩, u.2)
theorem Rd.cells0 {w0 w : World} {g : Nat} {v : Value} {b : List Int} {s : TR} (h : Rd w0 w g v b s) : ∃ (A : Option Addr) (c : Nat), (w.cell? ⟨g, 0, none⟩ = some (.slice A b.length c) ∧ w.cell? ⟨g, 1, none⟩ = some (.int .i64 s.pos) ∧ w.cell? ⟨g, 2, none⟩ = some v ∧ w.cell? ⟨g, 3, none⟩ = some (.int .i64 s.cd)) ∧ (w.frozen? ⟨g, 1, none⟩ = false ∧ w.frozen? ⟨g, 2, none⟩ = false ∧ w.frozen? ⟨g, 3, none⟩ = false) ∧ b.length ≤ c ∧ Kd.C (Kd.int .u8) w0 A b.length b ∧ Kd.R k40 40 w w0.heap.size (fun _ => True) v s.ns := by
  obtain ⟨A, c, h1, h2, h3, h4, h5, h6⟩ := h
  exact ⟨A, c, ⟨(blk_cell h3 0).trans rfl, (blk_cell h3 1).trans rfl, (blk_cell h3 2).trans rfl, (blk_cell h3 3).trans rfl⟩, ⟨blk_frozen h3 1, blk_frozen h3 2, blk_frozen h3 3⟩, h1, h2, h4⟩
theorem within_f (n lo hi : Int) : impl_within.f n lo hi = some (decide (lo ≤ n ∧ n ≤ hi)) := by
  unfold impl_within.f
  by_cases h : lo ≤ n <;> simp [h]
set_option maxHeartbeats 4000000 in
set_option maxRecDepth 100000 in
theorem trText.calls (k : Nat) (w0 w : World) (g : Nat) (v : Value) (b : List Int) (s s' : TR) (r : ByteArray) (h : Rd w0 w g v b s) (hf : trText k b s = some (r, s')) :
    Calls Try.prog 27 #[.pointer (some ⟨g, 0, none⟩)] w fun e w' => e = .returned (.string r) ∧ Rd w0 w' g v b s' := by
  have H := Aside0.mk h
  clear h
  unfold trText at hf
  obtain ⟨⟨n, s1⟩, hu, hf⟩ := Option.bind_eq_some_iff.mp hf
  have HU := Aside0.mk hu
  clear hu
  dsimp only at hf
  by_cases h0 : s1.cd = 0
  · rw [if_pos h0] at hf
    have b0 : (s1.cd == 0) = true := beq_iff_eq.mpr h0
    have b0' : (s1.cd != 0) = false := bne_eq_false_iff_eq.mpr h0
    have b0'' : ∀ c, c ≠ 0 → ((trFail s1 c).cd != 0) = true ∧ ((trFail s1 c).cd == 0) = false := fun c hc => ⟨trFail_ne s1 c hc, by have := trFail_ne s1 c hc; simpa using this⟩
    by_cases h1 : 0 ≤ n ∧ n ≤ 300
    · rw [if_pos h1] at hf
      have HW : Aside0 (impl_within.f n 0 300 = some true) := ⟨by rw [within_f, decide_eq_true h1]⟩
      by_cases h2 : wrap64 ((b.length : Int) - s1.pos) < n
      · rw [if_pos h2] at hf
        simp only [Option.some.injEq, Prod.mk.injEq] at hf
        obtain ⟨rfl, rfl⟩ := hf
        have b2 : decide (wrap64 ((b.length : Int) - s1.pos) < n) = true := decide_eq_true h2
        have z1 := (b0'' 1 (by decide)).1
        have z2 := (b0'' 1 (by decide)).2
        clear h0 h1 h2 b0''
        go_enter Try.func27, Try.ntmps27
        go_wp2_with (first | (go_at_call 24; (refine (trUvar.calls k w0 _ g v b s s1 n H.out HU.out).mono ?_); rintro e w' ⟨rfl, h1⟩; have H1 := Aside0.mk h1; clear h1; obtain ⟨A, ca, ⟨hx0, hx1, hx2, hx3⟩, ⟨hf1, hf2, hf3⟩, hc, hC, hR⟩ := H1.out.cells0; have HC := Aside0.mk hC; have Hc := Aside0.mk hc; clear hR hC hc) | (go_at_call 13; (refine (impl_within.calls n 0 300 true _ HW.out).mono ?_); rintro e w' ⟨rfl, ⟨nd, rfl⟩⟩))
        go_quiet (fail)
        go_wp2_with (first | (go_at_call 26; (refine (trFail.calls w0 _ g v b s1 1 ?hh).mono ?_); (case hh => repeat (first | exact H1.out | apply Rd.drewN | apply Rd.drew)); rintro e w' ⟨rfl, h2⟩; have H2 := Aside0.mk h2; clear h2; obtain ⟨A_, ca_, ⟨hy0, hy1, hy2, hy3⟩, ⟨hg1, hg2, hg3⟩, hc_, hC_, hR_⟩ := H2.out.cells0; clear hC_ hR_ hc_))
        go_ret
        exact ⟨rfl, H2.out⟩
      · rw [if_neg h2] at hf
        obtain ⟨h3, hf⟩ := ifs hf
        simp only [Option.some.injEq, Prod.mk.injEq] at hf
        obtain ⟨rfl, rfl⟩ := hf
        have b2 : decide (wrap64 ((b.length : Int) - s1.pos) < n) = false := decide_eq_false h2
        have h1' := h1.1
        obtain ⟨h3', h3''⟩ := h3
        have HI := Aside0.mk h1
        obtain ⟨L, hL⟩ : ∃ L_ : List Int, L_ = (b.take (s1.pos + n).toNat).drop s1.pos.toNat := ⟨_, rfl⟩
        rw [← hL]
        have HLL := Aside0.mk hL
        clear hL
        have HJ := Aside0.mk (And.intro h3' h3'')
        clear h0 h1 h2 b0'' h1' h3' h3''
        go_enter Try.func27, Try.ntmps27
        go_wp2_with (first | (go_at_call 24; (refine (trUvar.calls k w0 _ g v b s s1 n H.out HU.out).mono ?_); rintro e w' ⟨rfl, h1⟩; have H1 := Aside0.mk h1; clear h1; obtain ⟨A, ca, ⟨hx0, hx1, hx2, hx3⟩, ⟨hf1, hf2, hf3⟩, hc, hC, hR⟩ := H1.out.cells0; have HC := Aside0.mk hC; have Hc := Aside0.mk hc; clear hR hC hc) | (go_at_call 13; (refine (impl_within.calls n 0 300 true _ HW.out).mono ?_); rintro e w' ⟨rfl, ⟨nd, rfl⟩⟩))
        go_quiet (fail)
        obtain ⟨i0_, hi_, hsz0_, hsz_, _⟩ := info_parts info5
        have hm := HC.out.2.1
        obtain ⟨A3, hcut, hA3, hC3⟩ := print_mid_of (P := Try.prog) (Value.int .u8) 0 22 5 .i64 .i64 Try.underlying22 hi_ hsz_ A ca b s1.pos (s1.pos + n) HJ.out.1 (by have := HI.out; omega) HJ.out.2 Hc.out
        rw [← HLL.out] at hcut
        have hcv := fun n_ m_ : Nat => Kd.C_string (P := Try.prog) (A := A3) (c := (ca - s1.pos.toNat)) Try.underlying22 Try.underlying5 Try.underlying9 (Kd.C_of_reads (h1 := fun _ => rfl) (hA3 _ (Kd.reads_of_C (Kd.C_below HC.out (((H1.out.drewN n_).set1 (s1.pos + n)).drewN m_).belowW))))
        have e1 : IntKind.i64.wrap (s1.pos + n) = s1.pos + n := IntWalk.i64_in _ (by have := HI.out; have := HJ.out; omega)
        have e2 : IntKind.i64.wrap (s1.pos + n - n) = s1.pos := by rw [show s1.pos + n - n = s1.pos from by omega]; exact IntWalk.i64_in _ (by have := HI.out; have := HJ.out; omega)
        have e3 : IntKind.i64.wrap s1.pos = s1.pos := IntWalk.i64_in _ (by have := HI.out; have := HJ.out; omega)
        simp only [← HLL.out] at hcv
        clear hi_ hsz0_ hsz_ hA3 hC3 hm
        go_wp2
        go_quiet (fail)
        go_wp2
        go_ret
        exact ⟨rfl, by repeat (first | exact H1.out | apply Rd.drewN | apply Rd.drew | apply Rd.set1)⟩
    · rw [if_neg h1] at hf
      simp only [Option.some.injEq, Prod.mk.injEq] at hf
      obtain ⟨rfl, rfl⟩ := hf
      have HW : Aside0 (impl_within.f n 0 300 = some false) := ⟨by rw [within_f, decide_eq_false h1]⟩
      have z1 := (b0'' 4 (by decide)).1
      have z2 := (b0'' 4 (by decide)).2
      clear h0 h1 b0''
      go_enter Try.func27, Try.ntmps27
      go_wp2_with (first | (go_at_call 24; (refine (trUvar.calls k w0 _ g v b s s1 n H.out HU.out).mono ?_); rintro e w' ⟨rfl, h1⟩; have H1 := Aside0.mk h1; clear h1; obtain ⟨A, ca, ⟨hx0, hx1, hx2, hx3⟩, ⟨hf1, hf2, hf3⟩, hc, hC, hR⟩ := H1.out.cells0; have HC := Aside0.mk hC; have Hc := Aside0.mk hc; clear hR hC hc) | (go_at_call 13; (refine (impl_within.calls n 0 300 false _ HW.out).mono ?_); rintro e w' ⟨rfl, ⟨nd, rfl⟩⟩) | (go_at_call 26; (refine (trFail.calls w0 _ g v b s1 4 ?hh).mono ?_); (case hh => repeat (first | exact H1.out | apply Rd.drewN | apply Rd.drew)); rintro e w' ⟨rfl, h2⟩; have H2 := Aside0.mk h2; clear h2; obtain ⟨A_, ca_, ⟨hy0, hy1, hy2, hy3⟩, ⟨hg1, hg2, hg3⟩, hc_, hC_, hR_⟩ := H2.out.cells0; clear hC_ hR_ hc_))
      go_quiet (fail)
      go_wp2
      go_ret
      exact ⟨rfl, H2.out.drewN _⟩
  · rw [if_neg h0] at hf
    simp only [Option.some.injEq, Prod.mk.injEq] at hf
    obtain ⟨rfl, rfl⟩ := hf
    have b0 : (s1.cd == 0) = false := beq_eq_false_iff_ne.mpr h0
    have b0' : (s1.cd != 0) = true := bne_iff_ne.mpr h0
    clear h0
    go_enter Try.func27, Try.ntmps27
    go_wp2_with (first | (go_at_call 24; (refine (trUvar.calls k w0 _ g v b s s1 n H.out HU.out).mono ?_); rintro e w' ⟨rfl, h1⟩; have H1 := Aside0.mk h1; clear h1; obtain ⟨A, ca, ⟨hx0, hx1, hx2, hx3⟩, ⟨hf1, hf2, hf3⟩, hc, hC, hR⟩ := H1.out.cells0; have HC := Aside0.mk hC; have Hc := Aside0.mk hc; clear hR hC hc))
    go_quiet (fail)
    go_wp2
    go_ret
    exact ⟨rfl, H1.out.drewN _⟩
/-- One node of the list turned. -/
def trSet (s : TR) (pl : Int) (f : S40 → S40) : Option TR := if 0 ≤ pl ∧ pl < (s.ns.length : Int) then some ⟨s.pos, s.ns.set pl.toNat (f (rd_T40 s.ns pl)), s.cd⟩ else none
mutual
def trNode : Nat → List Int → TR → Int → Int → Int → Option TR
  | 0, _, _, _, _, _ => none
  | k + 1, b, s, kind, id, deep => (trBegin s ⟨kind, id, 0, ⟨#[]⟩, 0⟩ deep).bind fun p => if p.2.cd = 0 then
      (if kind = 5 ∨ kind = 6 then (trUvar k b p.2).bind fun u => (impl_Zag.f u.1).bind fun n => trSet (if kind = 5 ∧ u.2.cd = 0 ∧ ¬ (-2147483648 ≤ n ∧ n ≤ 2147483647) then trFail u.2 3 else u.2) p.1 (fun x => ⟨x.f0, x.f1, n, x.f3, x.f4⟩)
       else if kind = 8 then (trText k b p.2).bind fun u => trSet u.2 p.1 (fun x => ⟨x.f0, x.f1, x.f2, u.1, x.f4⟩)
       else if kind = 9 then trParts k b p.2 p.1 deep
       else if kind = 12 then trFields k b p.2 p.1 0 deep
       else some p.2)
    else some p.2
def trParts : Nat → List Int → TR → Int → Int → Option TR
  | 0, _, _, _, _ => none
  | k + 1, b, s, pl, deep => (trOne b s).bind fun h => (if wrap64 (Int.tdiv h.1 16) = 15 then trUvar k b h.2 else some (wrap64 (Int.tdiv h.1 16), h.2)).bind fun m =>
      if m.2.cd = 0 ∧ m.1 ≠ 0 then ((impl_isType.f 1 (Int.tmod h.1 16) true).bind fun ty =>
        (trSet (if 0 ≤ m.1 ∧ m.1 ≤ 1500 then (if ty = true then m.2 else trFail m.2 2) else trFail (if ty = true then m.2 else trFail m.2 2) 4) pl (fun x => ⟨x.f0, x.f1, Int.tmod h.1 16, x.f3, m.1⟩)).bind fun s4 => trPLoop k b s4 (Int.tmod h.1 16) m.1 0 deep) else some m.2
def trPLoop : Nat → List Int → TR → Int → Int → Int → Int → Option TR
  | 0, _, _, _, _, _, _ => none
  | k + 1, b, s, kind, many, i, deep => if i < many ∧ s.cd = 0 then ((trNode k b s kind 0 (wrap64 (deep + 1))).bind fun s1 => trPLoop k b s1 kind many (wrap64 (i + 1)) deep) else some s
def trFields : Nat → List Int → TR → Int → Int → Int → Option TR
  | 0, _, _, _, _, _ => none
  | k + 1, b, s, pl, last, deep => (trOne b s).bind fun h => if h.2.cd = 0 ∧ h.1 ≠ 0 then ((impl_isType.f 1 (Int.tmod h.1 16) false).bind fun ty =>
      (if h.1 < 16 then (trUvar k b (if ty = true then h.2 else trFail h.2 2)).bind fun u => (impl_Zag.f u.1).bind fun z => some (z, u.2) else some (wrap64 (last + wrap64 (Int.tdiv h.1 16)), if ty = true then h.2 else trFail h.2 2)).bind fun q =>
      (some (if q.2.cd = 0 ∧ ¬ (1 ≤ q.1 ∧ q.1 ≤ 1000) then trFail q.2 3 else q.2)).bind fun s3 => (some (if s3.cd = 0 ∧ q.1 ≤ last then trFail s3 5 else s3)).bind fun s4 =>
      if s4.cd = 0 then ((trSet s4 pl (fun x => ⟨x.f0, x.f1, x.f2, x.f3, wrap64 (x.f4 + 1)⟩)).bind fun s5 => (trNode k b s5 (Int.tmod h.1 16) q.1 (wrap64 (deep + 1))).bind fun s6 => trFields k b s6 pl q.1 deep) else some s4) else some h.2
end
/-- Element pl of the reader's list: where it lies, and what a store leaves. -/
theorem Rd.elem {w0 w : World} {g : Nat} {v : Value} {b : List Int} {s : TR} (h : Rd w0 w g v b s) (pl : Int) (h0 : 0 ≤ pl) (h1 : pl < (s.ns.length : Int)) :
    ∃ gl cl, gl ≠ g ∧ v = .slice (some ⟨gl, 0, none⟩) s.ns.length cl ∧ (∀ j u, [Value.int .i64 (rd_T40 s.ns pl).f0, .int .i64 (rd_T40 s.ns pl).f1, .int .i64 (rd_T40 s.ns pl).f2, .string (rd_T40 s.ns pl).f3, .int .i64 (rd_T40 s.ns pl).f4][j]? = some u → w.cell? ⟨gl, pl.toNat * 5 + j, none⟩ = some u) ∧ (∀ j, w.frozen? ⟨gl, pl.toNat * 5 + j, none⟩ = false) ∧
      (∀ x, Rd w0 (w.setCell ⟨gl, pl.toNat * 5 + 2, none⟩ (.int .i64 x)) g v b ⟨s.pos, s.ns.set pl.toNat ⟨(rd_T40 s.ns pl).f0, (rd_T40 s.ns pl).f1, x, (rd_T40 s.ns pl).f3, (rd_T40 s.ns pl).f4⟩, s.cd⟩) ∧
      (∀ x, Rd w0 (w.setCell ⟨gl, pl.toNat * 5 + 3, none⟩ (.string x)) g v b ⟨s.pos, s.ns.set pl.toNat ⟨(rd_T40 s.ns pl).f0, (rd_T40 s.ns pl).f1, (rd_T40 s.ns pl).f2, x, (rd_T40 s.ns pl).f4⟩, s.cd⟩) ∧
      (∀ x, Rd w0 (w.setCell ⟨gl, pl.toNat * 5 + 4, none⟩ (.int .i64 x)) g v b ⟨s.pos, s.ns.set pl.toNat ⟨(rd_T40 s.ns pl).f0, (rd_T40 s.ns pl).f1, (rd_T40 s.ns pl).f2, (rd_T40 s.ns pl).f3, x⟩, s.cd⟩) := by
  obtain ⟨A, c, q1, q2, q3, q4, q5, q6⟩ := h
  obtain ⟨gl, cl, rfl, gb, glt, cells, hg⟩ := Kd.R_form q4 (by omega)
  have hne : gl ≠ g := fun e => by
    subst e
    rw [q3] at hg
    injection hg with hg
    injection hg with _ hg
    cases hg
  obtain ⟨ce, hcl, hM, hcc, hfr⟩ := Kd.R_elem q4 z40 pl h0 h1
  obtain rfl := k40_openM hM
  have key : ∀ (j : Nat) (u : Value) (x' : S40), j < 5 → k40.M w w0.heap.size (fun k => True ∧ k ≠ gl) x' ([Value.int .i64 (rd_T40 s.ns pl).f0, .int .i64 (rd_T40 s.ns pl).f1, .int .i64 (rd_T40 s.ns pl).f2, .string (rd_T40 s.ns pl).f3, .int .i64 (rd_T40 s.ns pl).f4].take j ++ [u] ++ [Value.int .i64 (rd_T40 s.ns pl).f0, .int .i64 (rd_T40 s.ns pl).f1, .int .i64 (rd_T40 s.ns pl).f2, .string (rd_T40 s.ns pl).f3, .int .i64 (rd_T40 s.ns pl).f4].drop (j + 1)) →
      Rd w0 (w.setCell ⟨gl, pl.toNat * 5 + j, none⟩ u) g (.slice (some ⟨gl, 0, none⟩) s.ns.length cl) b ⟨s.pos, s.ns.set pl.toNat x', s.cd⟩ := by
    intro j u x' hj hM'
    have HP := Kd.R_seg q4 pl h0 h1 (seg := [u]) (j := j) hcl hcc (show j + 1 ≤ 5 from by omega) (x' := x') hM' (fun _ hk => hk)
    refine ⟨A, c, q1, q2, ?_, ?_, below_set q5 gb, q6⟩
    · exact blk_far q3 (p := ⟨gl, pl.toNat * 5 + j, none⟩) (fun e => hne e.symm) u
    · exact HP.1
  refine ⟨gl, cl, hne, rfl, fun j u hu => hcc j u hu, fun j => hfr j, fun x => key 2 _ _ (by omega) (k40_mkM _ _ _ _), fun x => key 3 _ _ (by omega) (k40_mkM _ _ _ _), fun x => key 4 _ _ (by omega) (k40_mkM _ _ _ _)⟩
theorem Rd.elemV {w0 w : World} {g gl n cl : Nat} {b : List Int} {s : TR} (h : Rd w0 w g (.slice (some ⟨gl, 0, none⟩) n cl) b s) (pl : Int) (h0 : 0 ≤ pl) (h1 : pl < (s.ns.length : Int)) :
    gl ≠ g ∧ n = s.ns.length ∧ (w.cell? ⟨gl, pl.toNat * 5, none⟩ = some (.int .i64 (rd_T40 s.ns pl).f0) ∧ w.cell? ⟨gl, pl.toNat * 5 + 1, none⟩ = some (.int .i64 (rd_T40 s.ns pl).f1) ∧ w.cell? ⟨gl, pl.toNat * 5 + 2, none⟩ = some (.int .i64 (rd_T40 s.ns pl).f2) ∧ w.cell? ⟨gl, pl.toNat * 5 + 3, none⟩ = some (.string (rd_T40 s.ns pl).f3) ∧ w.cell? ⟨gl, pl.toNat * 5 + 4, none⟩ = some (.int .i64 (rd_T40 s.ns pl).f4)) ∧ (∀ j, w.frozen? ⟨gl, pl.toNat * 5 + j, none⟩ = false) ∧
      (∀ x, Rd w0 (w.setCell ⟨gl, pl.toNat * 5 + 2, none⟩ (.int .i64 x)) g (.slice (some ⟨gl, 0, none⟩) n cl) b ⟨s.pos, s.ns.set pl.toNat ⟨(rd_T40 s.ns pl).f0, (rd_T40 s.ns pl).f1, x, (rd_T40 s.ns pl).f3, (rd_T40 s.ns pl).f4⟩, s.cd⟩) ∧
      (∀ x, Rd w0 (w.setCell ⟨gl, pl.toNat * 5 + 3, none⟩ (.string x)) g (.slice (some ⟨gl, 0, none⟩) n cl) b ⟨s.pos, s.ns.set pl.toNat ⟨(rd_T40 s.ns pl).f0, (rd_T40 s.ns pl).f1, (rd_T40 s.ns pl).f2, x, (rd_T40 s.ns pl).f4⟩, s.cd⟩) ∧
      (∀ x, Rd w0 (w.setCell ⟨gl, pl.toNat * 5 + 4, none⟩ (.int .i64 x)) g (.slice (some ⟨gl, 0, none⟩) n cl) b ⟨s.pos, s.ns.set pl.toNat ⟨(rd_T40 s.ns pl).f0, (rd_T40 s.ns pl).f1, (rd_T40 s.ns pl).f2, (rd_T40 s.ns pl).f3, x⟩, s.cd⟩) := by
  obtain ⟨gl', cl', hne, hv, hc, hf, h2, h3, h4⟩ := h.elem pl h0 h1
  injection hv with ha hn hc'
  injection ha with ha
  injection ha with ha
  subst ha hn hc'
  exact ⟨hne, rfl, ⟨hc 0 _ rfl, hc 1 _ rfl, hc 2 _ rfl, hc 3 _ rfl, hc 4 _ rfl⟩, hf, h2, h3, h4⟩
theorem Rd.form {w0 w : World} {g : Nat} {v : Value} {b : List Int} {s : TR} (h : Rd w0 w g v b s) (h1 : 0 < s.ns.length) : ∃ gl cl, v = .slice (some ⟨gl, 0, none⟩) s.ns.length cl := by
  obtain ⟨gl, cl, _, hv, _⟩ := h.elem 0 (by omega) (by omega)
  exact ⟨gl, cl, hv⟩
theorem trFail_ns (s : TR) (c : Int) : (trFail s c).ns = s.ns := by unfold trFail; split <;> rfl
theorem trUvar_ns {k : Nat} {b : List Int} {s s' : TR} {r : Int} (h : trUvar k b s = some (r, s')) : s'.ns = s.ns := by
  unfold trUvar at h
  obtain ⟨t, _, h⟩ := Option.bind_eq_some_iff.mp h
  split at h
  · simp only [Option.some.injEq, Prod.mk.injEq] at h; rw [← h.2]
  · simp only [Option.some.injEq, Prod.mk.injEq] at h; rw [← h.2]; exact trFail_ns _ _
theorem trOne_ns {b : List Int} {s s' : TR} {r : Int} (h : trOne b s = some (r, s')) : s'.ns = s.ns := by
  unfold trOne at h
  split at h
  · split at h
    · simp only [Option.some.injEq, Prod.mk.injEq] at h; rw [← h.2]
    · cases h
  · simp only [Option.some.injEq, Prod.mk.injEq] at h; rw [← h.2]; exact trFail_ns _ _
theorem trText_ns {k : Nat} {b : List Int} {s s' : TR} {r : ByteArray} (h : trText k b s = some (r, s')) : s'.ns = s.ns := by
  unfold trText at h
  obtain ⟨⟨n, u⟩, hu, h⟩ := Option.bind_eq_some_iff.mp h
  have e := trUvar_ns hu
  dsimp only at h
  split at h
  · split at h
    · split at h
      · simp only [Option.some.injEq, Prod.mk.injEq] at h; rw [← h.2, trFail_ns]; exact e
      · split at h
        · simp only [Option.some.injEq, Prod.mk.injEq] at h; rw [← h.2]; exact e
        · cases h
    · simp only [Option.some.injEq, Prod.mk.injEq] at h; rw [← h.2, trFail_ns]; exact e
  · simp only [Option.some.injEq, Prod.mk.injEq] at h; rw [← h.2]; exact e
def NodeOk (k : Nat) : Prop := ∀ (w0 w : World) (g : Nat) (v : Value) (b : List Int) (s s' : TR) (kind id deep : Int), Rd w0 w g v b s → trNode k b s kind id deep = some s' →
  Calls Try.prog 14 #[.pointer (some ⟨g, 0, none⟩), .int .i64 kind, .int .i64 id, .int .i64 deep] w fun e w' => ∃ v', e = .returned (.tuple #[]) ∧ Rd w0 w' g v' b s'
def PartsOk (k : Nat) : Prop := ∀ (w0 w : World) (g : Nat) (v : Value) (b : List Int) (s s' : TR) (pl deep : Int), Rd w0 w g v b s → trParts k b s pl deep = some s' →
  Calls Try.prog 28 #[.pointer (some ⟨g, 0, none⟩), .int .i64 pl, .int .i64 deep] w fun e w' => ∃ v', e = .returned (.tuple #[]) ∧ Rd w0 w' g v' b s'
def FieldsOk (k : Nat) : Prop := ∀ (w0 w : World) (g : Nat) (v : Value) (b : List Int) (s s' : TR) (pl deep : Int), Rd w0 w g v b s → trFields k b s pl 0 deep = some s' →
  Calls Try.prog 29 #[.pointer (some ⟨g, 0, none⟩), .int .i64 pl, .int .i64 deep] w fun e w' => ∃ v', e = .returned (.tuple #[]) ∧ Rd w0 w' g v' b s'
set_option maxHeartbeats 4000000 in
set_option maxRecDepth 100000 in
theorem node_step (k : Nat) (hp : PartsOk k) (hfi : FieldsOk k) : NodeOk (k + 1) := by
  intro w0 w g v b s s' kind id deep h hf
  have HP := Aside0.mk hp
  have HFI := Aside0.mk hfi
  have H := Aside0.mk h
  clear hp hfi h
  simp only [trNode] at hf
  replace hf := Option.bind_eq_some_iff.mp hf
  obtain ⟨⟨pl, s1⟩, hb, hf⟩ := hf
  have HB := Aside0.mk hb
  clear hb
  dsimp only at hf
  by_cases h0 : s1.cd = 0
  · rw [if_pos h0] at hf
    have b0 : (s1.cd != 0) = false := bne_eq_false_iff_eq.mpr h0
    clear h0
    by_cases h1 : kind = 5 ∨ kind = 6
    · rw [if_pos h1] at hf
      replace hf := Option.bind_eq_some_iff.mp hf
      obtain ⟨⟨u, s2⟩, hu, hf⟩ := hf
      have HU := Aside0.mk hu
      clear hu
      dsimp only at hf
      replace hf := Option.bind_eq_some_iff.mp hf
      obtain ⟨n, hz, hf⟩ := hf
      have HZ := Aside0.mk hz
      clear hz
      have hns := trUvar_ns HU.out
      unfold trSet at hf
      dsimp only at hf
      by_cases h2 : kind = 5 ∧ s2.cd = 0 ∧ ¬ (-2147483648 ≤ n ∧ n ≤ 2147483647)
      · simp only [if_pos h2] at hf
        replace hf := ifs hf
        obtain ⟨⟨hl1, hl2⟩, hf⟩ := hf
        rw [trFail_ns] at hl2
        obtain rfl := Option.some.inj hf
        obtain ⟨rfl, h3, h4⟩ := h2
        have b3 : (s2.cd == 0) = true := beq_iff_eq.mpr h3
        have HI : Aside0 (impl_isInt32.f n = some false) := ⟨by unfold impl_isInt32.f; rw [within_f, decide_eq_false h4]; rfl⟩
        have HP1 := Aside0.mk hl1
        have HP2 := Aside0.mk hl2
        have HLL : Aside0 (0 < s2.ns.length) := ⟨by omega⟩
        replace hl1 := eq_true hl1
        replace hl2 := eq_true hl2
        clear hf h1 h3 h4 hns
        go_enter Try.func14, Try.ntmps14
        go_wp2_with (first | (go_at_call 22; (refine (trBegin.calls w0 _ g v b s s1 ⟨5, id, 0, ⟨#[]⟩, 0⟩ deep pl H.out HB.out).mono ?_); rintro e w' ⟨v1, rfl, h1⟩; have H1 := Aside0.mk h1; clear h1; obtain ⟨A, ca, ⟨hx0, hx1, hx2, hx3⟩, ⟨hf1, hf2, hf3⟩, hc, hC, hR⟩ := H1.out.cells0; clear hC hR hc) | (go_at_call 24; (refine (trUvar.calls k w0 _ g _ b s1 s2 u H1.out HU.out).mono ?_); rintro e w2 ⟨rfl, h2⟩; have H2 := Aside0.mk h2; clear h2; obtain ⟨A_, ca_, ⟨hy0, hy1, hy2, hy3⟩, ⟨hg1, hg2, hg3⟩, hc_, hC_, hR_⟩ := H2.out.cells0; obtain ⟨gl, cl, hv⟩ := H2.out.form HLL.out; subst hv; obtain ⟨hne, hn_, ⟨he0, he1, he2, he3, he4⟩, hfz, hs2, hs3, hs4⟩ := H2.out.elemV pl HP1.out HP2.out; clear hC_ hR_ hc_ hn_ hs2 hs3 hs4) | (go_at_call 23; (refine (impl_Zag.calls u n _ HZ.out).mono ?_); rintro e w3 ⟨rfl, ⟨nd, rfl⟩⟩) | (go_at_call 25; (refine (impl_isInt32.calls n false _ HI.out).mono ?_); rintro e w4 ⟨rfl, ⟨nd2, rfl⟩⟩) | (go_at_call 26; (refine (trFail.calls w0 _ g (.slice (some ⟨gl, 0, none⟩) s2.ns.length cl) b s2 3 ?hh).mono ?_); (case hh => repeat (first | exact H2.out | apply Rd.drewN | apply Rd.drew)); rintro e w5 ⟨rfl, h3⟩; have H3 := Aside0.mk h3; clear h3; obtain ⟨A3_, ca3_, ⟨hz0, hz1, hz2, hz3⟩, ⟨hh1, hh2, hh3⟩, hc3_, hC3_, hR3_⟩ := H3.out.cells0; obtain ⟨hne3, hn3_, ⟨hd0, hd1, hd2, hd3, hd4⟩, hfz3, hs23, hs33, hs43⟩ := H3.out.elemV pl HP1.out (by rw [trFail_ns]; exact HP2.out); have e_ := trFail_ns s2 3; clear hC3_ hR3_ hc3_ hn3_ hs23 hs33 hs43))
        first | go_end0 | ((try simp only [Exit.inBlock, Exit.then]); refine bodyPost_ret (results_none rfl _ _ _) rfl ?_)
        exact ⟨_, rfl, H3.out.elemV pl HP1.out (by rw [trFail_ns]; exact HP2.out) |>.2.2.2.2.1 n⟩
      · simp only [if_neg h2] at hf
        replace hf := ifs hf
        obtain ⟨⟨hl1, hl2⟩, hf⟩ := hf
        obtain rfl := Option.some.inj hf
        have HP1 := Aside0.mk hl1
        have HP2 := Aside0.mk hl2
        have HLL : Aside0 (0 < s2.ns.length) := ⟨by omega⟩
        replace hl1 := eq_true hl1
        replace hl2 := eq_true hl2
        by_cases h5 : kind = 5
        · subst h5
          by_cases h3 : s2.cd = 0
          · have b3 : (s2.cd == 0) = true := beq_iff_eq.mpr h3
            have h4 : -2147483648 ≤ n ∧ n ≤ 2147483647 := by
              by_cases h4 : -2147483648 ≤ n ∧ n ≤ 2147483647
              · exact h4
              · exact absurd ⟨rfl, h3, h4⟩ h2
            have HI : Aside0 (impl_isInt32.f n = some true) := ⟨by unfold impl_isInt32.f; rw [within_f, decide_eq_true h4]; rfl⟩
            clear hf h1 h3 h4 hns h2
            go_enter Try.func14, Try.ntmps14
            go_wp2_with (first | (go_at_call 22; (refine (trBegin.calls w0 _ g v b s s1 ⟨5, id, 0, ⟨#[]⟩, 0⟩ deep pl H.out HB.out).mono ?_); rintro e w' ⟨v1, rfl, h1⟩; have H1 := Aside0.mk h1; clear h1; obtain ⟨A, ca, ⟨hx0, hx1, hx2, hx3⟩, ⟨hf1, hf2, hf3⟩, hc, hC, hR⟩ := H1.out.cells0; clear hC hR hc) | (go_at_call 24; (refine (trUvar.calls k w0 _ g _ b s1 s2 u H1.out HU.out).mono ?_); rintro e w2 ⟨rfl, h2⟩; have H2 := Aside0.mk h2; clear h2; obtain ⟨A_, ca_, ⟨hy0, hy1, hy2, hy3⟩, ⟨hg1, hg2, hg3⟩, hc_, hC_, hR_⟩ := H2.out.cells0; obtain ⟨gl, cl, hv⟩ := H2.out.form HLL.out; subst hv; obtain ⟨hne, hn_, ⟨he0, he1, he2, he3, he4⟩, hfz, hs2, hs3, hs4⟩ := H2.out.elemV pl HP1.out HP2.out; clear hC_ hR_ hc_ hn_ hs2 hs3 hs4) | (go_at_call 23; (refine (impl_Zag.calls u n _ HZ.out).mono ?_); rintro e w3 ⟨rfl, ⟨nd, rfl⟩⟩) | (go_at_call 25; (refine (impl_isInt32.calls n true _ HI.out).mono ?_); rintro e w4 ⟨rfl, ⟨nd2, rfl⟩⟩))
            first | go_end0 | ((try simp only [Exit.inBlock, Exit.then]); refine bodyPost_ret (results_none rfl _ _ _) rfl ?_)
            exact ⟨_, rfl, (((by repeat (first | exact H2.out | apply Rd.drewN | apply Rd.drew)) : Rd w0 _ g _ b s2).elemV pl HP1.out HP2.out).2.2.2.2.1 n⟩
          · have b3 : (s2.cd == 0) = false := beq_eq_false_iff_ne.mpr h3
            clear hf h1 h3 hns h2
            go_enter Try.func14, Try.ntmps14
            go_wp2_with (first | (go_at_call 22; (refine (trBegin.calls w0 _ g v b s s1 ⟨5, id, 0, ⟨#[]⟩, 0⟩ deep pl H.out HB.out).mono ?_); rintro e w' ⟨v1, rfl, h1⟩; have H1 := Aside0.mk h1; clear h1; obtain ⟨A, ca, ⟨hx0, hx1, hx2, hx3⟩, ⟨hf1, hf2, hf3⟩, hc, hC, hR⟩ := H1.out.cells0; clear hC hR hc) | (go_at_call 24; (refine (trUvar.calls k w0 _ g _ b s1 s2 u H1.out HU.out).mono ?_); rintro e w2 ⟨rfl, h2⟩; have H2 := Aside0.mk h2; clear h2; obtain ⟨A_, ca_, ⟨hy0, hy1, hy2, hy3⟩, ⟨hg1, hg2, hg3⟩, hc_, hC_, hR_⟩ := H2.out.cells0; obtain ⟨gl, cl, hv⟩ := H2.out.form HLL.out; subst hv; obtain ⟨hne, hn_, ⟨he0, he1, he2, he3, he4⟩, hfz, hs2, hs3, hs4⟩ := H2.out.elemV pl HP1.out HP2.out; clear hC_ hR_ hc_ hn_ hs2 hs3 hs4) | (go_at_call 23; (refine (impl_Zag.calls u n _ HZ.out).mono ?_); rintro e w3 ⟨rfl, ⟨nd, rfl⟩⟩))
            first | go_end0 | ((try simp only [Exit.inBlock, Exit.then]); refine bodyPost_ret (results_none rfl _ _ _) rfl ?_)
            exact ⟨_, rfl, (((by repeat (first | exact H2.out | apply Rd.drewN | apply Rd.drew)) : Rd w0 _ g _ b s2).elemV pl HP1.out HP2.out).2.2.2.2.1 n⟩
        · obtain rfl : kind = 6 := h1.resolve_left h5
          clear hf h1 h5 hns h2
          go_enter Try.func14, Try.ntmps14
          go_wp2_with (first | (go_at_call 22; (refine (trBegin.calls w0 _ g v b s s1 ⟨6, id, 0, ⟨#[]⟩, 0⟩ deep pl H.out HB.out).mono ?_); rintro e w' ⟨v1, rfl, h1⟩; have H1 := Aside0.mk h1; clear h1; obtain ⟨A, ca, ⟨hx0, hx1, hx2, hx3⟩, ⟨hf1, hf2, hf3⟩, hc, hC, hR⟩ := H1.out.cells0; clear hC hR hc) | (go_at_call 24; (refine (trUvar.calls k w0 _ g _ b s1 s2 u H1.out HU.out).mono ?_); rintro e w2 ⟨rfl, h2⟩; have H2 := Aside0.mk h2; clear h2; obtain ⟨A_, ca_, ⟨hy0, hy1, hy2, hy3⟩, ⟨hg1, hg2, hg3⟩, hc_, hC_, hR_⟩ := H2.out.cells0; obtain ⟨gl, cl, hv⟩ := H2.out.form HLL.out; subst hv; obtain ⟨hne, hn_, ⟨he0, he1, he2, he3, he4⟩, hfz, hs2, hs3, hs4⟩ := H2.out.elemV pl HP1.out HP2.out; clear hC_ hR_ hc_ hn_ hs2 hs3 hs4) | (go_at_call 23; (refine (impl_Zag.calls u n _ HZ.out).mono ?_); rintro e w3 ⟨rfl, ⟨nd, rfl⟩⟩))
          first | go_end0 | ((try simp only [Exit.inBlock, Exit.then]); refine bodyPost_ret (results_none rfl _ _ _) rfl ?_)
          exact ⟨_, rfl, (((by repeat (first | exact H2.out | apply Rd.drewN | apply Rd.drew)) : Rd w0 _ g _ b s2).elemV pl HP1.out HP2.out).2.2.2.2.1 n⟩
    · rw [if_neg h1] at hf
      have e5 : (kind == 5) = false := beq_eq_false_iff_ne.mpr (fun e => h1 (.inl e))
      have e6 : (kind == 6) = false := beq_eq_false_iff_ne.mpr (fun e => h1 (.inr e))
      clear h1
      by_cases h2 : kind = 8
      · rw [if_pos h2] at hf
        subst h2
        replace hf := Option.bind_eq_some_iff.mp hf
        obtain ⟨⟨t, s2⟩, ht, hf⟩ := hf
        have HT := Aside0.mk ht
        clear ht
        unfold trSet at hf
        dsimp only at hf
        replace hf := ifs hf
        obtain ⟨⟨hl1, hl2⟩, hf⟩ := hf
        obtain rfl := Option.some.inj hf
        have hns := trText_ns HT.out
        have HP1 := Aside0.mk hl1
        have HP2 := Aside0.mk hl2
        have HLL : Aside0 (0 < s1.ns.length) := ⟨by rw [← hns]; omega⟩
        have hl2' : (pl < (s1.ns.length : Int)) = True := eq_true (by rw [← hns]; exact hl2)
        replace hl1 := eq_true hl1
        clear hf e5 e6 hl2 hns
        go_enter Try.func14, Try.ntmps14
        go_wp2_with (first | (go_at_call 22; (refine (trBegin.calls w0 _ g v b s s1 ⟨8, id, 0, ⟨#[]⟩, 0⟩ deep pl H.out HB.out).mono ?_); rintro e w' ⟨v1, rfl, h1⟩; have H1 := Aside0.mk h1; clear h1; obtain ⟨A, ca, ⟨hx0, hx1, hx2, hx3⟩, ⟨hf1, hf2, hf3⟩, hc, hC, hR⟩ := H1.out.cells0; clear hC hR hc))
        obtain ⟨gl, cl, hv⟩ := H1.out.form HLL.out
        subst hv
        go_region_law (first | (go_simp; go_at_call 27; (refine (trText.calls k w0 _ g _ b s1 s2 t H1.out.drew HT.out).mono ?_); rintro e w2 ⟨rfl, h2⟩; have H2 := Aside0.mk h2; clear h2; obtain ⟨A_, ca_, ⟨hy0, hy1, hy2, hy3⟩, ⟨hg1, hg2, hg3⟩, hc_, hC_, hR_⟩ := H2.out.cells0; obtain ⟨hne, hn_, ⟨he0, he1, he2, he3, he4⟩, hfz, hs2, hs3, hs4⟩ := H2.out.elemV pl HP1.out HP2.out; have HS3 := Aside0.mk hs3; clear hC_ hR_ hc_ hn_ hs2 hs3 hs4))
        all_goals
          first | go_end0 | ((try simp only [Exit.inBlock, Exit.then]); refine bodyPost_ret (results_none rfl _ _ _) rfl ?_)
          exact ⟨_, rfl, HS3.out t⟩
      · rw [if_neg h2] at hf
        have e8 : (kind == 8) = false := beq_eq_false_iff_ne.mpr h2
        clear h2
        by_cases h3 : kind = 9
        · rw [if_pos h3] at hf
          subst h3
          have HF := Aside0.mk hf
          clear hf
          go_enter Try.func14, Try.ntmps14
          go_wp2_with (first | (go_at_call 22; (refine (trBegin.calls w0 _ g v b s s1 ⟨9, id, 0, ⟨#[]⟩, 0⟩ deep pl H.out HB.out).mono ?_); rintro e w' ⟨v1, rfl, h1⟩; have H1 := Aside0.mk h1; clear h1; obtain ⟨A, ca, ⟨hx0, hx1, hx2, hx3⟩, ⟨hf1, hf2, hf3⟩, hc, hC, hR⟩ := H1.out.cells0; clear hC hR hc) | (go_at_call 28; (refine (HP.out w0 _ g _ b s1 s' pl deep H1.out HF.out).mono ?_); rintro e w2 ⟨v2, rfl, h2⟩; have H2 := Aside0.mk h2; clear h2))
          first | go_end0 | ((try simp only [Exit.inBlock, Exit.then]); refine bodyPost_ret (results_none rfl _ _ _) rfl ?_)
          exact ⟨_, rfl, H2.out⟩
        · rw [if_neg h3] at hf
          have e9 : (kind == 9) = false := beq_eq_false_iff_ne.mpr h3
          clear h3
          by_cases h4 : kind = 12
          · rw [if_pos h4] at hf
            subst h4
            have HF := Aside0.mk hf
            clear hf
            go_enter Try.func14, Try.ntmps14
            go_wp2_with (first | (go_at_call 22; (refine (trBegin.calls w0 _ g v b s s1 ⟨12, id, 0, ⟨#[]⟩, 0⟩ deep pl H.out HB.out).mono ?_); rintro e w' ⟨v1, rfl, h1⟩; have H1 := Aside0.mk h1; clear h1; obtain ⟨A, ca, ⟨hx0, hx1, hx2, hx3⟩, ⟨hf1, hf2, hf3⟩, hc, hC, hR⟩ := H1.out.cells0; clear hC hR hc) | (go_at_call 29; (refine (HFI.out w0 _ g _ b s1 s' pl deep H1.out HF.out).mono ?_); rintro e w2 ⟨v2, rfl, h2⟩; have H2 := Aside0.mk h2; clear h2))
            first | go_end0 | ((try simp only [Exit.inBlock, Exit.then]); refine bodyPost_ret (results_none rfl _ _ _) rfl ?_)
            exact ⟨_, rfl, H2.out⟩
          · rw [if_neg h4] at hf
            have e12 : (kind == 12) = false := beq_eq_false_iff_ne.mpr h4
            obtain rfl := Option.some.inj hf
            clear h4 hf
            go_enter Try.func14, Try.ntmps14
            go_wp2_with (first | (go_at_call 22; (refine (trBegin.calls w0 _ g v b s s1 ⟨kind, id, 0, ⟨#[]⟩, 0⟩ deep pl H.out HB.out).mono ?_); rintro e w' ⟨v1, rfl, h1⟩; have H1 := Aside0.mk h1; clear h1; obtain ⟨A, ca, ⟨hx0, hx1, hx2, hx3⟩, ⟨hf1, hf2, hf3⟩, hc, hC, hR⟩ := H1.out.cells0; clear hC hR hc))
            first | go_end0 | ((try simp only [Exit.inBlock, Exit.then]); refine bodyPost_ret (results_none rfl _ _ _) rfl ?_)
            exact ⟨_, rfl, H1.out⟩
  · rw [if_neg h0] at hf
    have b0 : (s1.cd != 0) = true := bne_iff_ne.mpr h0
    obtain rfl := Option.some.inj hf
    clear h0 hf
    go_enter Try.func14, Try.ntmps14
    go_wp2_with (first | (go_at_call 22; (refine (trBegin.calls w0 _ g v b s s1 ⟨kind, id, 0, ⟨#[]⟩, 0⟩ deep pl H.out HB.out).mono ?_); rintro e w' ⟨v1, rfl, h1⟩; have H1 := Aside0.mk h1; clear h1; obtain ⟨A, ca, ⟨hx0, hx1, hx2, hx3⟩, ⟨hf1, hf2, hf3⟩, hc, hC, hR⟩ := H1.out.cells0; clear hC hR hc))
    first | go_end0 | ((try simp only [Exit.inBlock, Exit.then]); refine bodyPost_ret (results_none rfl _ _ _) rfl ?_)
    exact ⟨_, rfl, H1.out⟩
theorem rd_set (xs : List S40) (pl : Int) (x : S40) (h0 : 0 ≤ pl) (h1 : pl < (xs.length : Int)) : rd_T40 (xs.set pl.toNat x) pl = x := by
  unfold rd_T40
  rw [List.getD_eq_getElem?_getD, List.getElem?_set_self (by omega)]
  rfl
theorem Rd.set42 {w0 w : World} {g gl n cl : Nat} {b : List Int} {s : TR} (h : Rd w0 w g (.slice (some ⟨gl, 0, none⟩) n cl) b s) (pl : Int) (h0 : 0 ≤ pl) (h1 : pl < (s.ns.length : Int)) (m kd : Int) :
    Rd w0 ((w.setCell ⟨gl, pl.toNat * 5 + 4, none⟩ (.int .i64 m)).setCell ⟨gl, pl.toNat * 5 + 2, none⟩ (.int .i64 kd)) g (.slice (some ⟨gl, 0, none⟩) n cl) b ⟨s.pos, s.ns.set pl.toNat ⟨(rd_T40 s.ns pl).f0, (rd_T40 s.ns pl).f1, kd, (rd_T40 s.ns pl).f3, m⟩, s.cd⟩ := by
  have h4 := (h.elemV pl h0 h1).2.2.2.2.2.2 m
  have h2 := (h4.elemV pl h0 (by simpa using h1)).2.2.2.2.1 kd
  dsimp only at h2
  rw [rd_set _ _ _ h0 h1, List.set_set] at h2
  exact h2
/-- One of two states. -/
def trIf (c : Bool) (a b : TR) : TR := if c = true then a else b
theorem b_eq {a c : Int} (h : a = c) : (a == c) = true ∧ (a != c) = false := ⟨beq_iff_eq.mpr h, bne_eq_false_iff_eq.mpr h⟩
theorem b_ne {a c : Int} (h : ¬ a = c) : (a == c) = false ∧ (a != c) = true := ⟨beq_eq_false_iff_ne.mpr h, bne_iff_ne.mpr h⟩
set_option maxHeartbeats 4000000 in
set_option maxRecDepth 100000 in
theorem parts_step (k : Nat) (ih : ∀ m, m ≤ k → NodeOk m) : PartsOk (k + 1) := by
  intro w0 w g v b s s' pl deep h hf
  have IH := Aside0.mk ih
  have H := Aside0.mk h
  clear ih h
  simp only [trParts] at hf
  replace hf := Option.bind_eq_some_iff.mp hf
  obtain ⟨⟨hd, s1⟩, ho, hf⟩ := hf
  have HO := Aside0.mk ho
  clear ho
  dsimp only at hf
  replace hf := Option.bind_eq_some_iff.mp hf
  obtain ⟨⟨m, s2⟩, hm, hf⟩ := hf
  dsimp only at hf
  have HM := Aside0.mk hm
  have HF := Aside0.mk hf
  clear hm hf
  go_enter Try.func28, Try.ntmps28
  go_upto_if 17 with (first | (go_at_call 36; (refine (trOne.calls w0 _ g v b s s1 hd H.out HO.out).mono ?_); rintro e w1 ⟨rfl, h1⟩; have H1 := Aside0.mk h1; clear h1))
  go_cut [7] (fun v7 wc => v7 = .int .i64 m ∧ Aside0 (Rd w0 wc g v b s2))
  case first =>
    have hm := HM.out
    by_cases c : wrap64 (Int.tdiv hd 16) = 15
    · rw [if_pos c] at hm
      have HU := Aside0.mk hm
      have b15 := (b_eq c).1
      clear c hm
      (first | rw [b15] | skip)
      go_wp2_with (first | (go_at_call 24; (refine (trUvar.calls k w0 _ g v b s1 s2 m H1.out HU.out).mono ?_); rintro e w2 ⟨rfl, h2⟩; have H2 := Aside0.mk h2; clear h2))
      go_meet
      case rel => exact ⟨rfl, H2⟩
    · rw [if_neg c] at hm
      have b15 := (b_ne c).1
      simp only [Option.some.injEq, Prod.mk.injEq] at hm
      obtain ⟨rfl, rfl⟩ := hm
      clear c
      (first | rw [b15] | skip)
      go_wp2
      go_meet
      case rel => exact ⟨rfl, H1⟩
  case rest =>
    obtain ⟨rfl, H2⟩ := hcut
    obtain ⟨A, ca, ⟨hx0, hx1, hx2, hx3⟩, ⟨hf1, hf2, hf3⟩, hc, hC, hR⟩ := H2.out.cells0
    clear hC hR hc
    have hf := HF.out
    clear HF HM
    by_cases c : s2.cd = 0 ∧ m ≠ 0
    · rw [if_pos c] at hf
      obtain ⟨c1, c2⟩ := c
      obtain ⟨b1, b1'⟩ := b_eq c1
      obtain ⟨b2, b2'⟩ := b_ne c2
      clear c1 c2
      replace hf := Option.bind_eq_some_iff.mp hf
      obtain ⟨ty, hty, hf⟩ := hf
      have HTY := Aside0.mk hty
      clear hty
      replace hf := Option.bind_eq_some_iff.mp hf
      obtain ⟨s4, hset, hf⟩ := hf
      have HSET := Aside0.mk hset
      have HF := Aside0.mk hf
      clear hset hf
      go_upto_if 31 with (first | (go_at_call 37; (refine (impl_isType.calls 1 (Int.tmod hd 16) true ty _ HTY.out).mono ?_); rintro e w2 ⟨rfl, ⟨nd, rfl⟩⟩))
      go_cut [] (fun wc => Aside0 (Rd w0 wc g v b (trIf ty s2 (trFail s2 2))))
      case first =>
        cases ty with
        | true =>
          go_wp2
          go_meet
          case rel => exact ⟨H2.out.drewN _⟩
        | false =>
          go_wp2_with (first | (go_at_call 26; (refine (trFail.calls w0 _ g v b s2 2 ?hh).mono ?_); (case hh => repeat (first | exact H2.out | apply Rd.drewN | apply Rd.drew)); rintro e w5 ⟨rfl, h3⟩; have H9 := Aside0.mk h3; clear h3))
          go_meet
          case rel => exact ⟨H9.out⟩
      case rest =>
        clear H2
        have H2 := hcut
        clear hcut
        obtain ⟨s3, hs3⟩ : ∃ z, z = (if ty = true then s2 else trFail s2 2) := ⟨_, rfl⟩
        have hset := HSET.out
        rw [← hs3] at hset
        replace H2 : Aside0 (Rd w0 wc g v b s3) := ⟨by rw [hs3]; exact H2.out⟩
        clear hs3 HSET hx0 hx1 hx2 hx3 hf1 hf2 hf3 b1 b1' b2 b2'
        have HSET := Aside0.mk hset
        have HW : Aside0 (impl_within.f m 0 1500 = some (decide (0 ≤ m ∧ m ≤ 1500))) := ⟨within_f _ _ _⟩
        clear hset
        obtain ⟨wi, hwi⟩ : ∃ z, z = decide (0 ≤ m ∧ m ≤ 1500) := ⟨_, rfl⟩
        rw [← hwi] at HW
        have HWI := Aside0.mk hwi
        clear hwi
        go_upto_if 36 with (first | (go_at_call 13; (refine (impl_within.calls m 0 1500 wi _ HW.out).mono ?_); rintro e w2 ⟨rfl, ⟨nd, rfl⟩⟩))
        go_cut [] (fun wc => Aside0 (Rd w0 wc g v b (trIf wi s3 (trFail s3 4))))
        case first =>
          cases wi with
          | true =>
            go_wp2
            go_meet
            case rel => exact ⟨H2.out.drewN _⟩
          | false =>
            go_wp2_with (first | (go_at_call 26; (refine (trFail.calls w0 _ g v b s3 4 ?hh).mono ?_); (case hh => repeat (first | exact H2.out | apply Rd.drewN | apply Rd.drew)); rintro e w5 ⟨rfl, h3⟩; have H9 := Aside0.mk h3; clear h3))
            go_meet
            case rel => exact ⟨H9.out⟩
        case rest =>
          clear H2
          have H2 := hcut
          clear hcut
          have hset := HSET.out
          have hq : (if 0 ≤ m ∧ m ≤ 1500 then s3 else trFail s3 4) = (if wi = true then s3 else trFail s3 4) := by
            rw [HWI.out]
            by_cases c : 0 ≤ m ∧ m ≤ 1500
            · rw [if_pos c, if_pos (decide_eq_true c)]
            · rw [if_neg c, if_neg (by rw [decide_eq_false c]; decide)]
          rw [hq] at hset
          clear hq HWI HW HSET
          obtain ⟨s5, hs5⟩ : ∃ z, z = (if wi = true then s3 else trFail s3 4) := ⟨_, rfl⟩
          rw [← hs5] at hset
          replace H2 : Aside0 (Rd w0 wc g v b s5) := ⟨by rw [hs5]; exact H2.out⟩
          clear hs5
          unfold trSet at hset
          replace hset := ifs hset
          obtain ⟨⟨hl1, hl2⟩, hset⟩ := hset
          obtain rfl := Option.some.inj hset
          have HP1 := Aside0.mk hl1
          have HP2 := Aside0.mk hl2
          obtain ⟨gl, cl, hv⟩ := H2.out.form (by omega)
          subst hv
          replace hl1 := eq_true hl1
          replace hl2 := eq_true hl2
          obtain ⟨A, ca, ⟨hx0, hx1, hx2, hx3⟩, ⟨hf1, hf2, hf3⟩, hc, hC, hR⟩ := H2.out.cells0
          obtain ⟨hne, hn_, ⟨he0, he1, he2, he3, he4⟩, hfz, hs2, hs3, hs4⟩ := H2.out.elemV pl HP1.out HP2.out
          clear hC hR hc hn_ hs2 hs3 hs4 hset
          go_wp2
          go_region
          have HS := Aside0.mk (H2.out.set42 pl HP1.out HP2.out m (Int.tmod hd 16)).drew
          clear he0 he1 he2 he3 he4 hfz hx0 hx1 hx2 hx3 hf1 hf2 hf3 hl1 hl2
          go_wp2
          go_loopg [9] k (fun kq v9 w' => ∃ (sI : TR) (vI : Value) (i : Int), v9 = .int .i64 i ∧ Aside0 (trPLoop kq b sI (Int.tmod hd 16) m i deep = some s') ∧ Aside0 (kq ≤ k) ∧ Aside0 (Rd w0 w' g vI b sI))
          case atStart => exact ⟨_, _, 0, rfl, HF, ⟨Nat.le_refl _⟩, HS⟩
          case round =>
            clear HS HF H2 hne
            obtain ⟨sI, vI, i, rfl, HA, HK, HI⟩ := hrel
            cases gk with
            | zero => exact absurd HA.out (by simp [trPLoop])
            | succ k1 =>
              have ha := HA.out
              simp only [trPLoop] at ha
              obtain ⟨A, ca, ⟨hx0, hx1, hx2, hx3⟩, ⟨hf1, hf2, hf3⟩, hc, hC, hR⟩ := HI.out.cells0
              clear hC hR hc HA
              by_cases c1 : i < m
              · have q1 := decide_eq_true c1
                by_cases c2 : sI.cd = 0
                · obtain ⟨q2, q2'⟩ := b_eq c2
                  rw [if_pos ⟨c1, c2⟩] at ha
                  replace ha := Option.bind_eq_some_iff.mp ha
                  obtain ⟨s1', hn, ha⟩ := ha
                  have HN := Aside0.mk hn
                  have HA := Aside0.mk ha
                  clear c1 c2 hn ha
                  go_wp2_with (first | (go_at_call 14; (refine (IH.out k1 (by have := HK.out; omega) w0 _ g vI b sI s1' (Int.tmod hd 16) 0 (wrap64 (deep + 1)) HI.out HN.out).mono ?_); rintro e w7 ⟨v7, rfl, h7⟩; have H7 := Aside0.mk h7; clear h7))
                  go_roundg k1
                  case measure => have := HK.out; omega
                  case rel => exact ⟨_, _, _, sr, HA, ⟨by have := HK.out; omega⟩, H7⟩
                · obtain ⟨q2, q2'⟩ := b_ne c2
                  rw [if_neg (fun h => c2 h.2)] at ha
                  obtain rfl := Option.some.inj ha
                  clear c1 c2 ha
                  go_wp2
                  first | go_end0 | ((try simp only [Exit.inBlock, Exit.then]); refine bodyPost_ret (results_none rfl _ _ _) rfl ?_)
                  exact ⟨_, rfl, HI.out⟩
              · have q1 := decide_eq_false c1
                rw [if_neg (fun h => c1 h.1)] at ha
                obtain rfl := Option.some.inj ha
                clear c1 ha
                go_wp2
                first | go_end0 | ((try simp only [Exit.inBlock, Exit.then]); refine bodyPost_ret (results_none rfl _ _ _) rfl ?_)
                exact ⟨_, rfl, HI.out⟩
    · rw [if_neg c] at hf
      obtain rfl := Option.some.inj hf
      by_cases c1 : s2.cd = 0
      · obtain ⟨b1, b1'⟩ := b_eq c1
        obtain ⟨b2, b2'⟩ := b_eq (show m = 0 from by
          by_cases c2 : m = 0
          · exact c2
          · exact absurd ⟨c1, c2⟩ c)
        clear c c1 hf
        go_wp2
        first | go_end0 | ((try simp only [Exit.inBlock, Exit.then]); refine bodyPost_ret (results_none rfl _ _ _) rfl ?_)
        exact ⟨_, rfl, H2.out⟩
      · obtain ⟨b1, b1'⟩ := b_ne c1
        clear c c1 hf
        go_wp2
        first | go_end0 | ((try simp only [Exit.inBlock, Exit.then]); refine bodyPost_ret (results_none rfl _ _ _) rfl ?_)
        exact ⟨_, rfl, H2.out⟩
set_option maxHeartbeats 8000000 in
set_option maxRecDepth 100000 in
theorem fields_step (k : Nat) (ih : ∀ m, m < k → NodeOk m) : FieldsOk k := by
  intro w0 w g v b s s' pl deep h hf
  have IH := Aside0.mk ih
  have H := Aside0.mk h
  have HF := Aside0.mk hf
  clear ih h hf
  go_enter Try.func29, Try.ntmps29
  go_wp2
  go_loopg [6] k (fun kq v6 w' => ∃ (sI : TR) (vI : Value) (last : Int), v6 = .int .i64 last ∧ Aside0 (trFields kq b sI pl last deep = some s') ∧ Aside0 (kq ≤ k) ∧ Aside0 (Rd w0 w' g vI b sI))
  case atStart => exact ⟨_, _, 0, rfl, HF, ⟨Nat.le_refl _⟩, H⟩
  case round =>
    clear H HF
    obtain ⟨sI, vI, last, rfl, HA, HK, HI⟩ := hrel
    cases gk with
    | zero => exact absurd HA.out (by simp [trFields])
    | succ k1 =>
      have ha := HA.out
      clear HA
      simp only [trFields] at ha
      replace ha := Option.bind_eq_some_iff.mp ha
      obtain ⟨⟨hd, s1⟩, ho, ha⟩ := ha
      have HO := Aside0.mk ho
      clear ho
      dsimp only at ha
      by_cases c : s1.cd = 0 ∧ hd ≠ 0
      · rw [if_pos c] at ha
        obtain ⟨c1, c2⟩ := c
        obtain ⟨b1, b1'⟩ := b_eq c1
        obtain ⟨b2, b2'⟩ := b_ne c2
        clear c1 c2
        replace ha := Option.bind_eq_some_iff.mp ha
        obtain ⟨ty, hty, ha⟩ := ha
        have HTY := Aside0.mk hty
        clear hty
        replace ha := Option.bind_eq_some_iff.mp ha
        obtain ⟨⟨q, s3⟩, hq, ha⟩ := ha
        dsimp only at ha
        obtain ⟨s2, hs2⟩ : ∃ z, z = trIf ty s1 (trFail s1 2) := ⟨_, rfl⟩
        have hq' : (if hd < 16 then (trUvar k1 b s2).bind fun u => (impl_Zag.f u.1).bind fun z => some (z, u.2) else some (wrap64 (last + wrap64 (Int.tdiv hd 16)), s2)) = some (q, s3) := by rw [hs2]; exact hq
        have HQ := Aside0.mk hq'
        have HS2 := Aside0.mk hs2
        have HA := Aside0.mk ha
        clear hq hq' hs2 ha
        go_upto_if 29 with (first | (go_at_call 36; (refine (trOne.calls w0 _ g vI b sI s1 hd HI.out HO.out).mono ?_); rintro e w1 ⟨rfl, h1⟩; have H1 := Aside0.mk h1; clear h1; obtain ⟨A, ca, ⟨hx0, hx1, hx2, hx3⟩, ⟨hf1, hf2, hf3⟩, hc, hC, hR⟩ := H1.out.cells0; clear hC hR hc) | (go_at_call 37; (refine (impl_isType.calls 1 (Int.tmod hd 16) false ty _ HTY.out).mono ?_); rintro e w2 ⟨rfl, ⟨nd, rfl⟩⟩))
        go_cut [] (fun wc => Aside0 (Rd w0 wc g vI b (trIf ty s1 (trFail s1 2))))
        case first =>
          cases ty with
          | true =>
            go_wp2
            go_meet
            case rel => exact ⟨H1.out.drewN _⟩
          | false =>
            go_wp2_with (first | (go_at_call 26; (refine (trFail.calls w0 _ g vI b s1 2 ?hh).mono ?_); (case hh => repeat (first | exact H1.out | apply Rd.drewN | apply Rd.drew)); rintro e w5 ⟨rfl, h3⟩; have H9 := Aside0.mk h3; clear h3))
            go_meet
            case rel => exact ⟨H9.out⟩
        case rest =>
          have H2 : Aside0 (Rd w0 wc g vI b s2) := ⟨by rw [HS2.out]; exact hcut.out⟩
          clear hcut hx0 hx1 hx2 hx3 hf1 hf2 hf3 b1 b1' b2 b2' HS2
          go_upto_if 33 with (fail)
          go_cut [9] (fun v9 wc => v9 = .int .i64 q ∧ Aside0 (Rd w0 wc g vI b s3))
          case first =>
            have hq := HQ.out
            by_cases c : hd < 16
            · rw [if_pos c] at hq
              have q1 := decide_eq_true c
              replace hq := Option.bind_eq_some_iff.mp hq
              obtain ⟨⟨u, s2'⟩, hu, hq⟩ := hq
              have HU := Aside0.mk hu
              clear hu
              dsimp only at hq
              replace hq := Option.bind_eq_some_iff.mp hq
              obtain ⟨z, hz, hq⟩ := hq
              have HZ := Aside0.mk hz
              clear hz
              simp only [Option.some.injEq, Prod.mk.injEq] at hq
              obtain ⟨rfl, rfl⟩ := hq
              clear c
              (first | rw [q1] | skip)
              go_wp2_with (first | (go_at_call 24; (refine (trUvar.calls k1 w0 _ g vI b s2 s2' u H2.out HU.out).mono ?_); rintro e w3 ⟨rfl, h3⟩; have H3 := Aside0.mk h3; clear h3) | (go_at_call 23; (refine (impl_Zag.calls u z _ HZ.out).mono ?_); rintro e w4 ⟨rfl, ⟨nd, rfl⟩⟩))
              go_meet
              case rel => exact ⟨rfl, ⟨H3.out.drewN _⟩⟩
            · rw [if_neg c] at hq
              have q1 := decide_eq_false c
              simp only [Option.some.injEq, Prod.mk.injEq] at hq
              obtain ⟨rfl, rfl⟩ := hq
              clear c
              (first | rw [q1] | skip)
              go_wp2
              go_meet
              case rel => exact ⟨rfl, H2⟩
          case rest =>
            obtain ⟨rfl, H3⟩ := hcut
            clear H2 HQ
            obtain ⟨A, ca, ⟨hx0, hx1, hx2, hx3⟩, ⟨hf1, hf2, hf3⟩, hc, hC, hR⟩ := H3.out.cells0
            clear hC hR hc
            have HW : Aside0 (impl_within.f q 1 1000 = some (decide (1 ≤ q ∧ q ≤ 1000))) := ⟨within_f _ _ _⟩
            obtain ⟨c8, hc8⟩ : ∃ z, z = decide (s3.cd = 0 ∧ ¬ (1 ≤ q ∧ q ≤ 1000)) := ⟨_, rfl⟩
            have HC8 := Aside0.mk hc8
            clear hc8
            go_upto_region 8 with (fail)
            go_cut [46] (fun v46 wc => v46 = .bool c8 ∧ Aside0 (Rd w0 wc g vI b s3))
            case first =>
              by_cases c1 : s3.cd = 0
              · obtain ⟨b1, b1'⟩ := b_eq c1
                by_cases c2 : 1 ≤ q ∧ q ≤ 1000
                · obtain rfl : c8 = false := HC8.out.trans (decide_eq_false (fun h => h.2 c2))
                  rw [decide_eq_true c2] at HW
                  clear c1 c2
                  go_wp2_with (first | (go_at_call 13; (refine (impl_within.calls q 1 1000 true _ HW.out).mono ?_); rintro e w2 ⟨rfl, ⟨nd, rfl⟩⟩))
                  go_meet
                  case rel => exact ⟨rfl, ⟨H3.out.drewN _⟩⟩
                · obtain rfl : c8 = true := HC8.out.trans (decide_eq_true ⟨c1, c2⟩)
                  rw [decide_eq_false c2] at HW
                  clear c1 c2
                  go_wp2_with (first | (go_at_call 13; (refine (impl_within.calls q 1 1000 false _ HW.out).mono ?_); rintro e w2 ⟨rfl, ⟨nd, rfl⟩⟩))
                  go_meet
                  case rel => exact ⟨rfl, ⟨H3.out.drewN _⟩⟩
              · obtain ⟨b1, b1'⟩ := b_ne c1
                obtain rfl : c8 = false := HC8.out.trans (decide_eq_false (fun h => c1 h.1))
                clear c1 HW
                go_wp2
                go_meet
                case rel => exact ⟨rfl, H3⟩
            case rest =>
              obtain ⟨rfl, H3'⟩ := hcut
              clear H3 HW hx0 hx1 hx2 hx3 hf1 hf2 hf3
              go_upto_if 46 with (fail)
              go_cut [] (fun wc => Aside0 (Rd w0 wc g vI b (trIf c8 (trFail s3 3) s3)))
              case first =>
                cases c8 with
                | true =>
                  go_wp2_with (first | (go_at_call 26; (refine (trFail.calls w0 _ g vI b s3 3 ?hh).mono ?_); (case hh => repeat (first | exact H3'.out | apply Rd.drewN | apply Rd.drew)); rintro e w5 ⟨rfl, h3⟩; have H9 := Aside0.mk h3; clear h3))
                  go_meet
                  case rel => exact ⟨H9.out⟩
                | false =>
                  go_wp2
                  go_meet
                  case rel => exact H3'
              case rest =>
                clear H3'
                obtain ⟨s4, hs4⟩ : ∃ z, z = trIf c8 (trFail s3 3) s3 := ⟨_, rfl⟩
                have H4 : Aside0 (Rd w0 wc g vI b s4) := ⟨by rw [hs4]; exact hcut.out⟩
                have hq : (if s3.cd = 0 ∧ ¬ (1 ≤ q ∧ q ≤ 1000) then trFail s3 3 else s3) = s4 := by
                  rw [hs4, HC8.out]
                  by_cases c : s3.cd = 0 ∧ ¬ (1 ≤ q ∧ q ≤ 1000)
                  · rw [if_pos c, decide_eq_true c]; rfl
                  · rw [if_neg c, decide_eq_false c]; rfl
                have ha := HA.out
                rw [hq] at ha
                simp only [Option.bind_some] at ha
                clear hq hs4 HA HC8 hcut
                obtain ⟨c5, hc5⟩ : ∃ z, z = decide (s4.cd = 0 ∧ q ≤ last) := ⟨_, rfl⟩
                obtain ⟨s5, hs5⟩ : ∃ z, z = trIf c5 (trFail s4 5) s4 := ⟨_, rfl⟩
                have hq : (if s4.cd = 0 ∧ q ≤ last then trFail s4 5 else s4) = s5 := by
                  rw [hs5, hc5]
                  by_cases c : s4.cd = 0 ∧ q ≤ last
                  · rw [if_pos c, decide_eq_true c]; rfl
                  · rw [if_neg c, decide_eq_false c]; rfl
                rw [hq] at ha
                have HC5 := Aside0.mk hc5
                have HS5 := Aside0.mk hs5
                have HA := Aside0.mk ha
                clear hq hc5 hs5 ha
                obtain ⟨A, ca, ⟨hx0, hx1, hx2, hx3⟩, ⟨hf1, hf2, hf3⟩, hc, hC, hR⟩ := H4.out.cells0
                clear hC hR hc
                go_upto_region 10 with (fail)
                go_cut [58] (fun v58 wc => v58 = .bool c5 ∧ Aside0 (Rd w0 wc g vI b s4))
                case first =>
                  by_cases c1 : s4.cd = 0
                  · obtain ⟨b1, b1'⟩ := b_eq c1
                    by_cases c2 : q ≤ last
                    · obtain rfl : c5 = true := HC5.out.trans (decide_eq_true ⟨c1, c2⟩)
                      have q2 := decide_eq_true c2
                      clear c1 c2
                      go_wp2
                      go_meet
                      case rel => exact ⟨rfl, H4⟩
                    · obtain rfl : c5 = false := HC5.out.trans (decide_eq_false (fun h => c2 h.2))
                      have q2 := decide_eq_false c2
                      clear c1 c2
                      go_wp2
                      go_meet
                      case rel => exact ⟨rfl, H4⟩
                  · obtain ⟨b1, b1'⟩ := b_ne c1
                    obtain rfl : c5 = false := HC5.out.trans (decide_eq_false (fun h => c1 h.1))
                    clear c1
                    go_wp2
                    go_meet
                    case rel => exact ⟨rfl, H4⟩
                case rest =>
                  obtain ⟨rfl, H4'⟩ := hcut
                  clear H4 HC5 hx0 hx1 hx2 hx3 hf1 hf2 hf3
                  go_upto_if 58 with (fail)
                  go_cut [] (fun wc => Aside0 (Rd w0 wc g vI b (trIf c5 (trFail s4 5) s4)))
                  case first =>
                    cases c5 with
                    | true =>
                      go_wp2_with (first | (go_at_call 26; (refine (trFail.calls w0 _ g vI b s4 5 ?hh).mono ?_); (case hh => repeat (first | exact H4'.out | apply Rd.drewN | apply Rd.drew)); rintro e w5 ⟨rfl, h3⟩; have H9 := Aside0.mk h3; clear h3))
                      go_meet
                      case rel => exact ⟨H9.out⟩
                    | false =>
                      go_wp2
                      go_meet
                      case rel => exact H4'
                  case rest =>
                    have H5 : Aside0 (Rd w0 wc g vI b s5) := ⟨by rw [HS5.out]; exact hcut.out⟩
                    clear hcut H4' HS5
                    have ha := HA.out
                    clear HA
                    obtain ⟨A, ca, ⟨hx0, hx1, hx2, hx3⟩, ⟨hf1, hf2, hf3⟩, hc, hC, hR⟩ := H5.out.cells0
                    clear hC hR hc
                    by_cases c1 : s5.cd = 0
                    · rw [if_pos c1] at ha
                      obtain ⟨b1, b1'⟩ := b_eq c1
                      replace ha := Option.bind_eq_some_iff.mp ha
                      obtain ⟨s6, hset, ha⟩ := ha
                      replace ha := Option.bind_eq_some_iff.mp ha
                      obtain ⟨s7, hn, ha⟩ := ha
                      have HN := Aside0.mk hn
                      have HA := Aside0.mk ha
                      unfold trSet at hset
                      replace hset := ifs hset
                      obtain ⟨⟨hl1, hl2⟩, hset⟩ := hset
                      obtain rfl := Option.some.inj hset
                      have HP1 := Aside0.mk hl1
                      have HP2 := Aside0.mk hl2
                      obtain ⟨gl, cl, hv⟩ := H5.out.form (by omega)
                      subst hv
                      replace hl1 := eq_true hl1
                      replace hl2 := eq_true hl2
                      obtain ⟨hne, hn_, ⟨he0, he1, he2, he3, he4⟩, hfz, hs2, hs3, hs4⟩ := H5.out.elemV pl HP1.out HP2.out
                      have HS := Aside0.mk (hs4 (wrap64 ((rd_T40 s5.ns pl).f4 + 1)))
                      clear hn_ hs2 hs3 hs4 hset hn ha c1
                      go_wp2_with (first | (go_at_call 14; (refine (IH.out k1 (by have := HK.out; omega) w0 _ g _ b _ s7 (Int.tmod hd 16) q (wrap64 (deep + 1)) HS.out HN.out).mono ?_); rintro e w7 ⟨v7, rfl, h7⟩; have H7 := Aside0.mk h7; clear h7))
                      go_roundg k1
                      case measure => have := HK.out; omega
                      case rel => exact ⟨_, _, _, sr, HA, ⟨by have := HK.out; omega⟩, H7⟩
                    · rw [if_neg c1] at ha
                      obtain ⟨b1, b1'⟩ := b_ne c1
                      obtain rfl := Option.some.inj ha
                      clear c1 ha
                      go_wp2
                      first | go_end0 | ((try simp only [Exit.inBlock, Exit.then]); refine bodyPost_ret (results_none rfl _ _ _) rfl ?_)
                      exact ⟨_, rfl, H5.out⟩
      · rw [if_neg c] at ha
        obtain rfl := Option.some.inj ha
        clear ha
        by_cases c1 : s1.cd = 0
        · obtain ⟨b1, b1'⟩ := b_eq c1
          obtain ⟨b2, b2'⟩ := b_eq (show hd = 0 from by
            by_cases c2 : hd = 0
            · exact c2
            · exact absurd ⟨c1, c2⟩ c)
          clear c c1
          go_wp2_with (first | (go_at_call 36; (refine (trOne.calls w0 _ g vI b sI s1 hd HI.out HO.out).mono ?_); rintro e w1 ⟨rfl, h1⟩; have H1 := Aside0.mk h1; clear h1; obtain ⟨A, ca, ⟨hx0, hx1, hx2, hx3⟩, ⟨hf1, hf2, hf3⟩, hc, hC, hR⟩ := H1.out.cells0; clear hC hR hc))
          first | go_end0 | ((try simp only [Exit.inBlock, Exit.then]); refine bodyPost_ret (results_none rfl _ _ _) rfl ?_)
          exact ⟨_, rfl, H1.out⟩
        · obtain ⟨b1, b1'⟩ := b_ne c1
          clear c c1
          go_wp2_with (first | (go_at_call 36; (refine (trOne.calls w0 _ g vI b sI s1 hd HI.out HO.out).mono ?_); rintro e w1 ⟨rfl, h1⟩; have H1 := Aside0.mk h1; clear h1; obtain ⟨A, ca, ⟨hx0, hx1, hx2, hx3⟩, ⟨hf1, hf2, hf3⟩, hc, hC, hR⟩ := H1.out.cells0; clear hC hR hc))
          first | go_end0 | ((try simp only [Exit.inBlock, Exit.then]); refine bodyPost_ret (results_none rfl _ _ _) rfl ?_)
          exact ⟨_, rfl, H1.out⟩
theorem tr_ring : ∀ k, NodeOk k ∧ PartsOk k ∧ FieldsOk k := by
  intro k
  induction k using Nat.strongRecOn with
  | _ k ih =>
    refine ⟨?_, ?_, fields_step k (fun m hm => (ih m hm).1)⟩
    · cases k with
      | zero => intro w0 w g v b s s' kind id deep _ hf; simp [trNode] at hf
      | succ k => exact node_step k (ih k (by omega)).2.1 (ih k (by omega)).2.2
    · cases k with
      | zero => intro w0 w g v b s s' pl deep _ hf; simp [trParts] at hf
      | succ k => exact parts_step k (fun m hm => (ih m (by omega)).1)
def impl_TreeRead.f (k : Nat) (l0 : List Int) (a1 : Int) : Option ((List S40) × Int × Int) := (impl_within.f a1 0 ((l0.length : Int) - 1)).bind fun t => if t = true then (trNode k l0 ⟨a1, [], 0⟩ 12 0 1).bind fun s => (if s.cd = 0 then some (s.ns, s.pos, 0) else some ([], 0, s.cd)) else some ([], 0, 1)
set_option maxHeartbeats 1000000 in
set_option maxRecDepth 100000 in
theorem impl_TreeRead.calls (k : Nat) (A0 : Option Addr) (c0 : Nat) (l0 : List Int) (a1 : Int) (r1 : List S40) (r2 : Int) (r3 : Int) (w : World) (hr0 : Kd.C (Kd.int .u8) w A0 l0.length l0) (hc0 : l0.length ≤ c0) (h : impl_TreeRead.f k l0 a1 = some (r1, r2, r3)) :
    Calls Try.prog 6 #[.slice A0 l0.length c0, .int .i64 a1] w fun e w' => ∃ v0_ : Value, e = .returned (.tuple #[v0_, .int .i64 r2, .int .i64 r3]) ∧ Kd.R k40 40 w' w.heap.size (fun _ => True) v0_ r1 ∧ Below w.heap.size w w' := by
  have HR0 := Aside0.mk hr0
  have HC0 := Aside0.mk hc0
  have hm := hr0.2.1
  clear hr0 hc0
  unfold impl_TreeRead.f at h
  replace h := Option.bind_eq_some_iff.mp h
  obtain ⟨t, ht, h⟩ := h
  have HT := Aside0.mk ht
  clear ht
  cases t with
  | false =>
    rw [if_neg (by decide)] at h
    simp only [Option.some.injEq, Prod.mk.injEq] at h
    obtain ⟨rfl, rfl, rfl⟩ := h
    go_enter Try.func6, Try.ntmps6
    go_wp2_with (first | (go_at_call 13; (with_reducible refine (impl_within.calls a1 0 ((l0.length : Int) - 1) false _ HT.out).mono ?_); rintro e w2 ⟨rfl, ⟨nd, rfl⟩⟩))
    go_ret3
    exact ⟨_, rfl, Kd.R_nil _ _ _ _ _, below_later (Below.refl _ _)⟩
  | true =>
    rw [if_pos rfl] at h
    replace h := Option.bind_eq_some_iff.mp h
    obtain ⟨s, hn, h⟩ := h
    have HN := Aside0.mk hn
    clear hn
    by_cases c : s.cd = 0
    · rw [if_pos c] at h
      simp only [Option.some.injEq, Prod.mk.injEq] at h
      obtain ⟨rfl, rfl, rfl⟩ := h
      obtain ⟨b1, b1'⟩ := b_eq c
      clear c
      go_enter Try.func6, Try.ntmps6
      go_wp2_with (first | (go_at_call 13; (with_reducible refine (impl_within.calls a1 0 ((l0.length : Int) - 1) true _ HT.out).mono ?_); rintro e w2 ⟨rfl, ⟨nd, rfl⟩⟩) | ((with_reducible refine gate_dst (N := 17) rfl ?_); refine bx_ 17 #[.slice A0 l0.length c0, .int .i64 a1, .slice none 0 0, .int .i64 0] 36 ?_; intro g1 hg1 w1 hk1 hb1; have H1 : Aside0 (Rd w w1 g1 (.slice none 0 0) l0 ⟨a1, [], 0⟩) := ⟨⟨A0, c0, HC0.out, HR0.out, hk1, Kd.R_nil _ _ _ _ _, below_step (below_later (Below.refl _ _)) hb1, by rw [hg1]; exact Nat.le_refl _⟩⟩; clear hg1 hk1 hb1) | (go_at_call 14; (refine ((tr_ring k).1 w _ g1 _ l0 _ s 12 0 1 H1.out HN.out).mono ?_); rintro e w2 ⟨v2, rfl, h2⟩; have H2 := Aside0.mk h2; clear h2; obtain ⟨A, ca, ⟨hx0, hx1, hx2, hx3⟩, ⟨hf1, hf2, hf3⟩, hc, hC, hR⟩ := H2.out.cells0; have HR := Aside0.mk hR; clear hC hR hc))
      go_quiet (fail)
      go_wp2
      go_ret3
      exact ⟨_, rfl, Kd.R_drewN HR.out _, pw_below_drewN H2.out.belowW _⟩
    · rw [if_neg c] at h
      simp only [Option.some.injEq, Prod.mk.injEq] at h
      obtain ⟨rfl, rfl, rfl⟩ := h
      obtain ⟨b1, b1'⟩ := b_ne c
      clear c
      go_enter Try.func6, Try.ntmps6
      go_wp2_with (first | (go_at_call 13; (with_reducible refine (impl_within.calls a1 0 ((l0.length : Int) - 1) true _ HT.out).mono ?_); rintro e w2 ⟨rfl, ⟨nd, rfl⟩⟩) | ((with_reducible refine gate_dst (N := 17) rfl ?_); refine bx_ 17 #[.slice A0 l0.length c0, .int .i64 a1, .slice none 0 0, .int .i64 0] 36 ?_; intro g1 hg1 w1 hk1 hb1; have H1 : Aside0 (Rd w w1 g1 (.slice none 0 0) l0 ⟨a1, [], 0⟩) := ⟨⟨A0, c0, HC0.out, HR0.out, hk1, Kd.R_nil _ _ _ _ _, below_step (below_later (Below.refl _ _)) hb1, by rw [hg1]; exact Nat.le_refl _⟩⟩; clear hg1 hk1 hb1) | (go_at_call 14; (refine ((tr_ring k).1 w _ g1 _ l0 _ s 12 0 1 H1.out HN.out).mono ?_); rintro e w2 ⟨v2, rfl, h2⟩; have H2 := Aside0.mk h2; clear h2; obtain ⟨A, ca, ⟨hx0, hx1, hx2, hx3⟩, ⟨hf1, hf2, hf3⟩, hc, hC, hR⟩ := H2.out.cells0; have HR := Aside0.mk hR; clear hC hR hc))
      go_quiet (fail)
      go_wp2
      go_ret3
      exact ⟨_, rfl, Kd.R_nil _ _ _ _ _, pw_below_drewN H2.out.belowW _⟩

end Go.Proofs.Ytgnelblghdfgiaa.PFnExactTreeRead
