/- The machine's side of FnExactRecOk, written by wip/tools/hyb.py of this repo: each Go function as a plain Lean function, and the proof that the call comes to just its answer. No condition. -/
import Derived.Test.YtfaaoljihmlbmaaPFnExactRecOkx0
import Derived.Test.YtfaaoljihmlbmaaPFnExactRecOkx5
import Derived.Test.YtfaaoljihmlbmaaPFnExactRecOkx6
namespace Go.Proofs.Ytfaaoljihmlbmaa.PFnExactRecOk
open Go.RowKit Go.Proofs.YtfaaoljihmlbmaaW.PrintWords Go.Proofs.YtfaaoljihmlbmaaW.PrintLast Go.Proofs.YtfaaoljihmlbmaaW.PrintMore Go.Proofs.YtfaaoljihmlbmaaW.PrintMore2
attribute [local go_sem] max2_int min2_int max_two min_two max_three min_three max_four min_four   -- for this text's walks alone
set_option linter.unusedVariables false
set_option linter.unusedSimpArgs false

/-! ### impl_RecOk: function 9 -/
/-! The walker's state. -/
structure WS where
  vals : List S49
  bad : Bool
/-- The walker at g. -/
def Wk (w0 w : World) (g : Nat) (s : List S44) (st : WS) : Prop :=
  ∃ (A : Option Addr) (c : Nat) (A2 : Option Addr) (c2 : Nat), s.length ≤ c ∧ st.vals.length ≤ c2 ∧ Kd.C k44 w0 A s.length s ∧ Kd.C k49 w0 A2 st.vals.length st.vals ∧
    w.heap[g]? = some (.cells #[.slice A s.length c, .slice A2 st.vals.length c2, .bool st.bad, .func (.func 20) #[] #[], .func (.func 21) #[] #[]] 63 (0, 0)) ∧ Below w0.heap.size w0 w ∧ w0.heap.size ≤ g
section
variable {w0 w w1 : World} {g : Nat} {s : List S44} {st : WS}
theorem Wk.below (h : Wk w0 w g s st) (hb : Below w.heap.size w w1) : Wk w0 w1 g s st := by
  obtain ⟨A, c, A2, c2, h1, h2, h3, h4, h5, h6, h7⟩ := h
  exact ⟨A, c, A2, c2, h1, h2, h3, h4, (hb.block g (blk_lt h5)).trans h5, below_then h6 h6.size hb, h7⟩
theorem Wk.alloc (h : Wk w0 w g s st) (o : Obj) : Wk w0 (w.alloc o) g s st := h.below (below_alloc (Below.refl _ _) o)
theorem Wk.drewN (h : Wk w0 w g s st) (n : Nat) : Wk w0 (w.drewN n) g s st := h.below (pw_below_drewN (Below.refl _ _) n)
theorem Wk.drew (h : Wk w0 w g s st) : Wk w0 w.drew g s st := h.below (below_drew (Below.refl _ _))
theorem Wk.belowW (h : Wk w0 w g s st) : Below w0.heap.size w0 w := by
  obtain ⟨A, c, A2, c2, h1, h2, h3, h4, h5, h6, h7⟩ := h
  exact h6
theorem Wk.ge (h : Wk w0 w g s st) : w0.heap.size ≤ g := by
  obtain ⟨A, c, A2, c2, h1, h2, h3, h4, h5, h6, h7⟩ := h
  exact h7
theorem Wk.lt (h : Wk w0 w g s st) : g < w.heap.size := by
  obtain ⟨A, c, A2, c2, h1, h2, h3, h4, h5, h6, h7⟩ := h
  exact blk_lt h5
theorem Wk.far (h : Wk w0 w g s st) {p : Addr} (hp : g ≠ p.block) (hq : w0.heap.size ≤ p.block) (u : Value) : Wk w0 (w.setCell p u) g s st := by
  obtain ⟨A, c, A2, c2, h1, h2, h3, h4, h5, h6, h7⟩ := h
  exact ⟨A, c, A2, c2, h1, h2, h3, h4, blk_far h5 hp u, h6.setCell hq u, h7⟩
theorem Wk.set2 (h : Wk w0 w g s st) (x : Bool) : Wk w0 (w.setCell ⟨g, 2, none⟩ (.bool x)) g s ⟨st.vals, x⟩ := by
  obtain ⟨A, c, A2, c2, h1, h2, h3, h4, h5, h6, h7⟩ := h
  exact ⟨A, c, A2, c2, h1, h2, h3, h4, by simpa using blk_set h5 2 (.bool x), below_set h6 h7, h7⟩
/-- What the walk asks of the walker's cells. -/
theorem Wk.cells (h : Wk w0 w g s st) : ∃ (A : Option Addr) (c : Nat) (A2 : Option Addr) (c2 : Nat), (w.cell? ⟨g, 0, none⟩ = some (.slice A s.length c) ∧ w.cell? ⟨g, 1, none⟩ = some (.slice A2 st.vals.length c2) ∧ w.cell? ⟨g, 2, none⟩ = some (.bool st.bad) ∧ w.cell? ⟨g, 3, none⟩ = some (.func (.func 20) #[] #[]) ∧ w.cell? ⟨g, 4, none⟩ = some (.func (.func 21) #[] #[])) ∧ (w.frozen? ⟨g, 1, none⟩ = false ∧ w.frozen? ⟨g, 2, none⟩ = false) ∧ s.length ≤ c ∧ st.vals.length ≤ c2 ∧ Kd.C k44 w0 A s.length s ∧ Kd.C k49 w0 A2 st.vals.length st.vals := by
  obtain ⟨A, c, A2, c2, h1, h2, h3, h4, h5, h6, h7⟩ := h
  exact ⟨A, c, A2, c2, ⟨(blk_cell h5 0).trans rfl, (blk_cell h5 1).trans rfl, (blk_cell h5 2).trans rfl, (blk_cell h5 3).trans rfl, (blk_cell h5 4).trans rfl⟩, ⟨blk_frozen h5 1, blk_frozen h5 2⟩, h1, h2, h3, h4⟩
end
theorem b_eq {a c : Int} (h : a = c) : (a == c) = true ∧ (a != c) = false := ⟨beq_iff_eq.mpr h, bne_eq_false_iff_eq.mpr h⟩
theorem b_ne {a c : Int} (h : ¬ a = c) : (a == c) = false ∧ (a != c) = true := ⟨beq_eq_false_iff_ne.mpr h, bne_iff_ne.mpr h⟩
/-! The two literals that RecOk hands on: they do nothing. -/
set_option maxHeartbeats 1000000 in
theorem leaf_calls (a b c x : Int) (y : ByteArray) (w : World) : Calls Try.prog 20 #[.int .i64 a, .int .i64 b, .int .i64 c, .agg #[.int .i64 x, .string y]] w fun e w' => e = .returned (.tuple #[]) ∧ Below w.heap.size w w' := by
  go_enter Try.func20, Try.ntmps20
  go_wp2
  first | go_end0 | ((try simp only [Exit.inBlock, Exit.then]); refine bodyPost_ret (results_none rfl _ _ _) rfl ?_)
  exact ⟨rfl, below_later (Below.refl _ _)⟩
theorem none_calls (a b c : Int) (w : World) : Calls Try.prog 21 #[.int .i64 a, .int .i64 b, .int .i64 c] w fun e w' => e = .returned (.tuple #[]) ∧ Below w.heap.size w w' := by
  go_enter Try.func21, Try.ntmps21
  try go_wp2
  first | go_end0 | ((try simp only [Exit.inBlock, Exit.then]); refine bodyPost_ret (results_none rfl _ _ _) rfl ?_)
  exact ⟨rfl, below_later (Below.refl _ _)⟩
/-- 'next'. -/
def wkNext (st : WS) : S49 × WS := if st.bad = true ∨ (st.vals.length : Int) = 0 then (z49, ⟨st.vals, true⟩) else (rd_T49 st.vals 0, ⟨st.vals.drop 1, false⟩)
theorem cutTail (A : Option Addr) (c : Nat) (L : List S49) (hL : 0 < L.length) (hc : L.length ≤ c) : ∃ A' : Option Addr, (∀ W : World, (Instr.slice 31 (.slice A L.length c) (some (.int .i64 1)) none none).run Try.prog W = .ok (.slice A' (L.drop 1).length (c - 1)) W) ∧ (∀ w, Kd.C k49 w A L.length L → Kd.C k49 w A' (L.drop 1).length (L.drop 1)) ∧ (L.drop 1).length ≤ c - 1 := by
  obtain ⟨i0, hi, _, hsz, _⟩ := info_parts info49
  refine ⟨if c = 1 then A else A.map (·.add (1 * 2)), fun W => ?_, fun w h => Kd.C_drop h (by omega) hc, by rw [List.length_drop]; omega⟩
  have h := cut_from (P := Try.prog) 31 49 .i64 Try.underlying31 hi 2 hsz A L.length c 1 (by omega) (by omega) W
  rw [List.length_drop]
  exact h
theorem Wk.set1 {w0 w : World} {g : Nat} {s : List S44} {st : WS} (h : Wk w0 w g s st) (A2 : Option Addr) (c2 : Nat) (L : List S49) (hc : L.length ≤ c2) (hC : Kd.C k49 w0 A2 L.length L) : Wk w0 (w.setCell ⟨g, 1, none⟩ (.slice A2 L.length c2)) g s ⟨L, st.bad⟩ := by
  obtain ⟨A, c, B2, d2, h1, h2, h3, h4, h5, h6, h7⟩ := h
  exact ⟨A, c, A2, c2, h1, hc, h3, hC, by simpa using blk_set h5 1 (.slice A2 L.length c2), below_set h6 h7, h7⟩
theorem crd2 {w w' : World} {v : Value} {p : Addr} (hb : Below w.heap.size w w') (h : w.cell? p = some v) : w'.cell? p = some v := pw_cell_below hb h
theorem fzd2 {w0 w w' : World} {g : Nat} {s : List S44} {st : WS} {i : Nat} (hb : Below w.heap.size w w') (H : Wk w0 w g s st) (h : w.frozen? ⟨g, i, none⟩ = false) : w'.frozen? ⟨g, i, none⟩ = false := (hb.frozen (p := ⟨g, i, none⟩) H.lt).trans h
set_option maxHeartbeats 2000000 in
set_option maxRecDepth 100000 in
theorem wkNext.calls (w0 w : World) (g : Nat) (s : List S44) (st : WS) (h : Wk w0 w g s st) :
    Calls Try.prog 41 #[.pointer (some ⟨g, 0, none⟩)] w fun e w' => e = .returned (.agg #[.int .i64 (wkNext st).1.f0, .string (wkNext st).1.f1]) ∧ Wk w0 w' g s (wkNext st).2 := by
  have H := Aside0.mk h
  clear h
  have fin1 : ∀ (g1 : Nat) (w1 : World), g ≠ g1 → w1.heap[g1]? = some (.cells #[.int .i64 0, .string (⟨#[]⟩ : ByteArray)] 49 (0, 0)) → (((w1.setCell ⟨g, 2, none⟩ (.bool true)).setCell ⟨g1, 0, none⟩ (.int .i64 0)).setCell ⟨g1, 1, none⟩ (.string (⟨#[]⟩ : ByteArray))).heap[g1]? = some (.cells #[.int .i64 0, .string (⟨#[]⟩ : ByteArray)] 49 (0, 0)) := by
    intro g1 w1 hne hk
    refine blk_put (cs := #[.int .i64 0, .string (⟨#[]⟩ : ByteArray)]) ?_ 1 _ rfl
    refine blk_put (cs := #[.int .i64 0, .string (⟨#[]⟩ : ByteArray)]) ?_ 0 _ rfl
    exact blk_far hk (p := ⟨g, 2, none⟩) (fun e => hne e.symm) _
  by_cases h0 : st.bad = true
  · have e : wkNext st = (z49, ⟨st.vals, true⟩) := if_pos (Or.inl h0)
    rw [e]
    clear e
    go_enter Try.func41, Try.ntmps41
    go_wp2_with (first | ((with_reducible refine gate_dst (N := 2) rfl ?_); refine bx_ 2 #[.int .i64 0, .string (⟨#[]⟩ : ByteArray)] 49 ?_; intro g1 hg1 w1 hk1 hb1; have H1 := Aside0.mk (H.out.below hb1); have G1 := Aside0.mk (show g ≠ g1 from Nat.ne_of_lt (by rw [hg1]; exact H.out.lt)); have G2 := Aside0.mk (show w0.heap.size ≤ g1 from by rw [hg1]; exact H.out.belowW.size); obtain ⟨A, c, A2, c2, ⟨hx0, hx1, hx2, hx3, hx4⟩, ⟨hf1, hf2⟩, hc, hc2, hC, hC2⟩ := H1.out.cells; have HC2 := Aside0.mk hC2; have Hc2 := Aside0.mk hc2; have HK1 := Aside0.mk hk1; obtain ⟨hk_0, hk_1, hk_2, hk_3⟩ := cl2 HK1; clear hC hC2 hc hc2 hk1 hg1 hb1))
    refine bodyPost_ret (results_cell_row rfl _ _ g1 49 #[.int .i64 0, .string (⟨#[]⟩ : ByteArray)] (0, 0) _ rfl (fin1 _ _ G1.out HK1.out) Try.underlying49 rfl (by kernel_rfl)) rfl ?_
    exact ⟨rfl, ((H1.out.set2 true).far (p := ⟨g1, 0, none⟩) G1.out G2.out _).far (p := ⟨g1, 1, none⟩) G1.out G2.out _⟩
  · have h0' : st.bad = false := by simpa using h0
    by_cases h1 : (st.vals.length : Int) = 0
    · have e : wkNext st = (z49, ⟨st.vals, true⟩) := if_pos (Or.inr h1)
      rw [e]
      clear e
      obtain ⟨b1, b1'⟩ := b_eq h1
      clear h0 h1
      go_enter Try.func41, Try.ntmps41
      go_wp2_with (first | ((with_reducible refine gate_dst (N := 2) rfl ?_); refine bx_ 2 #[.int .i64 0, .string (⟨#[]⟩ : ByteArray)] 49 ?_; intro g1 hg1 w1 hk1 hb1; have H1 := Aside0.mk (H.out.below hb1); have G1 := Aside0.mk (show g ≠ g1 from Nat.ne_of_lt (by rw [hg1]; exact H.out.lt)); have G2 := Aside0.mk (show w0.heap.size ≤ g1 from by rw [hg1]; exact H.out.belowW.size); obtain ⟨A, c, A2, c2, ⟨hx0, hx1, hx2, hx3, hx4⟩, ⟨hf1, hf2⟩, hc, hc2, hC, hC2⟩ := H1.out.cells; have HC2 := Aside0.mk hC2; have Hc2 := Aside0.mk hc2; have HK1 := Aside0.mk hk1; obtain ⟨hk_0, hk_1, hk_2, hk_3⟩ := cl2 HK1; clear hC hC2 hc hc2 hk1 hg1 hb1))
      refine bodyPost_ret (results_cell_row rfl _ _ g1 49 #[.int .i64 0, .string (⟨#[]⟩ : ByteArray)] (0, 0) _ rfl (fin1 _ _ G1.out HK1.out) Try.underlying49 rfl (by kernel_rfl)) rfl ?_
      exact ⟨rfl, ((H1.out.set2 true).far (p := ⟨g1, 0, none⟩) G1.out G2.out _).far (p := ⟨g1, 1, none⟩) G1.out G2.out _⟩
    · have e : wkNext st = (rd_T49 st.vals 0, ⟨st.vals.drop 1, false⟩) := if_neg (fun h => h.elim h0 h1)
      rw [e]
      clear e
      have hL : 0 < st.vals.length := by omega
      obtain ⟨b1, b1'⟩ := b_ne h1
      have HL := Aside0.mk hL
      obtain ⟨n1, hn1⟩ : ∃ n, n = (st.vals.drop 1).length := ⟨_, rfl⟩
      have HN := Aside0.mk hn1
      have q0 := eq_true (show (0 : Int) < (st.vals.length : Int) by omega)
      have q1 := eq_true (show 0 < st.vals.length by omega)
      clear h0 h1 fin1 hn1 hL
      go_enter Try.func41, Try.ntmps41
      go_wp2_with (first | ((with_reducible refine gate_dst (N := 2) rfl ?_); refine bx_ 2 #[.int .i64 0, .string (⟨#[]⟩ : ByteArray)] 49 ?_; intro g1 hg1 w1 hk1 hb1; have H1 := Aside0.mk (H.out.below hb1); have G1 := Aside0.mk (show g ≠ g1 from Nat.ne_of_lt (by rw [hg1]; exact H.out.lt)); have G2 := Aside0.mk (show w0.heap.size ≤ g1 from by rw [hg1]; exact H.out.belowW.size); obtain ⟨A, c, A2, c2, ⟨hx0, hx1, hx2, hx3, hx4⟩, ⟨hf1, hf2⟩, hc, hc2, hC, hC2⟩ := H1.out.cells; have HC2 := Aside0.mk hC2; have Hc2 := Aside0.mk hc2; have HK1 := Aside0.mk hk1; obtain ⟨hk_0, hk_1, hk_2, hk_3⟩ := cl2 HK1; obtain ⟨ad, ea, hy0, hy1⟩ := at_T49 (Kd.C_below hC2 H1.out.belowW) 0 (Int.le_refl _) (by have := HL.out; omega); cases ea; obtain ⟨A3, hcut, hC3, hl3⟩ := cutTail (some ad) c2 st.vals HL.out hc2; rw [← HN.out] at hcut; have HC3 := Aside0.mk (hC3 _ hC2); have Hl3 := Aside0.mk hl3; rw [show ad.add ((0 : Int).toNat * 2) = ad from by simp [Addr.add]] at hy0 hy1; clear hC3 hl3; clear hC hC2 hc hc2 hk1 hg1 hb1) | ((with_reducible refine gate_dst (N := 3) rfl ?_); refine bx_ 3 #[.int .i64 0, .string (⟨#[]⟩ : ByteArray)] 49 ?_; intro g2 hg2 w2 hk2 hb2; have H2 := Aside0.mk (H1.out.below hb2); have n1a : g ≠ g2 := Nat.ne_of_lt (by rw [hg2]; exact H1.out.lt); have n1b : g2 ≠ g := n1a.symm; have n2a : g1 ≠ g2 := Nat.ne_of_lt (by rw [hg2]; exact blk_lt HK1.out); have n2b : g2 ≠ g1 := n2a.symm; have n3a : g ≠ g1 := G1.out; have n3b : g1 ≠ g := n3a.symm; have HK1b := Aside0.mk ((hb2.block g1 (blk_lt HK1.out)).trans HK1.out); have G3 := Aside0.mk (show w0.heap.size ≤ g2 from by rw [hg2]; exact H1.out.belowW.size); have HK2 := Aside0.mk hk2; obtain ⟨hk2_0, hk2_1, hk2_2, hk2_3⟩ := cl2 HK2; obtain ⟨hj_0, hj_1, hj_2, hj_3⟩ := cl2 HK1b; have hz1 := crd2 hb2 hx1; have hzf := fzd2 hb2 H1.out hf1; clear hk2 hg2 hb2 hx0 hx1 hx2 hx3 hx4 hf1 hf2 hk_0 hk_1 hk_2 hk_3 hy0 hy1))
      have e_ := HN.out
      subst e_
      refine bodyPost_ret (results_cell_row rfl _ _ g1 49 #[.int .i64 (rd_T49 st.vals 0).f0, .string (rd_T49 st.vals 0).f1] (0, 0) _ rfl ?_ Try.underlying49 rfl (by kernel_rfl)) rfl ?_
      · refine blk_put (cs := #[.int .i64 (rd_T49 st.vals 0).f0, .string (⟨#[]⟩ : ByteArray)]) ?_ 1 _ rfl
        refine blk_put (cs := #[.int .i64 0, .string (⟨#[]⟩ : ByteArray)]) ?_ 0 _ rfl
        refine blk_far (p := ⟨g, 1, none⟩) ?_ n3b _
        refine blk_far (p := ⟨g2, 1, none⟩) ?_ n2a _
        exact blk_far (p := ⟨g2, 0, none⟩) HK1b.out n2a _
      · have hw := (((((H2.out.far (p := ⟨g2, 0, none⟩) n1a G3.out (.int .i64 (rd_T49 st.vals 0).f0)).far (p := ⟨g2, 1, none⟩) n1a G3.out (.string (rd_T49 st.vals 0).f1)).set1 A3 (c2 - 1) (st.vals.drop 1) Hl3.out HC3.out).far (p := ⟨g1, 0, none⟩) n3a G2.out (.int .i64 (rd_T49 st.vals 0).f0)).far (p := ⟨g1, 1, none⟩) n3a G2.out (.string (rd_T49 st.vals 0).f1))
        rw [h0'] at hw
        exact ⟨rfl, hw⟩
/-- 'count'. -/
def wkCount (most : Int) (st : WS) : Int × WS := if (wkNext st).1.f1.toList = [] ∧ 0 ≤ (wkNext st).1.f0 ∧ (wkNext st).1.f0 ≤ most then ((wkNext st).1.f0, (wkNext st).2) else (0, ⟨(wkNext st).2.vals, true⟩)
theorem within_f (n lo hi : Int) : impl_within.f n lo hi = some (decide (lo ≤ n ∧ n ≤ hi)) := by
  unfold impl_within.f
  by_cases h : lo ≤ n <;> simp [h]
set_option maxHeartbeats 2000000 in
set_option maxRecDepth 100000 in
theorem wkCount.calls (w0 w : World) (g : Nat) (s : List S44) (st : WS) (most : Int) (h : Wk w0 w g s st) :
    Calls Try.prog 46 #[.pointer (some ⟨g, 0, none⟩), .int .i64 most] w fun e w' => e = .returned (.int .i64 (wkCount most st).1) ∧ Wk w0 w' g s (wkCount most st).2 := by
  have H := Aside0.mk h
  clear h
  unfold wkCount
  obtain ⟨⟨⟨v0, v1⟩, s1⟩, hv⟩ : ∃ z, z = wkNext st := ⟨_, rfl⟩
  rw [← hv]
  have HV := Aside0.mk hv
  clear hv
  have hw := within_f v0 0 most
  by_cases h1 : v1.toList = []
  · have t1 : (v1.toList == ([] : List UInt8)) = true := by simpa using h1
    have t2 : (v1.toList != ([] : List UInt8)) = false := by simpa using h1
    have t3 : v1.toList.isEmpty = true := by simpa using h1
    by_cases h2 : 0 ≤ v0 ∧ v0 ≤ most
    · rw [if_pos ⟨h1, h2⟩]
      rw [decide_eq_true h2] at hw
      have HW := Aside0.mk hw
      clear hw h1 h2
      go_enter Try.func46, Try.ntmps46
      go_wp2_with (first | (go_at_call 41; (refine (wkNext.calls w0 _ g s st H.out).mono ?_); rintro e w1 ⟨rfl, h1⟩; rw [← HV.out] at h1 ⊢; have H1 := Aside0.mk h1; clear h1) | ((with_reducible refine gate_dst (N := 5) rfl ?_); refine bx_ 5 #[.int .i64 0, .string (⟨#[]⟩ : ByteArray)] 49 ?_; intro g2 hg2 w2 hk2 hb2; have H2 := Aside0.mk (H1.out.below hb2); have n1a : g ≠ g2 := Nat.ne_of_lt (by rw [hg2]; exact H1.out.lt); have n1b : g2 ≠ g := n1a.symm; have G3 := Aside0.mk (show w0.heap.size ≤ g2 from by rw [hg2]; exact H1.out.belowW.size); have HK2 := Aside0.mk hk2; obtain ⟨hk2_0, hk2_1, hk2_2, hk2_3⟩ := cl2 HK2; obtain ⟨A, c, A2, c2, ⟨hx0, hx1, hx2, hx3, hx4⟩, ⟨hf1, hf2⟩, hc, hc2, hC, hC2⟩ := H2.out.cells; clear hC hC2 hc hc2 hk2 hg2 hb2) | (go_at_call 31; (refine (impl_within.calls v0 0 most true _ HW.out).mono ?_); rintro e w2 ⟨rfl, ⟨nd, rfl⟩⟩))
      go_ret
      exact ⟨rfl, by repeat (first | exact H2.out | apply Wk.drewN | apply Wk.drew | (refine Wk.far ?_ (p := ⟨g2, _, none⟩) n1a G3.out _) | apply Wk.set2)⟩
    · rw [if_neg (fun h => h2 h.2)]
      rw [decide_eq_false h2] at hw
      have HW := Aside0.mk hw
      clear hw h1 h2
      go_enter Try.func46, Try.ntmps46
      go_wp2_with (first | (go_at_call 41; (refine (wkNext.calls w0 _ g s st H.out).mono ?_); rintro e w1 ⟨rfl, h1⟩; rw [← HV.out] at h1 ⊢; have H1 := Aside0.mk h1; clear h1) | ((with_reducible refine gate_dst (N := 5) rfl ?_); refine bx_ 5 #[.int .i64 0, .string (⟨#[]⟩ : ByteArray)] 49 ?_; intro g2 hg2 w2 hk2 hb2; have H2 := Aside0.mk (H1.out.below hb2); have n1a : g ≠ g2 := Nat.ne_of_lt (by rw [hg2]; exact H1.out.lt); have n1b : g2 ≠ g := n1a.symm; have G3 := Aside0.mk (show w0.heap.size ≤ g2 from by rw [hg2]; exact H1.out.belowW.size); have HK2 := Aside0.mk hk2; obtain ⟨hk2_0, hk2_1, hk2_2, hk2_3⟩ := cl2 HK2; obtain ⟨A, c, A2, c2, ⟨hx0, hx1, hx2, hx3, hx4⟩, ⟨hf1, hf2⟩, hc, hc2, hC, hC2⟩ := H2.out.cells; clear hC hC2 hc hc2 hk2 hg2 hb2) | (go_at_call 31; (refine (impl_within.calls v0 0 most false _ HW.out).mono ?_); rintro e w2 ⟨rfl, ⟨nd, rfl⟩⟩))
      go_ret
      exact ⟨rfl, by repeat (first | exact H2.out | apply Wk.drewN | apply Wk.drew | (refine Wk.far ?_ (p := ⟨g2, _, none⟩) n1a G3.out _) | apply Wk.set2)⟩
  · have t1 : (v1.toList == ([] : List UInt8)) = false := by simpa using h1
    have t2 : (v1.toList != ([] : List UInt8)) = true := by simpa using h1
    have t3 : v1.toList.isEmpty = false := by simpa using h1
    rw [if_neg (fun h => h1 h.1)]
    clear hw h1
    go_enter Try.func46, Try.ntmps46
    go_wp2_with (first | (go_at_call 41; (refine (wkNext.calls w0 _ g s st H.out).mono ?_); rintro e w1 ⟨rfl, h1⟩; rw [← HV.out] at h1 ⊢; have H1 := Aside0.mk h1; clear h1) | ((with_reducible refine gate_dst (N := 5) rfl ?_); refine bx_ 5 #[.int .i64 0, .string (⟨#[]⟩ : ByteArray)] 49 ?_; intro g2 hg2 w2 hk2 hb2; have H2 := Aside0.mk (H1.out.below hb2); have n1a : g ≠ g2 := Nat.ne_of_lt (by rw [hg2]; exact H1.out.lt); have n1b : g2 ≠ g := n1a.symm; have G3 := Aside0.mk (show w0.heap.size ≤ g2 from by rw [hg2]; exact H1.out.belowW.size); have HK2 := Aside0.mk hk2; obtain ⟨hk2_0, hk2_1, hk2_2, hk2_3⟩ := cl2 HK2; obtain ⟨A, c, A2, c2, ⟨hx0, hx1, hx2, hx3, hx4⟩, ⟨hf1, hf2⟩, hc, hc2, hC, hC2⟩ := H2.out.cells; clear hC hC2 hc hc2 hk2 hg2 hb2))
    go_ret
    exact ⟨rfl, by repeat (first | exact H2.out | apply Wk.drewN | apply Wk.drew | (refine Wk.far ?_ (p := ⟨g2, _, none⟩) n1a G3.out _) | apply Wk.set2)⟩
/-- 'missing': no value is taken; where the reading of the schema would fall out nothing is said. -/
def wkMiss (k : Nat) (s : List S44) (at_ : Int) : Option Int := (impl_colAfter.f k s at_ 1).bind fun a => if 0 ≤ at_ ∧ a ≤ (s.length : Int) then some a else none
set_option maxHeartbeats 2000000 in
set_option maxRecDepth 100000 in
theorem wkMiss.calls (k : Nat) (w0 w : World) (g : Nat) (s : List S44) (st : WS) (at_ rep dfn r : Int) (h : Wk w0 w g s st) (hf : wkMiss k s at_ = some r) :
    Calls Try.prog 47 #[.pointer (some ⟨g, 0, none⟩), .int .i64 at_, .int .i64 rep, .int .i64 dfn] w fun e w' => e = .returned (.int .i64 r) ∧ Wk w0 w' g s st := by
  have H := Aside0.mk h
  clear h
  unfold wkMiss at hf
  replace hf := Option.bind_eq_some_iff.mp hf
  obtain ⟨a, ha, hf⟩ := hf
  have HA := Aside0.mk ha
  replace hf := ifs hf
  obtain ⟨⟨h0, h1⟩, hf⟩ := hf
  obtain rfl := Option.some.inj hf
  have H0 := Aside0.mk h0
  have HL := Aside0.mk h1
  clear hf ha h0 h1
  obtain ⟨A, c, A2, c2, ⟨hx0, hx1, hx2, hx3, hx4⟩, ⟨hf1, hf2⟩, hc, hc2, hC, hC2⟩ := H.out.cells
  have HC := Aside0.mk hC
  have Hc := Aside0.mk hc
  clear hC hC2 hc hc2
  go_enter Try.func47, Try.ntmps47
  go_wp2_with (first | (go_at_call 32; (refine (impl_colAfter.calls k A c s at_ 1 a _ (Kd.C_below HC.out H.out.belowW) Hc.out HA.out).mono ?_); rintro e w1 ⟨rfl, hb1⟩; have H1 := Aside0.mk (H.out.below hb1); clear hb1))
  go_loopg [10] ((a - at_).toNat + 1) (fun kq v10 w' => ∃ i : Int, v10 = .int .i64 i ∧ Aside0 (0 ≤ i) ∧ Aside0 (a - i < (kq : Int)) ∧ Aside0 (kq ≤ (a - at_).toNat + 1) ∧ Aside0 (Wk w0 w' g s st))
  case atStart => exact ⟨at_, rfl, H0, ⟨by omega⟩, ⟨Nat.le_refl _⟩, H1⟩
  case round =>
    obtain ⟨i, rfl, I0, IK, IM, HI⟩ := hrel
    clear hx0 hx1 hx2 hx3 hx4 hf1 hf2 H1
    by_cases c1 : i < a
    · cases gk with
      | zero => have := IK.out; omega
      | succ k1 =>
        have q1 := decide_eq_true c1
        have q2 := eq_true I0.out
        have q3 := eq_true (show i < (s.length : Int) by have := HL.out; omega)
        have q4 : IntKind.i64.wrap (i + 1) = i + 1 := IntWalk.i64_in _ (by have := HL.out; have := I0.out; have := HC.out.2.1; omega)
        have HI1 := Aside0.mk (show 0 ≤ i + 1 by have := I0.out; omega)
        have HI2 := Aside0.mk (show a - (i + 1) < (k1 : Int) by have := IK.out; omega)
        obtain ⟨A', c', A2', c2', ⟨hx0, hx1, hx2, hx3, hx4⟩, ⟨hf1, hf2⟩, hc, hc2, hC, hC2⟩ := HI.out.cells
        obtain ⟨ad, ea, hy0, hy1, hy2, hy3⟩ := at_T44 (Kd.C_below hC HI.out.belowW) i I0.out (by have := HL.out; omega)
        cases ea
        clear hC hC2 hc hc2 c1
        by_cases c7 : (rd_T44 s i).f1 = 7
        · obtain ⟨b7, b7'⟩ := b_eq c7
          clear c7
          go_wp2
          go_roundg k1
          case measure => have := IM.out; omega
          case rel => exact ⟨_, sr, HI1, HI2, ⟨by have := IM.out; omega⟩, HI⟩
        · obtain ⟨b7, b7'⟩ := b_ne c7
          clear c7
          go_wp2_with (first | (go_at_call 21; (refine (none_calls i rep dfn _).mono ?_); rintro e w2 ⟨rfl, hb2⟩; have H2 := Aside0.mk (HI.out.below hb2); clear hb2))
          go_roundg k1
          case measure => have := IM.out; omega
          case rel => exact ⟨_, sr, HI1, HI2, ⟨by have := IM.out; omega⟩, H2⟩
    · have q1 := decide_eq_false c1
      clear c1
      go_wp2
      go_ret
      exact ⟨rfl, HI.out⟩
mutual
def wkBody : Nat → List S44 → WS → Int → Option (Int × WS)
  | 0, _, _, _ => none
  | k + 1, s, st, at_ => if 0 ≤ at_ ∧ at_ < (s.length : Int) then
      (if (rd_T44 s at_).f1 = 7 then wkParts k s st (at_ + 1) 0 (rd_T44 s at_).f3
       else if (wkNext st).2.bad = true then some (at_ + 1, (wkNext st).2) else (impl_ValOk.f (rd_T44 s at_).f1 (wkNext st).1.f0 (wkNext st).1.f1).bind fun ok => if ok = true then some (at_ + 1, (wkNext st).2) else some (at_ + 1, ⟨(wkNext st).2.vals, true⟩))
    else none
def wkParts : Nat → List S44 → WS → Int → Int → Int → Option (Int × WS)
  | 0, _, _, _, _, _ => none
  | k + 1, s, st, next, i, many => if i < many then (if st.bad = true then some (next, st) else (wkCol k s st next).bind fun p => wkParts k s p.2 p.1 (wrap64 (i + 1)) many) else some (next, st)
def wkCol : Nat → List S44 → WS → Int → Option (Int × WS)
  | 0, _, _, _ => none
  | k + 1, s, st, at_ => if 0 ≤ at_ ∧ at_ < (s.length : Int) then
      (if (rd_T44 s at_).f2 = 1 then (if (wkCount 1 st).1 = 0 then (wkMiss k s at_).bind fun a => some (a, (wkCount 1 st).2) else wkBody k s (wkCount 1 st).2 at_)
       else if (rd_T44 s at_).f2 = 2 then (if (wkCount 20 st).1 = 0 then (wkMiss k s at_).bind fun a => some (a, (wkCount 20 st).2) else (wkBody k s (wkCount 20 st).2 at_).bind fun p => (wkRep k s p.2 at_ 1 (wkCount 20 st).1).bind fun s3 => (impl_colAfter.f k s at_ 1).bind fun a => some (a, s3))
       else wkBody k s st at_) else none
def wkRep : Nat → List S44 → WS → Int → Int → Int → Option WS
  | 0, _, _, _, _, _ => none
  | k + 1, s, st, at_, i, n => if i < n ∧ st.bad = false then (wkBody k s st at_).bind fun p => wkRep k s p.2 at_ (wrap64 (i + 1)) n else some st
end
def BodyOk (k : Nat) : Prop := ∀ (w0 w : World) (g : Nat) (s : List S44) (st st' : WS) (at_ rep dfn deep r : Int), Wk w0 w g s st → wkBody k s st at_ = some (r, st') →
  Calls Try.prog 33 #[.pointer (some ⟨g, 0, none⟩), .int .i64 at_, .int .i64 rep, .int .i64 dfn, .int .i64 deep] w fun e w' => e = .returned (.int .i64 r) ∧ Wk w0 w' g s st'
def ColOk (k : Nat) : Prop := ∀ (w0 w : World) (g : Nat) (s : List S44) (st st' : WS) (at_ rep dfn deep r : Int), Wk w0 w g s st → wkCol k s st at_ = some (r, st') →
  Calls Try.prog 43 #[.pointer (some ⟨g, 0, none⟩), .int .i64 at_, .int .i64 rep, .int .i64 dfn, .int .i64 deep] w fun e w' => e = .returned (.int .i64 r) ∧ Wk w0 w' g s st'
set_option maxHeartbeats 8000000 in
set_option maxRecDepth 100000 in
theorem body_step (k : Nat) (ih : ∀ m, m ≤ k → ColOk m) : BodyOk (k + 1) := by
  intro w0 w g s st st' at_ rep dfn deep r h hf
  have IH := Aside0.mk ih
  have H := Aside0.mk h
  clear ih h
  simp only [wkBody] at hf
  replace hf := ifs hf
  obtain ⟨⟨h0, h1⟩, hf⟩ := hf
  have H0 := Aside0.mk h0
  have HL := Aside0.mk h1
  obtain ⟨A, c, A2, c2, ⟨hx0, hx1, hx2, hx3, hx4⟩, ⟨hf1, hf2⟩, hc, hc2, hC, hC2⟩ := H.out.cells
  obtain ⟨ad, ea, hy0, hy1, hy2, hy3⟩ := at_T44 (Kd.C_below hC H.out.belowW) at_ h0 h1
  cases ea
  have HC := Aside0.mk hC
  have q1 := eq_true h0
  have q2 := eq_true h1
  have q4 : IntKind.i64.wrap (at_ + 1) = at_ + 1 := IntWalk.i64_in _ (by have := hC.2.1; omega)
  clear hC hC2 hc hc2 h0 h1
  by_cases c7 : (rd_T44 s at_).f1 = 7
  · rw [if_pos c7] at hf
    have HF := Aside0.mk hf
    obtain ⟨b7, b7'⟩ := b_eq c7
    clear hf c7
    clear hx0 hx1 hx2 hx3 hx4 hf1 hf2 hy0 hy1 hy2
    obtain ⟨A', c', A2', c2', ⟨hx0, hx1, hx2, hx3, hx4⟩, ⟨hf1, hf2⟩, hc, hc2, hC, hC2⟩ := H.out.cells
    obtain ⟨ad', ea, hy0, hy1, hy2, hy3'⟩ := at_T44 (Kd.C_below hC H.out.belowW) at_ H0.out HL.out
    cases ea
    clear hC hC2 hc hc2 hy3
    go_enter Try.func33, Try.ntmps33
    go_wp2
    go_loopg [12, 71] k (fun kq v12 v71 w' => ∃ (sI : WS) (nx i : Int), v12 = .int .i64 nx ∧ v71 = .int .i64 i ∧ Aside0 (wkParts kq s sI nx i (rd_T44 s at_).f3 = some (r, st')) ∧ Aside0 (kq ≤ k) ∧ Aside0 (Wk w0 w' g s sI))
    case atStart => exact ⟨_, _, 0, rfl, rfl, HF, ⟨Nat.le_refl _⟩, H⟩
    case round =>
      clear HF H hx0 hx1 hx2 hx3 hx4 hf1 hf2 hy0 hy1 hy2 hy3' q1 q2 q4 b7 b7'
      obtain ⟨sI, nx, i, rfl, rfl, HA, HK, HI⟩ := hrel
      cases gk with
      | zero => exact absurd HA.out (by simp [wkParts])
      | succ k1 =>
        have ha := HA.out
        simp only [wkParts] at ha
        clear HA
        obtain ⟨A', c', A2', c2', ⟨hx0, hx1, hx2, hx3, hx4⟩, ⟨hf1, hf2⟩, hc, hc2, hC, hC2⟩ := HI.out.cells
        clear hC hC2 hc hc2
        by_cases c1 : i < (rd_T44 s at_).f3
        · rw [if_pos c1] at ha
          have q1 := decide_eq_true c1
          clear c1
          by_cases cb : sI.bad = true
          · rw [if_pos cb] at ha
            simp only [Option.some.injEq, Prod.mk.injEq] at ha
            obtain ⟨rfl, rfl⟩ := ha
            go_wp2
            go_ret
            exact ⟨rfl, HI.out⟩
          · rw [if_neg cb] at ha
            have cb' : sI.bad = false := by simpa using cb
            replace ha := Option.bind_eq_some_iff.mp ha
            obtain ⟨⟨n2, s2⟩, hcl, ha⟩ := ha
            have HCL := Aside0.mk hcl
            have HA := Aside0.mk ha
            clear hcl ha cb
            go_wp2_with (first | (go_at_call 43; (refine (IH.out k1 (by have := HK.out; omega) w0 _ g s sI s2 nx rep dfn deep n2 HI.out HCL.out).mono ?_); rintro e w7 ⟨rfl, h7⟩; have H7 := Aside0.mk h7; clear h7))
            go_roundg k1
            case measure => have := HK.out; omega
            case rel => exact ⟨_, _, _, sr, sr, HA, ⟨by have := HK.out; omega⟩, H7⟩
        · rw [if_neg c1] at ha
          have q1 := decide_eq_false c1
          simp only [Option.some.injEq, Prod.mk.injEq] at ha
          obtain ⟨rfl, rfl⟩ := ha
          clear c1
          go_wp2
          go_ret
          exact ⟨rfl, HI.out⟩
  · rw [if_neg c7] at hf
    obtain ⟨b7, b7'⟩ := b_ne c7
    clear c7
    obtain ⟨⟨⟨v0, v1⟩, s1⟩, hv⟩ : ∃ z, z = wkNext st := ⟨_, rfl⟩
    rw [← hv] at hf
    have HV := Aside0.mk hv
    clear hv
    dsimp only at hf
    have HF := Aside0.mk hf
    clear hf
    go_enter Try.func33, Try.ntmps33
    go_upto_region 3 with (first | (go_at_call 41; (refine (wkNext.calls w0 _ g s st H.out).mono ?_); rintro e w1 ⟨rfl, h1⟩; rw [← HV.out] at h1 ⊢; have H1 := Aside0.mk h1; clear h1) | ((with_reducible refine gate_dst (N := 11) rfl ?_); refine bx_ 11 #[.int .i64 0, .string (⟨#[]⟩ : ByteArray)] 49 ?_; intro g2 hg2 w2 hk2 hb2; have H2 := Aside0.mk (H1.out.below hb2); have n1a : g ≠ g2 := Nat.ne_of_lt (by rw [hg2]; exact H1.out.lt); have n1b : g2 ≠ g := n1a.symm; have G3 := Aside0.mk (show w0.heap.size ≤ g2 from by rw [hg2]; exact H1.out.belowW.size); have HK2 := Aside0.mk hk2; obtain ⟨hk2_0, hk2_1, hk2_2, hk2_3⟩ := cl2 HK2; clear hk2 hg2 hb2))
    have H3 := Aside0.mk ((H2.out.far (p := ⟨g2, 0, none⟩) n1a G3.out (.int .i64 v0)).far (p := ⟨g2, 1, none⟩) n1a G3.out (.string v1))
    have HK3 : Aside0 (((w2.setCell ⟨g2, 0, none⟩ (.int .i64 v0)).setCell ⟨g2, 1, none⟩ (.string v1)).heap[g2]? = some (.cells #[.int .i64 v0, .string v1] 49 (0, 0))) := ⟨blk_put (cs := #[.int .i64 v0, .string (⟨#[]⟩ : ByteArray)]) (blk_put (cs := #[.int .i64 0, .string (⟨#[]⟩ : ByteArray)]) HK2.out 0 _ rfl) 1 _ rfl⟩
    clear hx0 hx1 hx2 hx3 hx4 hf1 hf2 hy0 hy1 hy2 hy3 hk2_0 hk2_1 hk2_2 hk2_3
    generalize (w2.setCell ⟨g2, 0, none⟩ (.int .i64 v0)).setCell ⟨g2, 1, none⟩ (.string v1) = W3 at H3 HK3 ⊢
    obtain ⟨A', c', A2', c2', ⟨hx0, hx1, hx2, hx3, hx4⟩, ⟨hf1, hf2⟩, hc, hc2, hC, hC2⟩ := H3.out.cells; obtain ⟨ad', ea, hy0, hy1, hy2, hy3⟩ := at_T44 (Kd.C_below hC H3.out.belowW) at_ H0.out HL.out; cases ea; clear hC hC2 hc hc2
    obtain ⟨hk_0, hk_1, hk_2, hk_3⟩ := cl2 HK3
    by_cases cb : s1.bad = true
    · have hf := HF.out
      rw [if_pos cb] at hf
      simp only [Option.some.injEq, Prod.mk.injEq] at hf
      obtain ⟨rfl, rfl⟩ := hf
      go_quiet (fail)
      go_wp2
      go_ret
      exact ⟨rfl, H3.out.drewN _⟩
    · have hf := HF.out
      rw [if_neg cb] at hf
      have cb' : s1.bad = false := by simpa using cb
      replace hf := Option.bind_eq_some_iff.mp hf
      obtain ⟨ok, hok, hf⟩ := hf
      have HOK := Aside0.mk hok
      clear hok cb
      go_cut [41] (fun v41 wc => v41 = .bool (!ok) ∧ Aside0 (Wk w0 wc g s s1) ∧ Aside0 (wc.heap[g2]? = some (.cells #[.int .i64 v0, .string v1] 49 (0, 0))))
      case first =>
        go_region_law ((go_simp; go_at_call 42; (refine (impl_ValOk.calls (rd_T44 s at_).f1 v0 v1 ok _ HOK.out).mono ?_); rintro e w4 ⟨rfl, hb4⟩; have H4 := Aside0.mk (H3.out.drew.below hb4); have HK4 := Aside0.mk ((hb4.block g2 (blk_lt (blk_drew HK3.out))).trans (blk_drew HK3.out)); clear hb4))
        all_goals
          go_wp2
          go_meet
          case rel => exact ⟨rfl, H4, HK4⟩
      case rest =>
        obtain ⟨rfl, H4, HK4⟩ := hcut
        clear hx0 hx1 hx2 hx3 hx4 hf1 hf2 hy0 hy1 hy2 hy3 hk_0 hk_1 hk_2 hk_3
        obtain ⟨A', c', A2', c2', ⟨hx0, hx1, hx2, hx3, hx4⟩, ⟨hf1, hf2⟩, hc, hc2, hC, hC2⟩ := H4.out.cells; obtain ⟨ad', ea, hy0, hy1, hy2, hy3⟩ := at_T44 (Kd.C_below hC H4.out.belowW) at_ H0.out HL.out; cases ea; clear hC hC2 hc hc2
        obtain ⟨hk_0, hk_1, hk_2, hk_3⟩ := cl2 HK4
        cases ok with
        | false =>
          rw [if_neg (by decide)] at hf
          simp only [Option.some.injEq, Prod.mk.injEq] at hf
          obtain ⟨rfl, rfl⟩ := hf
          go_wp2
          go_ret
          exact ⟨rfl, by repeat (first | exact H4.out | apply Wk.drewN | apply Wk.drew | apply Wk.set2)⟩
        | true =>
          rw [if_pos rfl] at hf
          simp only [Option.some.injEq, Prod.mk.injEq] at hf
          obtain ⟨rfl, rfl⟩ := hf
          go_wp2
          go_region_law ((go_simp; go_at_call 20; (refine (leaf_calls at_ rep dfn v0 v1 _).mono ?_); rintro e w5 ⟨rfl, hb5⟩; have H5 := Aside0.mk (H4.out.drew.below hb5); clear hb5))
          all_goals
            go_wp2
            go_ret
            exact ⟨rfl, H5.out⟩
set_option maxHeartbeats 8000000 in
set_option maxRecDepth 100000 in
theorem col_step (k : Nat) (ih : ∀ m, m ≤ k → BodyOk m) : ColOk (k + 1) := by
  intro w0 w g s st st' at_ rep dfn deep r h hf
  have IH := Aside0.mk ih
  have H := Aside0.mk h
  clear ih h
  simp only [wkCol] at hf
  replace hf := ifs hf
  obtain ⟨⟨h0, h1⟩, hf⟩ := hf
  have H0 := Aside0.mk h0
  have HL := Aside0.mk h1
  obtain ⟨A, c, A2, c2, ⟨hx0, hx1, hx2, hx3, hx4⟩, ⟨hf1, hf2⟩, hc, hc2, hC, hC2⟩ := H.out.cells
  obtain ⟨ad, ea, hy0, hy1, hy2, hy3⟩ := at_T44 (Kd.C_below hC H.out.belowW) at_ h0 h1
  cases ea
  have q1 := eq_true h0
  have q2 := eq_true h1
  have q4 : IntKind.i64.wrap (at_ + 1) = at_ + 1 := IntWalk.i64_in _ (by have := hC.2.1; omega)
  clear hC hC2 hc hc2 h0 h1
  by_cases c1 : (rd_T44 s at_).f2 = 1
  · rw [if_pos c1] at hf
    obtain ⟨b1, b1'⟩ := b_eq c1
    clear c1
    by_cases c2' : (wkCount 1 st).1 = 0
    · rw [if_pos c2'] at hf
      obtain ⟨b2, b2'⟩ := b_eq c2'
      replace hf := Option.bind_eq_some_iff.mp hf
      obtain ⟨a, ha, hf⟩ := hf
      simp only [Option.some.injEq, Prod.mk.injEq] at hf
      obtain ⟨rfl, rfl⟩ := hf
      have HA := Aside0.mk ha
      clear c2' ha
      go_enter Try.func43, Try.ntmps43
      go_wp2_with (first | (go_at_call 46; (refine (wkCount.calls w0 _ g s st 1 H.out).mono ?_); rintro e w2 ⟨rfl, h1⟩; have H1 := Aside0.mk h1; clear h1) | (go_at_call 47; (refine (wkMiss.calls k w0 _ g s _ at_ _ _ _ H1.out HA.out).mono ?_); rintro e w3 ⟨rfl, h2⟩; have H2 := Aside0.mk h2; clear h2))
      go_ret
      exact ⟨rfl, H2.out⟩
    · rw [if_neg c2'] at hf
      obtain ⟨b2, b2'⟩ := b_ne c2'
      have HB := Aside0.mk hf
      clear c2' hf
      go_enter Try.func43, Try.ntmps43
      go_wp2_with (first | (go_at_call 46; (refine (wkCount.calls w0 _ g s st 1 H.out).mono ?_); rintro e w2 ⟨rfl, h1⟩; have H1 := Aside0.mk h1; clear h1) | (go_at_call 33; (refine (IH.out k (Nat.le_refl _) w0 _ g s _ st' at_ _ _ _ r H1.out HB.out).mono ?_); rintro e w3 ⟨rfl, h2⟩; have H2 := Aside0.mk h2; clear h2))
      go_ret
      exact ⟨rfl, H2.out⟩
  · rw [if_neg c1] at hf
    obtain ⟨b1, b1'⟩ := b_ne c1
    clear c1
    by_cases c2 : (rd_T44 s at_).f2 = 2
    · rw [if_pos c2] at hf
      obtain ⟨d1, d1'⟩ := b_eq c2
      clear c2
      by_cases c2' : (wkCount 20 st).1 = 0
      · rw [if_pos c2'] at hf
        obtain ⟨b2, b2'⟩ := b_eq c2'
        replace hf := Option.bind_eq_some_iff.mp hf
        obtain ⟨a, ha, hf⟩ := hf
        simp only [Option.some.injEq, Prod.mk.injEq] at hf
        obtain ⟨rfl, rfl⟩ := hf
        have HA := Aside0.mk ha
        clear c2' ha
        go_enter Try.func43, Try.ntmps43
        go_wp2_with (first | (go_at_call 46; (refine (wkCount.calls w0 _ g s st 20 H.out).mono ?_); rintro e w2 ⟨rfl, h1⟩; have H1 := Aside0.mk h1; clear h1) | (go_at_call 47; (refine (wkMiss.calls k w0 _ g s _ at_ _ _ _ H1.out HA.out).mono ?_); rintro e w3 ⟨rfl, h2⟩; have H2 := Aside0.mk h2; clear h2))
        go_ret
        exact ⟨rfl, H2.out⟩
      · rw [if_neg c2'] at hf
        obtain ⟨b2, b2'⟩ := b_ne c2'
        replace hf := Option.bind_eq_some_iff.mp hf
        obtain ⟨⟨x, s2⟩, hb, hf⟩ := hf
        have HB := Aside0.mk hb
        dsimp only at hf
        replace hf := Option.bind_eq_some_iff.mp hf
        obtain ⟨s3, hr, hf⟩ := hf
        have HR := Aside0.mk hr
        replace hf := Option.bind_eq_some_iff.mp hf
        obtain ⟨a, ha, hf⟩ := hf
        have HA := Aside0.mk ha
        simp only [Option.some.injEq, Prod.mk.injEq] at hf
        obtain ⟨rfl, rfl⟩ := hf
        clear c2' hb hr ha
        go_enter Try.func43, Try.ntmps43
        go_wp2_with (first | (go_at_call 46; (refine (wkCount.calls w0 _ g s st 20 H.out).mono ?_); rintro e w2 ⟨rfl, h1⟩; have H1 := Aside0.mk h1; clear h1) | (go_at_call 33; (refine (IH.out k (Nat.le_refl _) w0 _ g s _ s2 at_ _ _ _ x H1.out HB.out).mono ?_); rintro e w3 ⟨rfl, h2⟩; have H2 := Aside0.mk h2; clear h2))
        clear hx0 hx1 hx2 hx3 hx4 hf1 hf2 hy0 hy1 hy2 hy3
        obtain ⟨n, hn⟩ : ∃ n, n = (wkCount 20 st).1 := ⟨_, rfl⟩
        rw [← hn]
        have hr := HR.out
        rw [← hn] at hr
        have HRR := Aside0.mk hr
        clear hr HR hn
        go_loopg [13] k (fun kq v13 w' => ∃ (sI : WS) (i : Int), v13 = .int .i64 i ∧ Aside0 (wkRep kq s sI at_ i n = some s3) ∧ Aside0 (kq ≤ k) ∧ Aside0 (Wk w0 w' g s sI))
        case atStart => exact ⟨_, 1, rfl, HRR, ⟨Nat.le_refl _⟩, H2⟩
        case round =>
          clear HRR H2 H1 H HB
          obtain ⟨sI, i, rfl, HQ, HK, HI⟩ := hrel
          cases gk with
          | zero => exact absurd HQ.out (by simp [wkRep])
          | succ k1 =>
            have ha := HQ.out
            simp only [wkRep] at ha
            clear HQ
            obtain ⟨A', c', A2', c2', ⟨hx0, hx1, hx2, hx3, hx4⟩, ⟨hf1, hf2⟩, hc, hc2, hC, hC2⟩ := HI.out.cells
            have HC' := Aside0.mk hC
            have Hc' := Aside0.mk hc
            clear hC hC2 hc hc2
            by_cases c1 : i < n
            · have q1 := decide_eq_true c1
              by_cases cb : sI.bad = false
              · rw [if_pos ⟨c1, cb⟩] at ha
                replace ha := Option.bind_eq_some_iff.mp ha
                obtain ⟨⟨n2, s2⟩, hcl, ha⟩ := ha
                have HCL := Aside0.mk hcl
                have HQ := Aside0.mk ha
                clear hcl ha c1
                go_wp2_with (first | (go_at_call 33; (refine (IH.out k1 (by have := HK.out; omega) w0 _ g s sI s2 at_ _ _ _ n2 HI.out HCL.out).mono ?_); rintro e w7 ⟨rfl, h7⟩; have H7 := Aside0.mk h7; clear h7))
                go_roundg k1
                case measure => have := HK.out; omega
                case rel => exact ⟨_, _, sr, HQ, ⟨by have := HK.out; omega⟩, H7⟩
              · have cb' : sI.bad = true := by simpa using cb
                rw [if_neg (fun h => cb h.2)] at ha
                obtain rfl := Option.some.inj ha
                clear c1 ha cb
                go_wp2_with (first | (go_at_call 32; (refine (impl_colAfter.calls k A' c' s at_ 1 a _ (Kd.C_below HC'.out HI.out.belowW) Hc'.out HA.out).mono ?_); rintro e w9 ⟨rfl, hb9⟩; have H9 := Aside0.mk (HI.out.below hb9); clear hb9))
                go_ret
                exact ⟨rfl, H9.out⟩
            · have q1 := decide_eq_false c1
              rw [if_neg (fun h => c1 h.1)] at ha
              obtain rfl := Option.some.inj ha
              clear c1 ha
              go_wp2_with (first | (go_at_call 32; (refine (impl_colAfter.calls k A' c' s at_ 1 a _ (Kd.C_below HC'.out HI.out.belowW) Hc'.out HA.out).mono ?_); rintro e w9 ⟨rfl, hb9⟩; have H9 := Aside0.mk (HI.out.below hb9); clear hb9))
              go_ret
              exact ⟨rfl, H9.out⟩
    · rw [if_neg c2] at hf
      obtain ⟨d1, d1'⟩ := b_ne c2
      have HB := Aside0.mk hf
      clear c2 hf
      go_enter Try.func43, Try.ntmps43
      go_wp2_with (first | (go_at_call 33; (refine (IH.out k (Nat.le_refl _) w0 _ g s st st' at_ _ _ _ r H.out HB.out).mono ?_); rintro e w3 ⟨rfl, h2⟩; have H2 := Aside0.mk h2; clear h2))
      go_ret
      exact ⟨rfl, H2.out⟩
theorem wk_ring : ∀ k, BodyOk k ∧ ColOk k := by
  intro k
  induction k using Nat.strongRecOn with
  | _ k ih =>
    cases k with
    | zero => exact ⟨fun w0 w g s st st' at_ rep dfn deep r _ hf => by simp [wkBody] at hf, fun w0 w g s st st' at_ rep dfn deep r _ hf => by simp [wkCol] at hf⟩
    | succ k => exact ⟨body_step k (fun m hm => (ih m (by omega)).2), col_step k (fun m hm => (ih m (by omega)).1)⟩
def wkWalk (k : Nat) (s : List S44) (vals : List S49) : Option Bool := (wkBody k s ⟨vals, decide ((300 : Int) < (vals.length : Int))⟩ 0).bind fun p => some (!p.2.bad && ((p.2.vals.length : Int) == 0))
set_option maxHeartbeats 4000000 in
set_option maxRecDepth 100000 in
theorem wkWalk.calls (k : Nat) (A0 : Option Addr) (c0 : Nat) (s : List S44) (A1 : Option Addr) (c1 : Nat) (vals : List S49) (r : Bool) (w : World) (hr0 : Kd.C k44 w A0 s.length s) (hc0 : s.length ≤ c0) (hr1 : Kd.C k49 w A1 vals.length vals) (hc1 : vals.length ≤ c1) (hf : wkWalk k s vals = some r) :
    Calls Try.prog 19 #[.slice A0 s.length c0, .agg #[.slice A1 vals.length c1], .func (.func 20) #[] #[], .func (.func 21) #[] #[]] w fun e w' => e = .returned (.bool r) ∧ Below w.heap.size w w' := by
  have HR0 := Aside0.mk hr0
  have HC0 := Aside0.mk hc0
  have HR1 := Aside0.mk hr1
  have HC1 := Aside0.mk hc1
  clear hr0 hc0 hr1 hc1
  unfold wkWalk at hf
  replace hf := Option.bind_eq_some_iff.mp hf
  obtain ⟨⟨x, st⟩, hb, hf⟩ := hf
  obtain rfl := Option.some.inj hf
  clear hf
  have HB := Aside0.mk hb
  clear hb
  dsimp only
  go_enter Try.func19, Try.ntmps19
  go_wp2_with (first | ((with_reducible refine gate_dst (N := 5) rfl ?_); refine bx_ 5 #[.slice A1 vals.length c1] 33 ?_; intro g1 hg1 w1 hk1 hb1; have H0 := Aside0.mk hb1; have HK1 := Aside0.mk hk1; obtain ⟨hk1_0, hk1_1⟩ := cl1 HK1; clear hk1 hg1 hb1) | ((with_reducible refine gate_dst (N := 20) rfl ?_); refine bx_ 20 #[.slice A0 s.length c0, .slice A1 vals.length c1, .bool (decide ((300 : Int) < (vals.length : Int))), .func (.func 20) #[] #[], .func (.func 21) #[] #[]] 63 ?_; intro g2 hg2 w2 hk2 hb2; have H2 : Aside0 (Wk w w2 g2 s ⟨vals, decide ((300 : Int) < (vals.length : Int))⟩) := ⟨⟨A0, c0, A1, c1, HC0.out, HC1.out, HR0.out, HR1.out, hk2, below_step (below_later H0.out) hb2, by rw [hg2]; exact H0.out.size⟩⟩; clear hk2 hg2 hb2) | (go_at_call 33; (refine ((wk_ring k).1 w _ g2 s _ st 0 _ _ _ x H2.out HB.out).mono ?_); rintro e w3 ⟨rfl, h3⟩; have H3 := Aside0.mk h3; clear h3; obtain ⟨A', c', A2', c2', ⟨hx0, hx1, hx2, hx3, hx4⟩, ⟨hf1, hf2⟩, hc, hc2, hC, hC2⟩ := H3.out.cells; clear hC hC2 hc hc2))
  all_goals
    go_ret
    exact ⟨by first | rfl | (simp [*]; done) | (simp_all; done), H3.out.belowW⟩
def impl_RecOk.f (k : Nat) (l0 : List S44) (l1_0 : List S49) : Option Bool := (impl_SchemaOk.f k l0).bind fun t => if t = true then wkWalk k l0 l1_0 else some false
set_option maxHeartbeats 4000000 in
set_option maxRecDepth 100000 in
theorem impl_RecOk.calls (k : Nat) (A0 : Option Addr) (c0 : Nat) (l0 : List (S44)) (A1_0 : Option Addr) (c1_0 : Nat) (l1_0 : List (S49)) (r : Bool) (w : World) (hr0 : Kd.C k44 w A0 l0.length l0) (hc0 : l0.length ≤ c0) (hr1_0 : Kd.C k49 w A1_0 l1_0.length l1_0) (hc1_0 : l1_0.length ≤ c1_0) (h : impl_RecOk.f k l0 l1_0 = some r) :
    Calls Try.prog 9 #[.slice A0 l0.length c0, .agg #[.slice A1_0 l1_0.length c1_0]] w fun e w' => e = .returned (.bool r) ∧ Below w.heap.size w w' := by
  have HR0 := Aside0.mk hr0
  have HC0 := Aside0.mk hc0
  have HR1 := Aside0.mk hr1_0
  have HC1 := Aside0.mk hc1_0
  clear hr0 hc0 hr1_0 hc1_0
  unfold impl_RecOk.f at h
  replace h := Option.bind_eq_some_iff.mp h
  obtain ⟨t, ht, h⟩ := h
  have HT := Aside0.mk ht
  clear ht
  have HB := Aside0.mk (Below.refl w.heap.size w)
  cases t with
  | false =>
    rw [if_neg (by decide)] at h
    obtain rfl := Option.some.inj h
    clear h
    go_enter Try.func9, Try.ntmps9
    go_wp2_with (first | ((with_reducible refine gate_dst (N := 3) rfl ?_); refine bx_ 3 #[.slice A1_0 l1_0.length c1_0] 33 ?_; intro g1 hg1 w1 hk1 hb1; replace HB := Aside0.mk (below_step HB.out hb1); have HK1 := Aside0.mk hk1; obtain ⟨hk1_0, hk1_1⟩ := cl1 HK1; clear hk1 hg1 hb1) | (go_at_call 18; (refine (impl_SchemaOk.calls k A0 c0 l0 false _ (Kd.C_below HR0.out HB.out) HC0.out HT.out).mono ?_); rintro e w3 ⟨rfl, hb3⟩; replace HB := Aside0.mk (below_step HB.out hb3); clear hb3))
    go_ret
    exact ⟨rfl, HB.out⟩
  | true =>
    rw [if_pos rfl] at h
    have HW := Aside0.mk h
    clear h
    go_enter Try.func9, Try.ntmps9
    go_wp2_with (first | ((with_reducible refine gate_dst (N := 3) rfl ?_); refine bx_ 3 #[.slice A1_0 l1_0.length c1_0] 33 ?_; intro g1 hg1 w1 hk1 hb1; replace HB := Aside0.mk (below_step HB.out hb1); have HK1 := Aside0.mk hk1; obtain ⟨hk1_0, hk1_1⟩ := cl1 HK1; clear hk1 hg1 hb1) | (go_at_call 18; (refine (impl_SchemaOk.calls k A0 c0 l0 true _ (Kd.C_below HR0.out HB.out) HC0.out HT.out).mono ?_); rintro e w3 ⟨rfl, hb3⟩; have HKB := Aside0.mk ((hb3.block g1 (blk_lt HK1.out)).trans HK1.out); obtain ⟨hk_0, hk_1⟩ := cl1 HKB; replace HB := Aside0.mk (below_step HB.out hb3); clear hb3) | (go_at_call 19; (refine (wkWalk.calls k A0 c0 l0 A1_0 c1_0 l1_0 r _ (Kd.C_below HR0.out HB.out) HC0.out (Kd.C_below HR1.out HB.out) HC1.out HW.out).mono ?_); rintro e w4 ⟨rfl, hb4⟩; replace HB := Aside0.mk (below_step HB.out hb4); clear hb4))
    go_ret
    exact ⟨rfl, HB.out⟩

/-! ### laws_eqCol: function 22 -/
def laws_eqCol.f (a0_0 : ByteArray) (a0_1 : Int) (a0_2 : Int) (a0_3 : Int) (a1_0 : ByteArray) (a1_1 : Int) (a1_2 : Int) (a1_3 : Int) : Option (Bool) := if a0_0.toList = a1_0.toList then (if a0_1 = a1_1 then (if a0_2 = a1_2 then (if a0_3 = a1_3 then (some true) else (some false)) else (some false)) else (some false)) else (some false)
set_option maxHeartbeats 8000000 in
set_option maxRecDepth 100000 in
theorem laws_eqCol.calls (a0_0 : ByteArray) (a0_1 : Int) (a0_2 : Int) (a0_3 : Int) (a1_0 : ByteArray) (a1_1 : Int) (a1_2 : Int) (a1_3 : Int) (r : Bool) (w : World) (h : laws_eqCol.f a0_0 a0_1 a0_2 a0_3 a1_0 a1_1 a1_2 a1_3 = some true) :
    Calls Try.prog 22 #[.agg #[.string a0_0, .int .i64 a0_1, .int .i64 a0_2, .int .i64 a0_3], .agg #[.string a1_0, .int .i64 a1_1, .int .i64 a1_2, .int .i64 a1_3]] w fun e w' => e = .returned (.bool true) ∧ Below w.heap.size w w' := by
  have hu44 := Try.underlying44
  have HB := Aside0.mk (Below.refl w.heap.size w)
  have H : (if a0_0.toList = a1_0.toList then (if a0_1 = a1_1 then (if a0_2 = a1_2 then (if a0_3 = a1_3 then (some true) else (some false)) else (some false)) else (some false)) else (some false)) = some true := h
  clear h
  by_cases c3 : a0_0.toList = a1_0.toList
  · rw [if_pos c3] at H
    have c3b0 : (a0_0.toList == a1_0.toList) = true := beq_iff_eq.mpr c3
    have c3b1 : (a0_0.toList != a1_0.toList) = false := bne_eq_false_iff_eq.mpr c3
    clear c3
    by_cases c4 : a0_1 = a1_1
    · rw [if_pos c4] at H
      have c4b0 : (a0_1 == a1_1) = true := beq_iff_eq.mpr c4
      have c4b1 : (a0_1 != a1_1) = false := bne_eq_false_iff_eq.mpr c4
      clear c4
      by_cases c5 : a0_2 = a1_2
      · rw [if_pos c5] at H
        have c5b0 : (a0_2 == a1_2) = true := beq_iff_eq.mpr c5
        have c5b1 : (a0_2 != a1_2) = false := bne_eq_false_iff_eq.mpr c5
        clear c5
        by_cases c6 : a0_3 = a1_3
        · rw [if_pos c6] at H
          have c6b0 : (a0_3 == a1_3) = true := beq_iff_eq.mpr c6
          have c6b1 : (a0_3 != a1_3) = false := bne_eq_false_iff_eq.mpr c6
          clear c6
          clear H
          go_enter Try.func22, Try.ntmps22
          go_wp2_with (first | ((with_reducible refine gate_dst (N := 2) rfl ?_); refine bx_ 2 #[.string a0_0, .int .i64 a0_1, .int .i64 a0_2, .int .i64 a0_3] 44 ?_; intro gb216 hg w7 hbox hb; have BK216 := Aside0.mk (hbox); have GW216 := gwe HB hg; have GE216 := GW216; replace HB := bst HB hb; clear hb hbox hg) | ((with_reducible refine gate_dst (N := 3) rfl ?_); refine bx_ 3 #[.string a1_0, .int .i64 a1_1, .int .i64 a1_2, .int .i64 a1_3] 44 ?_; intro gb217 hg w8 hbox hb; have BK217 := Aside0.mk (hbox); have GW217 := gwe HB hg; have GE217 := GW217; have NB216_217 := nbl BK216 hg; have NB217_216 := nbr (nbl BK216 hg); replace BK216 := bkb BK216 hb; replace HB := bst HB hb; clear hb hbox hg; have hnb9 := NB216_217.out; have hnc9 := NB217_216.out; obtain ⟨hcz10_0, hcz10_1, hcz10_2, hcz10_3, hfz10_0, hfz10_1, hfz10_2, hfz10_3⟩ := cl4 BK216; obtain ⟨hcz11_0, hcz11_1, hcz11_2, hcz11_3, hfz11_0, hfz11_1, hfz11_2, hfz11_3⟩ := cl4 BK217))
          go_ret
          exact fin_ (below_later HB.out)
        · rw [if_neg c6] at H
          cases H
      · rw [if_neg c5] at H
        cases H
    · rw [if_neg c4] at H
      cases H
  · rw [if_neg c3] at H
    cases H
/-! ### laws_eqColS: function 10 -/
def laws_eqColS.l0 : Nat → List (S44) → List (S44) → Int → Option (Bool)
  | 0, _, _, _ => none
  | k + 1, x0, x1, x5 => if x5 < (x0.length : Int) then (if 0 ≤ x5 then (if x5 < (x1.length : Int) then ((laws_eqCol.f ((rd_T44 x0 x5).f0) ((rd_T44 x0 x5).f1) ((rd_T44 x0 x5).f2) ((rd_T44 x0 x5).f3) ((rd_T44 x1 x5).f0) ((rd_T44 x1 x5).f1) ((rd_T44 x1 x5).f2) ((rd_T44 x1 x5).f3)).bind fun t220 => (if t220 = true then (laws_eqColS.l0 k x0 x1 (wrap64 (x5 + 1))) else (some false))) else (none)) else (none)) else (some true)
def laws_eqColS.f (k : Nat) (l0 : List (S44)) (l1 : List (S44)) : Option (Bool) := if (l0.length : Int) = (l1.length : Int) then (laws_eqColS.l0 k l0 l1 0) else (some false)
def laws_eqColS.T6 : Bool × List (List Nat × List Nat) := (true, [([], []), ([], []), ([0, 1], [0, 1]), ([2], [2]), ([], []), ([], []), ([4, 5], [4, 5]), ([6], [6]), ([3, 7], [3, 7]), ([8], [8])])
def laws_eqColS.B6 : List Nat := [0, 0, 3, 7, 0, 0, 48, 112, 255, 511]
theorem laws_eqColS.tab6 : rtab .any (opsOf Try.f10 6) = laws_eqColS.T6 := by kernel_rfl
theorem laws_eqColS.bits6 : waitsOk laws_eqColS.T6.2 laws_eqColS.B6 = true := by kernel_rfl
set_option maxHeartbeats 8000000 in
set_option maxRecDepth 100000 in
theorem laws_eqColS.calls (k : Nat) (A0 : Option Addr) (c0 : Nat) (l0 : List (S44)) (A1 : Option Addr) (c1 : Nat) (l1 : List (S44)) (r : Bool) (w : World) (hr0 : Kd.C k44 w A0 l0.length l0) (hc0 : l0.length ≤ c0) (hr1 : Kd.C k44 w A1 l1.length l1) (hc1 : l1.length ≤ c1) (h : laws_eqColS.f k l0 l1 = some true) :
    Calls Try.prog 10 #[.slice A0 l0.length c0, .slice A1 l1.length c1] w fun e w' => e = .returned (.bool true) ∧ Below w.heap.size w w' := by
  have hu44 := Try.underlying44
  have HR0 := Aside0.mk hr0
  have HC0 := Aside0.mk hc0
  clear hr0 hc0
  have HR1 := Aside0.mk hr1
  have HC1 := Aside0.mk hc1
  clear hr1 hc1
  have HB := Aside0.mk (Below.refl w.heap.size w)
  have H : (if (l0.length : Int) = (l1.length : Int) then (laws_eqColS.l0 k l0 l1 0) else (some false)) = some true := h
  clear h
  by_cases c3 : (l0.length : Int) = (l1.length : Int)
  · rw [if_pos c3] at H
    have c3b0 : ((l0.length : Int) == (l1.length : Int)) = true := beq_iff_eq.mpr c3
    have c3b1 : ((l0.length : Int) != (l1.length : Int)) = false := bne_eq_false_iff_eq.mpr c3
    have c3b2 : (l0.length == l1.length) = true := by first | simpa using c3 | (simp at c3 ⊢; omega)
    clear c3
    have H' := Aside0.mk H
    clear H
    go_enter Try.func10, Try.ntmps10
    go_wp2
    go_loopg [5] k (fun kq v5 w' => ∃ (x5_1 : Int), v5 = .int .i64 x5_1 ∧ Aside0 (laws_eqColS.l0 kq l0 l1 x5_1 = some true) ∧ Aside0 (kq ≤ k) ∧ Aside0 (Below w.heap.size w w'))
    case atStart => exact ⟨(0), sr, H', ⟨Nat.le_refl _⟩, ⟨below_later HB.out⟩⟩
    case round =>
      clear H'
      try clear c1
      try clear c3
      try clear c3b0
      try clear c3b1
      try clear c3b2
      obtain ⟨x5_1, rfl, HA, HK1, HB⟩ := hrel
      cases gk with
      | zero => exact absurd HA.out (by simp [laws_eqColS.l0])
      | succ k1 =>
        have H := HA.out
        clear HA
        simp only [laws_eqColS.l0] at H
        by_cases c4 : x5_1 < (l0.length : Int)
        · rw [if_pos c4] at H
          have c4b0 := decide_eq_true c4
          clear c4
          replace H := ifd H
          obtain ⟨c5b0, H⟩ := H
          replace H := ifd H
          obtain ⟨c6b0, H⟩ := H
          replace H := bnd H
          obtain ⟨t220, A7, H⟩ := H
          by_cases c8 : t220 = true
          · subst c8
            replace H := ifp rfl H
            have H' := Aside0.mk H
            clear H
            try go_wp2
            have n0_ := Aside0.mk (below_drew1 HB.out)
            clear HB
            have HB := n0_
            clear n0_
            have p218 : 0 ≤ (x5_1 : Int) := dcd
            have q218 : x5_1 < (l0.length : Int) := dcd
            obtain ⟨ad218, e218, hx218_0, hx218_1, hx218_2, hx218_3⟩ := at_T44 HR0.out x5_1 p218 q218
            have hw218_3 := hx218_3
            have hw218_2 := hx218_2
            have hw218_1 := hx218_1
            have hw218_0 := hx218_0
            cases e218
            replace hx218_0 := crd HB hx218_0
            replace hx218_1 := crd HB hx218_1
            replace hx218_2 := crd HB hx218_2
            replace hx218_3 := crd HB hx218_3
            replace p218 := eq_true p218
            replace q218 := eq_true q218
            have p219 : 0 ≤ (x5_1 : Int) := dcd
            have q219 : x5_1 < (l1.length : Int) := dcd
            obtain ⟨ad219, e219, hx219_0, hx219_1, hx219_2, hx219_3⟩ := at_T44 HR1.out x5_1 p219 q219
            have hw219_3 := hx219_3
            have hw219_2 := hx219_2
            have hw219_1 := hx219_1
            have hw219_0 := hx219_0
            cases e219
            replace hx219_0 := crd HB hx219_0
            replace hx219_1 := crd HB hx219_1
            replace hx219_2 := crd HB hx219_2
            replace hx219_3 := crd HB hx219_3
            replace p219 := eq_true p219
            replace q219 := eq_true q219
            refine start_ (n := 10) (S := fun w' => w'.cell? (ad218.add ((x5_1).toNat * 4)) = some (.string ((rd_T44 l0 x5_1).f0)) ∧ w'.cell? ⟨(ad218.add ((x5_1).toNat * 4)).block, (ad218.add ((x5_1).toNat * 4)).off + 1, none⟩ = some (.int .i64 ((rd_T44 l0 x5_1).f1)) ∧ w'.cell? ⟨(ad218.add ((x5_1).toNat * 4)).block, (ad218.add ((x5_1).toNat * 4)).off + 2, none⟩ = some (.int .i64 ((rd_T44 l0 x5_1).f2)) ∧ w'.cell? ⟨(ad218.add ((x5_1).toNat * 4)).block, (ad218.add ((x5_1).toNat * 4)).off + 3, none⟩ = some (.int .i64 ((rd_T44 l0 x5_1).f3)) ∧ w'.cell? (ad219.add ((x5_1).toNat * 4)) = some (.string ((rd_T44 l1 x5_1).f0)) ∧ w'.cell? ⟨(ad219.add ((x5_1).toNat * 4)).block, (ad219.add ((x5_1).toNat * 4)).off + 1, none⟩ = some (.int .i64 ((rd_T44 l1 x5_1).f1)) ∧ w'.cell? ⟨(ad219.add ((x5_1).toNat * 4)).block, (ad219.add ((x5_1).toNat * 4)).off + 2, none⟩ = some (.int .i64 ((rd_T44 l1 x5_1).f2)) ∧ w'.cell? ⟨(ad219.add ((x5_1).toNat * 4)).block, (ad219.add ((x5_1).toNat * 4)).off + 3, none⟩ = some (.int .i64 ((rd_T44 l1 x5_1).f3))) (ds := []) #[false, false, false, false, false, false, false, false, false, false] (by kernel_rfl) rfl rfl ⟨((HB.out.cell (World.block_lt_of_cell? w _ hw218_0)).trans hw218_0), ((HB.out.cell (World.block_lt_of_cell? w _ hw218_1)).trans hw218_1), ((HB.out.cell (World.block_lt_of_cell? w _ hw218_2)).trans hw218_2), ((HB.out.cell (World.block_lt_of_cell? w _ hw218_3)).trans hw218_3), ((HB.out.cell (World.block_lt_of_cell? w _ hw219_0)).trans hw219_0), ((HB.out.cell (World.block_lt_of_cell? w _ hw219_1)).trans hw219_1), ((HB.out.cell (World.block_lt_of_cell? w _ hw219_2)).trans hw219_2), ((HB.out.cell (World.block_lt_of_cell? w _ hw219_3)).trans hw219_3)⟩ (fun hHeld => ?_); refine with_tabW laws_eqColS.tab6 laws_eqColS.bits6 (fun HT_ HW_ => ?_)
            generalize wr.drew = w9 at HB hx218_0 hx218_1 hx218_2 hx218_3 hx219_0 hx219_1 hx219_2 hx219_3 hHeld ⊢
            refine pure_ (i := 0) (N := some 17) (v := ?_) (a' := ?_) #[true, false, false, false, false, false, false, false, false, false] rfl rfl (any_of HT_.out (by kernel_rfl)) (fun _ _ _ h => h) (Or.inl ⟨by rfl, ?_⟩) ?_ ?_
            rotate_left
            · intro w'
              go_simp
              with_reducible rfl
            rotate_left
            · simp only [Act.put, List.setIfInBounds_toArray, List.set_cons_zero, List.set_cons_succ, i64_w, i32_w]
              rfl
            refine pure_ (i := 1) (N := some 18) (v := ?_) (a' := ?_) #[true, true, false, false, false, false, false, false, false, false] rfl rfl (any_of HT_.out (by kernel_rfl)) (fun _ _ _ h => h) (Or.inl ⟨by rfl, ?_⟩) ?_ ?_
            rotate_left
            · intro w'
              go_simp
              with_reducible rfl
            rotate_left
            · simp only [Act.put, List.setIfInBounds_toArray, List.set_cons_zero, List.set_cons_succ, i64_w, i32_w]
              rfl
            refine pure_ (i := 2) (N := some 19) (v := ?_) (a' := ?_) #[true, true, true, false, false, false, false, false, false, false] rfl rfl (any_of HT_.out (by kernel_rfl)) (fun _ _ _ h => h) (Or.inl ⟨by rfl, ?_⟩) ?_ ?_
            rotate_left
            · intro w'
              go_simp
              with_reducible rfl
            rotate_left
            · simp only [Act.put, List.setIfInBounds_toArray, List.set_cons_zero, List.set_cons_succ, i64_w, i32_w]
              rfl
            refine pure_ (i := 4) (N := some 21) (v := ?_) (a' := ?_) #[true, true, true, false, true, false, false, false, false, false] rfl rfl (any_of HT_.out (by kernel_rfl)) (fun _ _ _ h => h) (Or.inl ⟨by rfl, ?_⟩) ?_ ?_
            rotate_left
            · intro w'
              go_simp
              with_reducible rfl
            rotate_left
            · simp only [Act.put, List.setIfInBounds_toArray, List.set_cons_zero, List.set_cons_succ, i64_w, i32_w]
              rfl
            refine pure_ (i := 5) (N := some 22) (v := ?_) (a' := ?_) #[true, true, true, false, true, true, false, false, false, false] rfl rfl (any_of HT_.out (by kernel_rfl)) (fun _ _ _ h => h) (Or.inl ⟨by rfl, ?_⟩) ?_ ?_
            rotate_left
            · intro w'
              go_simp
              with_reducible rfl
            rotate_left
            · simp only [Act.put, List.setIfInBounds_toArray, List.set_cons_zero, List.set_cons_succ, i64_w, i32_w]
              rfl
            refine pure_ (i := 6) (N := some 23) (v := ?_) (a' := ?_) #[true, true, true, false, true, true, true, false, false, false] rfl rfl (any_of HT_.out (by kernel_rfl)) (fun _ _ _ h => h) (Or.inl ⟨by rfl, ?_⟩) ?_ ?_
            rotate_left
            · intro w'
              go_simp
              with_reducible rfl
            rotate_left
            · simp only [Act.put, List.setIfInBounds_toArray, List.set_cons_zero, List.set_cons_succ, i64_w, i32_w]
              rfl
            refine take_ (i := 3) (N := some 20) (v := ?_) (a' := ?_) #[true, true, true, true, true, true, true, false, false, false] rfl rfl (take_ofW HT_.out HW_.out (by kernel_rfl)) (fun _ _ _ h => h) (Or.inl ⟨by rfl, ?_⟩) hHeld ?_ ?_
            rotate_left
            · rintro w' ⟨s0, s1, s2, s3, s4, s5, s6, s7⟩
              go_simp
              with_reducible rfl
            rotate_left
            · simp only [Act.put, List.setIfInBounds_toArray, List.set_cons_zero, List.set_cons_succ, i64_w, i32_w]
              rfl
            refine take_ (i := 7) (N := some 24) (v := ?_) (a' := ?_) #[true, true, true, true, true, true, true, true, false, false] rfl rfl (take_ofW HT_.out HW_.out (by kernel_rfl)) (fun _ _ _ h => h) (Or.inl ⟨by rfl, ?_⟩) hHeld ?_ ?_
            rotate_left
            · rintro w' ⟨s0, s1, s2, s3, s4, s5, s6, s7⟩
              go_simp
              with_reducible rfl
            rotate_left
            · simp only [Act.put, List.setIfInBounds_toArray, List.set_cons_zero, List.set_cons_succ, i64_w, i32_w]
              rfl
            refine one_ (i := 8) (N := some 25) #[true, true, true, true, true, true, true, true, true, false] rfl rfl (one_of HT_.out (by kernel_rfl)) (by decide) (fun K hK => ?_)
            refine goes_ Try.func22 (by kernel_rfl) rfl #[.agg #[.string ((rd_T44 l0 x5_1).f0), .int .i64 ((rd_T44 l0 x5_1).f1), .int .i64 ((rd_T44 l0 x5_1).f2), .int .i64 ((rd_T44 l0 x5_1).f3)], .agg #[.string ((rd_T44 l1 x5_1).f0), .int .i64 ((rd_T44 l1 x5_1).f1), .int .i64 ((rd_T44 l1 x5_1).f2), .int .i64 ((rd_T44 l1 x5_1).f3)]] (by rfl) rfl rfl (by (try simp only [List.map_toArray, List.map_cons, List.map_nil]); first | done | rfl | (simp only [List.length_drop, List.length_take]; rfl)) ?_
            with_reducible refine (laws_eqCol.calls ((rd_T44 l0 x5_1).f0) ((rd_T44 l0 x5_1).f1) ((rd_T44 l0 x5_1).f2) ((rd_T44 l0 x5_1).f3) ((rd_T44 l1 x5_1).f0) ((rd_T44 l1 x5_1).f1) ((rd_T44 l1 x5_1).f2) ((rd_T44 l1 x5_1).f3) true _ A7.out).mono ?_
            rintro e w10 ⟨rfl, hb⟩
            refine ⟨_, rfl, ?_⟩
            have n0_ := bst HB hb
            clear HB
            have HB := n0_
            clear n0_
            (try clear hb)
            (try clear hb2)
            (try clear hk)
            (try clear hi)
            refine hK.out _ _ ⟨((HB.out.cell (World.block_lt_of_cell? w _ hw218_0)).trans hw218_0), ((HB.out.cell (World.block_lt_of_cell? w _ hw218_1)).trans hw218_1), ((HB.out.cell (World.block_lt_of_cell? w _ hw218_2)).trans hw218_2), ((HB.out.cell (World.block_lt_of_cell? w _ hw218_3)).trans hw218_3), ((HB.out.cell (World.block_lt_of_cell? w _ hw219_0)).trans hw219_0), ((HB.out.cell (World.block_lt_of_cell? w _ hw219_1)).trans hw219_1), ((HB.out.cell (World.block_lt_of_cell? w _ hw219_2)).trans hw219_2), ((HB.out.cell (World.block_lt_of_cell? w _ hw219_3)).trans hw219_3)⟩ (fun hHeld => ?_)
            clear hK K
            refine norm_ (a' := ?_) ?_ ?_
            rotate_left
            · show Act.put _ (some 25) _ = _
              simp only [Act.put, List.setIfInBounds_toArray, List.set_cons_zero, List.set_cons_succ, i64_w, i32_w]
              rfl
            refine pure_ (i := 9) (N := some 26) (v := ?_) (a' := ?_) #[true, true, true, true, true, true, true, true, true, true] rfl rfl (any_of HT_.out (by kernel_rfl)) (fun _ _ _ h => h) (Or.inl ⟨by rfl, ?_⟩) ?_ ?_
            rotate_left
            · intro w'
              go_simp
              with_reducible rfl
            rotate_left
            · simp only [Act.put, List.setIfInBounds_toArray, List.set_cons_zero, List.set_cons_succ, i64_w, i32_w]
              rfl
            refine done_ (done_of HT_.out (by kernel_rfl)) ?_
            try go_wp2
            go_roundg k1
            case measure => have := HK1.out; omega
            case rel => exact ⟨(wrap64 (x5_1 + 1)), sr, H', ⟨by have := HK1.out; omega⟩, ⟨below_later HB.out⟩⟩
          · replace c8 := Bool.eq_false_iff.mpr c8
            subst c8
            have H1 : (some false) = some true := by rw [if_neg (show ¬ (false = true) by decide)] at H; exact H
            cases H1
        · rw [if_neg c4] at H
          have c4b0 := decide_eq_false c4
          clear c4
          clear H
          go_wp2
          go_ret
          exact fin_ (below_later HB.out)
  · rw [if_neg c3] at H
    cases H
/-! ### laws_eqVal: function 34 -/
def laws_eqVal.f (a0_0 : Int) (a0_1 : ByteArray) (a1_0 : Int) (a1_1 : ByteArray) : Option (Bool) := if a0_0 = a1_0 then (if a0_1.toList = a1_1.toList then (some true) else (some false)) else (some false)
set_option maxHeartbeats 8000000 in
set_option maxRecDepth 100000 in
theorem laws_eqVal.calls (a0_0 : Int) (a0_1 : ByteArray) (a1_0 : Int) (a1_1 : ByteArray) (r : Bool) (w : World) (h : laws_eqVal.f a0_0 a0_1 a1_0 a1_1 = some true) :
    Calls Try.prog 34 #[.agg #[.int .i64 a0_0, .string a0_1], .agg #[.int .i64 a1_0, .string a1_1]] w fun e w' => e = .returned (.bool true) ∧ Below w.heap.size w w' := by
  have hu49 := Try.underlying49
  have HB := Aside0.mk (Below.refl w.heap.size w)
  have H : (if a0_0 = a1_0 then (if a0_1.toList = a1_1.toList then (some true) else (some false)) else (some false)) = some true := h
  clear h
  by_cases c3 : a0_0 = a1_0
  · rw [if_pos c3] at H
    have c3b0 : (a0_0 == a1_0) = true := beq_iff_eq.mpr c3
    have c3b1 : (a0_0 != a1_0) = false := bne_eq_false_iff_eq.mpr c3
    clear c3
    by_cases c4 : a0_1.toList = a1_1.toList
    · rw [if_pos c4] at H
      have c4b0 : (a0_1.toList == a1_1.toList) = true := beq_iff_eq.mpr c4
      have c4b1 : (a0_1.toList != a1_1.toList) = false := bne_eq_false_iff_eq.mpr c4
      clear c4
      clear H
      go_enter Try.func34, Try.ntmps34
      go_wp2_with (first | ((with_reducible refine gate_dst (N := 2) rfl ?_); refine bx_ 2 #[.int .i64 a0_0, .string a0_1] 49 ?_; intro gb221 hg w5 hbox hb; have BK221 := Aside0.mk (hbox); have GW221 := gwe HB hg; have GE221 := GW221; replace HB := bst HB hb; clear hb hbox hg) | ((with_reducible refine gate_dst (N := 3) rfl ?_); refine bx_ 3 #[.int .i64 a1_0, .string a1_1] 49 ?_; intro gb222 hg w6 hbox hb; have BK222 := Aside0.mk (hbox); have GW222 := gwe HB hg; have GE222 := GW222; have NB221_222 := nbl BK221 hg; have NB222_221 := nbr (nbl BK221 hg); replace BK221 := bkb BK221 hb; replace HB := bst HB hb; clear hb hbox hg; have hnb7 := NB221_222.out; have hnc7 := NB222_221.out; obtain ⟨hcz8_0, hcz8_1, hfz8_0, hfz8_1⟩ := cl2 BK221; obtain ⟨hcz9_0, hcz9_1, hfz9_0, hfz9_1⟩ := cl2 BK222))
      go_ret
      exact fin_ (below_later HB.out)
    · rw [if_neg c4] at H
      cases H
  · rw [if_neg c3] at H
    cases H
end Go.Proofs.Ytfaaoljihmlbmaa.PFnExactRecOk
