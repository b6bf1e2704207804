/- The pure statement of FnExactChunkCut: the printed functions answer as the law says, for all arguments. No condition. -/
import Derived.Test.YtcnfnjfbacmmaaaVFnExactChunkCut
import Derived.Test.YtcnfnjfbacmmaaaPFnExactChunkCutx
import Derived.Test.YtcnfnjfbacmmaaaArgFnExactChunkCut
namespace Go.Proofs.Ytcnfnjfbacmmaaa.Pure
open Go.RowKit Go.Proofs.Ytcnfnjfbacmmaaa.PFnExactChunkCut Go.Proofs.Ytcnfnjfbacmmaaa.Core Go.Proofs.YtcnfnjfbacmmaaaW.PrintWords Go.Proofs.YtcnfnjfbacmmaaaW.PrintLast Go.Proofs.YtcnfnjfbacmmaaaW.PrintMore Go.Proofs.YtcnfnjfbacmmaaaW.PrintMore2 Go.Proofs.Ytcnfnjfbacmmaaa.AFnExactChunkCut
set_option linter.unusedVariables false
set_option linter.unusedSimpArgs false
def cvVal (x : S35) : S39 := ⟨x.f0, x.f1⟩
def cvTriple (x : S37) : S41 := ⟨x.f0, x.f1, cvVal x.f2⟩
theorem toTripleS_ev (l : List S37) (hl : l.length ≤ 1048576) : Ev (fun k => laws_toTripleS.f k l) (l.map cvTriple) := by
  unfold laws_toTripleS.f
  refine Ev.pos (by omega) (Ev.pos (by omega) ?_)
  refine copy_loop (fun k out i => laws_toTripleS.l0 k l out i) l cvTriple (fun out i r h ho hr => ?_) (fun out ho => ?_) (List.replicate ((l.length : Int)).toNat z41) (by simp)
  · refine Ev.step (fun k => by rw [laws_toTripleS.l0]) ?_
    refine Ev.pos (by omega) (Ev.pos (by omega) (Ev.here rfl (Ev.pos (by omega) ?_)))
    rw [wrap64_id (by omega) (by omega)]
    have e : rd_T37 l (i : Int) = l[i] := getD_eq (by simpa using h)
    simp only [e]
    simpa [cvVal, cvTriple] using hr
  · exact Ev.step (fun k => by rw [laws_toTripleS.l0]) (by exact Ev.neg (by omega) (Ev.now _))
theorem szTriple_some (x : S37) (hw : w37 x) (c : Int) (h0 : 0 ≤ c) (h1 : c ≤ 1048576) : ∃ r, laws_szTriple.f x.f0 x.f1 x.f2.f0 x.f2.f1 c = some r ∧ r ≤ c := by
  have b0 : (x.f2.f1.size : Int) ≤ 9223372036854775807 := by have := hw.2.2.2; unfold maxLen at this; omega
  unfold laws_szTriple.f laws_szVal.f
  rw [wrap64_id (x := c - (x.f2.f1.size : Int)) (by omega) (by omega)]
  by_cases n0 : c - (x.f2.f1.size : Int) < 0
  · exact ⟨-1, by simp [n0], by omega⟩
  simp only [if_neg n0, Option.bind_some]
  exact ⟨_, rfl, by omega⟩
theorem szTripleS_ev (l : List S37) (hw : l.length ≤ maxLen) (ht : ∀ x ∈ l, w37 x) (c : Int) (h0 : 0 ≤ c) (h1 : c ≤ 1048576) : ∃ r, Ev (fun k => laws_szTripleS.f k l c) r ∧ r ≤ c ∧ (0 ≤ r → r + l.length ≤ c) := by
  have hm : l.length ≤ 9223372036854775807 := by unfold maxLen at hw; omega
  unfold laws_szTripleS.f
  rw [wrap64_id (by omega) (by omega)]
  by_cases hn : c - (l.length : Int) < 0
  · exact ⟨-1, Ev.pos hn (Ev.now _), by omega, by omega⟩
  · obtain ⟨r, hr, hrc⟩ := budget_loop (fun k c i => laws_szTripleS.l0 k l c i) l.length (fun c i hc0 hc1 hi => by
      have e : rd_T37 l (i : Int) = l[i] := getD_eq (by simpa using hi)
      obtain ⟨c', hc', hle⟩ := szTriple_some l[i] (ht l[i] (List.getElem_mem hi)) c hc0 hc1
      refine ⟨c', hle, fun hneg => ?_, fun hpos r hr => ?_⟩
      · exact Ev.step (fun k => by rw [laws_szTripleS.l0]) (by exact Ev.pos (by omega) (Ev.pos (by omega) (Ev.here (by rw [e]; exact hc') (Ev.pos hneg (Ev.now _)))))
      · refine Ev.step (fun k => by rw [laws_szTripleS.l0]) ?_
        refine Ev.pos (by omega) (Ev.pos (by omega) (Ev.here (by rw [e]; exact hc') (Ev.neg (by omega) ?_)))
        rw [wrap64_id (by omega) (by omega)]
        simpa using hr)
      (fun c => Ev.step (fun k => by rw [laws_szTripleS.l0]) (by exact Ev.neg (by omega) (Ev.now _))) (c - l.length) (by omega) (by omega)
    exact ⟨r, Ev.neg hn hr, by omega, by omega⟩
theorem eqTriple_ev (a : S41) : laws_eqTriple.f a.f0 a.f1 a.f2.f0 a.f2.f1 a.f0 a.f1 a.f2.f0 a.f2.f1 = some true := by
  unfold laws_eqTriple.f laws_eqVal.f
  simp
theorem eqTripleS_ev (l : List S41) (hl : l.length ≤ 9223372036854775806) : Ev (fun k => laws_eqTripleS.f k l l) true := by
  unfold laws_eqTripleS.f
  refine Ev.pos rfl ?_
  refine same_loop (fun k i => laws_eqTripleS.l0 k l l i) l.length (fun i r h hr => ?_) ?_
  · refine Ev.step (fun k => by rw [laws_eqTripleS.l0]) ?_
    refine Ev.pos (by omega) (Ev.pos (by omega) (Ev.pos (by omega) (Ev.here (eqTriple_ev _) (Ev.pos rfl ?_))))
    rw [wrap64_id (by omega) (by omega)]
    simpa using hr
  · exact Ev.step (fun k => by rw [laws_eqTripleS.l0]) (by exact Ev.neg (by omega) (Ev.now _))
theorem markText_l0_ev : ∀ (n : Nat) (c : Int) (out : ByteArray), 0 ≤ c → c < 10 ^ n → c ≤ 9223372036854775807 → out.size + n + 1 ≤ 1000 → ∃ t, Ev (fun k => laws_markText.l0 k c out) t := by
  intro n
  induction n with
  | zero =>
    intro c out h0 h1 hb hs
    obtain rfl : c = 0 := by simp at h1; omega
    exact ⟨_, Ev.step (fun k => by rw [laws_markText.l0]) (by exact Ev.neg (by omega) (Ev.pos (by omega) (Ev.now _)))⟩
  | succ n ih =>
    intro c out h0 h1 hb hs
    by_cases hc : c > 0
    · have h2 : c / 10 < 10 ^ n := by
        rw [Int.pow_succ] at h1
        exact Int.ediv_lt_of_lt_mul (by omega) h1
      obtain ⟨t, ht⟩ := ih (c / 10) (strOfNums [(wrap64 (48 + (Int.tmod c 10))) % 256] ++ out) (by omega) h2 (by omega) (by
        rw [ByteArray.size_append, strOfNums_size]; simp; omega)
      refine ⟨t, Ev.step (fun k => by rw [laws_markText.l0]) ?_⟩
      refine Ev.pos hc (Ev.here rfl (Ev.pos (by rw [strOfNums_size]; simp; omega) ?_))
      rw [Int.tdiv_eq_ediv_of_nonneg h0, wrap64_id (x := c / 10) (by omega) (by omega)]
      exact ht
    · obtain rfl : c = 0 := by omega
      exact ⟨_, Ev.step (fun k => by rw [laws_markText.l0]) (by exact Ev.neg (by omega) (Ev.pos (by omega) (Ev.now _)))⟩
theorem markText_ev (c : Int) (h : c ≤ 9223372036854775807) : ∃ t, Ev (fun k => laws_markText.f k c) t := by
  unfold laws_markText.f
  by_cases hc : c ≤ 0
  · exact ⟨_, Ev.pos hc (Ev.now _)⟩
  · obtain ⟨t, ht⟩ := markText_l0_ev 19 c (⟨#[]⟩ : ByteArray) (by omega) (by omega) h (by decide)
    exact ⟨t, Ev.neg hc ht⟩
noncomputable def mtxt (c : Int) : ByteArray := if h : c ≤ 9223372036854775807 then (markText_ev c h).choose else ByteArray.empty
theorem mtxt_ev {c : Int} (h : c ≤ 9223372036854775807) : Ev (fun k => laws_markText.f k c) (mtxt c) := by
  unfold mtxt
  rw [dif_pos h]
  exact (markText_ev c h).choose_spec
theorem markTripleS_ev (l : List S41) (c : Int) (hc : 0 ≤ c) (hl : c + 4 * l.length ≤ 9223372036854775806) : ∃ m ys, m = c + 4 * l.length ∧ Ev (fun k => laws_markTripleS.f k l c) (m, ys) ∧ Ev (fun k => laws_heldTripleS.f k ys c) m := by
  obtain ⟨m, ys, _, hm, h1, h2⟩ := marks_held 4 9223372036854775807 (by omega) (fun c (_ : S41) => (⟨c, c + 1, (⟨c + 1 + 1, mtxt (c + 1 + 1 + 1)⟩ : S39)⟩ : S41)) (fun k xs c i => laws_markTripleS.l0 k xs c i) (fun k xs c i => laws_heldTripleS.l0 k xs c i)
    (fun xs c i r h hb h0 hB hr => by
      refine Ev.step (fun k => by rw [laws_markTripleS.l0]) ?_
      refine Ev.pos (by omega) (Ev.pos (by omega) ?_)
      rw [wrap64_id (x := c + 1) (by omega) (by omega), wrap64_id (x := c + 1 + 1) (by omega) (by omega), wrap64_id (x := c + 1 + 1 + 1) (by omega) (by omega), wrap64_id (x := c + 1 + 1 + 1 + 1) (by omega) (by omega), wrap64_id (x := (i : Int) + 1) (by omega) (by omega)]
      refine Ev.here rfl ?_
      refine Ev.here rfl ?_
      refine Ev.here rfl ?_
      refine Ev.bind (mtxt_ev (by omega)) ?_
      have e : c + 1 + 1 + 1 + 1 = c + 4 := by omega
      simpa [rd_T41, h, e] using hr)
    (fun xs c => Ev.step (fun k => by rw [laws_markTripleS.l0]) (by exact Ev.neg (by omega) (Ev.now _)))
    (fun xs c i r z h hb h0 hB hz hr => by
      have e : rd_T41 xs (i : Int) = xs[i] := getD_eq (by simpa using h)
      refine Ev.step (fun k => by rw [laws_heldTripleS.l0]) ?_
      refine Ev.pos (by omega) (Ev.pos (by omega) ?_)
      rw [wrap64_id (x := c + 1) (by omega) (by omega), wrap64_id (x := c + 1 + 1) (by omega) (by omega), wrap64_id (x := c + 1 + 1 + 1) (by omega) (by omega), wrap64_id (x := c + 1 + 1 + 1 + 1) (by omega) (by omega), wrap64_id (x := (i : Int) + 1) (by omega) (by omega)]
      refine Ev.pos (by rw [e, hz]) ?_
      refine Ev.pos (by rw [e, hz]) ?_
      refine Ev.pos (by rw [e, hz]) ?_
      refine Ev.bind (mtxt_ev (by omega)) (Ev.pos (by rw [e, hz]) ?_)
      have e : c + 1 + 1 + 1 + 1 = c + 4 := by omega
      simpa [e] using hr)
    (fun xs c => Ev.step (fun k => by rw [laws_heldTripleS.l0]) (by exact Ev.neg (by omega) (Ev.now _)))
    l c hc (by omega)
  exact ⟨m, ys, by omega, h1, h2⟩
theorem l1In_some (x lo hi : Int) : spec_l1In.f x lo hi = some (decide (lo ≤ x ∧ x ≤ hi)) := by
  unfold spec_l1In.f
  by_cases h1 : lo ≤ x
  · by_cases h2 : x ≤ hi
    · simp [h1, h2]
    · simp [h1, h2]
  · simp [h1]
/-! ### Pieces of a chunk -/
theorem last_len (out : List S43) (a : S43) (h : out.length ≤ 100000) : wrap64 (((out ++ [a]).length : Int) - 1) = (out.length : Int) := by
  have : (out ++ [a]).length = out.length + 1 := by rw [List.length_append]; rfl
  rw [this, wrap64_id (by omega) (by omega)]; omega
theorem last_rd (out : List S43) (a : S43) : rd_T43 (out ++ [a]) (out.length : Int) = a := by
  have h : out.length < (out ++ [a]).length := by rw [List.length_append]; simp
  have e : rd_T43 (out ++ [a]) (out.length : Int) = (out ++ [a])[out.length] := getD_eq h
  rw [e]; simp
theorem last_set (out : List S43) (a b : S43) : (out ++ [a]).set (out.length : Int).toNat b = out ++ [b] := by
  rw [Int.toNat_natCast]; simp
def pieceOk (r : List S43) : Prop := r.length ≤ 2001 ∧ ∀ x ∈ r, x.f0.length ≤ 2000
theorem impl_cut_step (l : List S41) (hl : l.length ≤ 2000) (rows : Int) (i : Nat) (hi : i < l.length) (out : List S43) (now : List S41) (n n' : Int) (r : List S43) (ho : out.length ≤ 2000) (hn : now.length ≤ 2000)
    (hc : ((l[i]).f0 = 0 ∧ n ≠ rows ∧ wrap64 (n + 1) = n') ∨ ((l[i]).f0 ≠ 0 ∧ n = n'))
    (hr : Ev (fun k => impl_ChunkCut.l0 k rows (out ++ [(⟨now ++ [l[i]]⟩ : S43)]) n' l (l.length : Int) ((i + 1 : Nat) : Int)) r) :
    Ev (fun k => impl_ChunkCut.l0 k rows (out ++ [(⟨now⟩ : S43)]) n l (l.length : Int) (i : Int)) r := by
  have e : rd_T41 l (i : Int) = l[i] := getD_eq hi
  have hw : wrap64 ((i : Int) + 1) = ((i + 1 : Nat) : Int) := by rw [wrap64_id (by omega) (by omega)]; omega
  have hlen : (out ++ [(⟨now⟩ : S43)]).length = out.length + 1 := by rw [List.length_append]; rfl
  refine Ev.step (fun k => by rw [impl_ChunkCut.l0]) ?_
  rw [e, hw, last_len _ _ (by omega), last_rd, last_set]
  refine Ev.pos (by omega) (Ev.pos (by omega) (Ev.pos (by omega) ?_))
  rcases hc with ⟨h0, h1, h2⟩ | ⟨h0, h2⟩
  · rw [h2]
    exact Ev.pos h0 (Ev.neg h1 (Ev.pos (by omega) (Ev.pos (by omega) (Ev.pos (by dsimp only; omega) hr))))
  · rw [← h2] at hr
    exact Ev.neg h0 (Ev.pos (by omega) (Ev.pos (by omega) (Ev.pos (by dsimp only; omega) hr)))
theorem impl_cut_new (l : List S41) (hl : l.length ≤ 2000) (rows : Int) (i : Nat) (hi : i < l.length) (P : List S43) (r : List S43) (ho : P.length ≤ 2001)
    (h0 : (l[i]).f0 = 0) (hr : Ev (fun k => impl_ChunkCut.l0 k rows (P ++ [(⟨[] ++ [l[i]]⟩ : S43)]) (0 + 1) l (l.length : Int) ((i + 1 : Nat) : Int)) r) :
    Ev (fun k => impl_ChunkCut.l0 k rows P rows l (l.length : Int) (i : Int)) r := by
  have e : rd_T41 l (i : Int) = l[i] := getD_eq hi
  have hw : wrap64 ((i : Int) + 1) = ((i + 1 : Nat) : Int) := by rw [wrap64_id (by omega) (by omega)]; omega
  have hlen : (P ++ [(⟨[]⟩ : S43)]).length = P.length + 1 := by rw [List.length_append]; rfl
  refine Ev.step (fun k => by rw [impl_ChunkCut.l0]) ?_
  rw [e, hw]
  refine Ev.pos (by omega) (Ev.pos (by omega) (Ev.pos (by omega) (Ev.pos h0 (Ev.pos rfl (Ev.pos (by omega) (Ev.here rfl ?_))))))
  rw [last_len _ _ (by omega), last_rd, last_set]
  exact Ev.pos (by omega) (Ev.pos (by omega) (Ev.pos (by simp) hr))
theorem cut_loop (l : List S41) (hl : l.length ≤ 2000) (rows : Int) : ∀ (m i : Nat) (out : List S43) (now : List S41) (n : Int), i + m = l.length → out.length ≤ i → now.length ≤ i → (∀ x ∈ out, x.f0.length ≤ 2000) → 0 ≤ n → n ≤ i →
    ∃ r, Ev (fun k => spec_ChunkCut.l0 k l rows out now n (i : Int)) r ∧ Ev (fun k => impl_ChunkCut.l0 k rows (out ++ [(⟨now⟩ : S43)]) n l (l.length : Int) (i : Int)) r ∧ pieceOk r := by
  intro m
  induction m with
  | zero =>
    intro i out now n hi ho hn hx n0 n1
    refine ⟨out ++ [⟨now⟩], ?_, ?_, ?_, ?_⟩
    · refine Ev.step (fun k => by rw [spec_ChunkCut.l0]) ?_
      exact Ev.neg (by omega) (Ev.pos (by omega) (Ev.now _))
    · refine Ev.step (fun k => by rw [impl_ChunkCut.l0]) ?_
      exact Ev.neg (by omega) (Ev.now _)
    · rw [List.length_append, List.length_singleton]; omega
    · intro x h
      rcases List.mem_append.1 h with h | h
      · exact hx x h
      · rw [List.mem_singleton.1 h]; dsimp only; omega
  | succ m ih =>
    intro i out now n hi ho hn hx n0 n1
    have hil : i < l.length := by omega
    have e : rd_T41 l (i : Int) = l[i] := getD_eq hil
    have hw : wrap64 ((i : Int) + 1) = ((i + 1 : Nat) : Int) := by rw [wrap64_id (by omega) (by omega)]; omega
    have hwn : wrap64 (n + 1) = n + 1 := wrap64_id (by omega) (by omega)
    have hnl : (now ++ [l[i]]).length = now.length + 1 := by rw [List.length_append]; rfl
    by_cases h0 : (l[i]).f0 = 0
    · by_cases h1 : n = rows
      · have hol : (out ++ [(⟨now⟩ : S43)]).length = out.length + 1 := by rw [List.length_append]; rfl
        obtain ⟨r, g1, g2, g3⟩ := ih (i + 1) (out ++ [⟨now⟩]) ([] ++ [l[i]]) (0 + 1) (by omega) (by omega) (by rw [List.length_append]; simp) (by
          intro x h
          rcases List.mem_append.1 h with h | h
          · exact hx x h
          · rw [List.mem_singleton.1 h]; dsimp only; omega) (by omega) (by omega)
        refine ⟨r, ?_, ?_, g3⟩
        · refine Ev.step (fun k => by rw [spec_ChunkCut.l0]) ?_
          rw [e, hw]
          exact Ev.pos (by omega) (Ev.pos (by omega) (Ev.pos h0 (Ev.pos h1 (Ev.pos (by omega) (Ev.here rfl (Ev.pos (by simp) g1))))))
        · rw [h1]
          exact impl_cut_new l hl rows i hil _ r (by omega) h0 g2
      · obtain ⟨r, g1, g2, g3⟩ := ih (i + 1) out (now ++ [l[i]]) (n + 1) (by omega) (by omega) (by omega) hx (by omega) (by omega)
        refine ⟨r, ?_, impl_cut_step l hl rows i hil out now n (n + 1) r (by omega) (by omega) (.inl ⟨h0, h1, hwn⟩) g2, g3⟩
        refine Ev.step (fun k => by rw [spec_ChunkCut.l0]) ?_
        rw [e, hw, hwn]
        exact Ev.pos (by omega) (Ev.pos (by omega) (Ev.pos h0 (Ev.neg h1 (Ev.pos (by omega) g1))))
    · obtain ⟨r, g1, g2, g3⟩ := ih (i + 1) out (now ++ [l[i]]) n (by omega) (by omega) (by omega) hx (by omega) (by omega)
      refine ⟨r, ?_, impl_cut_step l hl rows i hil out now n n r (by omega) (by omega) (.inr ⟨h0, rfl⟩) g2, g3⟩
      refine Ev.step (fun k => by rw [spec_ChunkCut.l0]) ?_
      rw [e, hw]
      exact Ev.pos (by omega) (Ev.pos (by omega) (Ev.neg h0 (Ev.pos (by omega) g1)))
theorem ChunkCut_both (l : List S41) (hl : l.length ≤ 1048576) (rows : Int) : ∃ r, Ev (fun k => spec_ChunkCut.f k l rows) r ∧ Ev (fun k => impl_ChunkCut.f k l rows) r ∧ pieceOk r := by
  have none_ok : pieceOk ([] : List S43) := ⟨by simp, fun x h => absurd h (by simp)⟩
  have sj : Ev (fun k => spec_ChunkCut.j0 k l rows ([] : List S43) true) [] := Ev.step (fun k => by rw [spec_ChunkCut.j0]) (by exact Ev.pos rfl (Ev.now _))
  have ij : Ev (fun k => impl_ChunkCut.j0 k l rows true) [] := Ev.step (fun k => by rw [impl_ChunkCut.j0]) (by exact Ev.pos rfl (Ev.now _))
  unfold spec_ChunkCut.f impl_ChunkCut.f
  by_cases h1 : rows < 1
  · exact ⟨[], Ev.here rfl (Ev.pos h1 sj), Ev.pos h1 ij, none_ok⟩
  by_cases h2 : (l.length : Int) = 0
  · refine ⟨[], Ev.here rfl (Ev.neg h1 (Ev.here (l1In_some _ _ _) ?_)), Ev.neg h1 (Ev.pos h2 ij), none_ok⟩
    rw [decide_eq_false (show ¬ (1 ≤ (l.length : Int) ∧ (l.length : Int) ≤ 2000) by omega)]
    exact Ev.neg Bool.false_ne_true sj
  by_cases h4 : (l.length : Int) > 2000
  · have hs : Ev (fun k => (spec_l1In.f (l.length : Int) 1 2000).bind fun t => if t = true then (if 0 < (l.length : Int) then spec_ChunkCut.j0 k l rows ([] : List S43) (((rd_T41 l 0).f0) != 0) else none) else spec_ChunkCut.j0 k l rows [] true) [] := by
      refine Ev.here (l1In_some _ _ _) ?_
      rw [decide_eq_false (show ¬ (1 ≤ (l.length : Int) ∧ (l.length : Int) ≤ 2000) by omega)]
      exact Ev.neg Bool.false_ne_true sj
    refine ⟨[], Ev.here rfl (Ev.neg h1 hs), Ev.neg h1 (Ev.neg h2 (Ev.pos (by omega) ?_)), none_ok⟩
    by_cases h3 : (rd_T41 l 0).f0 = 0
    · refine Ev.pos h3 ?_
      rw [decide_eq_true h4]; exact ij
    · exact Ev.neg h3 ij
  have hd : decide (1 ≤ (l.length : Int) ∧ (l.length : Int) ≤ 2000) = true := decide_eq_true (by omega)
  by_cases h3 : (rd_T41 l 0).f0 = 0
  · have hl0 : 0 < l.length := by omega
    have e0 : rd_T41 l ((0 : Nat) : Int) = l[0] := getD_eq hl0
    have h30 : (l[0]).f0 = 0 := by rw [← e0]; exact h3
    have hw : wrap64 (((0 : Nat) : Int) + 1) = ((0 + 1 : Nat) : Int) := by decide +kernel
    obtain ⟨r, g1, g2, g3⟩ := cut_loop l (by omega) rows (l.length - 1) (0 + 1) [] ([] ++ [l[0]]) (0 + 1) (by omega) (by simp) (by simp) (fun x h => absurd h (by simp)) (by omega) (by omega)
    refine ⟨r, Ev.here rfl (Ev.neg h1 (Ev.here (l1In_some _ _ _) ?_)), Ev.neg h1 (Ev.neg h2 (Ev.pos (by omega) (Ev.pos h3 ?_))), g3⟩
    · rw [hd]
      refine Ev.pos rfl (Ev.pos (by omega) ?_)
      rw [show (((rd_T41 l 0).f0) != 0) = false from bne_eq_false_iff_eq.mpr h3]
      refine Ev.step (fun k => by rw [spec_ChunkCut.j0]) (Ev.neg Bool.false_ne_true ?_)
      have hz : Ev (fun k => spec_ChunkCut.l0 k l rows [] ([] : List S41) 0 ((0 : Nat) : Int)) r := by
        refine Ev.step (fun k => by rw [spec_ChunkCut.l0]) ?_
        rw [e0, hw, show wrap64 ((0 : Int) + 1) = 0 + 1 by decide +kernel]
        exact Ev.pos (by omega) (Ev.pos (by omega) (Ev.pos h30 (Ev.neg (by omega) (Ev.pos (by simp) g1))))
      exact hz
    · rw [decide_eq_false h4]
      refine Ev.step (fun k => by rw [impl_ChunkCut.j0]) (Ev.neg Bool.false_ne_true ?_)
      have hz := impl_cut_new l (by omega) rows 0 hl0 [] r (by simp) h30 g2
      exact hz
  · refine ⟨[], Ev.here rfl (Ev.neg h1 (Ev.here (l1In_some _ _ _) ?_)), Ev.neg h1 (Ev.neg h2 (Ev.pos (by omega) (Ev.neg h3 ij))), none_ok⟩
    rw [hd]
    refine Ev.pos rfl (Ev.pos (by omega) ?_)
    rw [show (((rd_T41 l 0).f0) != 0) = true from bne_iff_ne.mpr h3]
    exact sj
/-! ### Rows of rows: likeness and marks -/
theorem eqColumnS_ev (l : List S43) (hl : pieceOk l) : Ev (fun k => laws_eqColumnS.f k l l) true := by
  unfold laws_eqColumnS.f
  have h1 := hl.1
  refine Ev.pos rfl ?_
  refine same_loop (fun k i => laws_eqColumnS.l0 k l l i) l.length (fun i r h hr => ?_) ?_
  · have e : rd_T43 l (i : Int) = l[i] := getD_eq h
    have hq := eqTripleS_ev (l[i]).f0 (by have := hl.2 _ (List.getElem_mem h); omega)
    refine Ev.step (fun k => by rw [laws_eqColumnS.l0]) ?_
    rw [e, wrap64_id (x := (i : Int) + 1) (by omega) (by omega)]
    refine Ev.pos (by omega) (Ev.pos (by omega) (Ev.pos (by omega) (Ev.bind (a := true) ?_ (Ev.pos rfl hr))))
    unfold laws_eqColumn.f
    exact Ev.bind hq (Ev.pos rfl (Ev.now _))
  · refine Ev.step (fun k => by rw [laws_eqColumnS.l0]) ?_
    exact Ev.neg (by omega) (Ev.now _)
theorem mark_cols : ∀ (m i : Nat) (xs : List S43) (c : Int), i + m = xs.length → xs.length ≤ 2001 → (∀ j x, i ≤ j → xs[j]? = some x → x.f0.length ≤ 2000) → 0 ≤ c → c + 8000 * m ≤ 1000000000 →
    ∃ c' ys, c ≤ c' ∧ Ev (fun k => laws_markColumnS.l0 k xs c (i : Int)) (c', ys) ∧ ys.length = xs.length ∧ (∀ j, j < i → ys[j]? = xs[j]?) ∧ Ev (fun k => laws_heldColumnS.l0 k ys c (i : Int)) c' := by
  intro m
  induction m with
  | zero =>
    intro i xs c hi hl hx c0 c1
    refine ⟨c, xs, by omega, ?_, rfl, fun j _ => rfl, ?_⟩
    · refine Ev.step (fun k => by rw [laws_markColumnS.l0]) ?_
      exact Ev.neg (by omega) (Ev.now _)
    · refine Ev.step (fun k => by rw [laws_heldColumnS.l0]) ?_
      exact Ev.neg (by omega) (Ev.now _)
  | succ m ih =>
    intro i xs c hi hl hx c0 c1
    have hil : i < xs.length := by omega
    have e : rd_T43 xs (i : Int) = xs[i] := getD_eq hil
    have hw : wrap64 ((i : Int) + 1) = ((i + 1 : Nat) : Int) := by rw [wrap64_id (by omega) (by omega)]; omega
    have hlen := hx i _ (Nat.le_refl _) (List.getElem?_eq_getElem hil)
    obtain ⟨m1, ys1, hm1, k1, k2⟩ := markTripleS_ev (xs[i]).f0 c c0 (by omega)
    have hsl : (xs.set i (⟨ys1⟩ : S43)).length = xs.length := List.length_set
    obtain ⟨c', ys, g0, g1, g2, g3, g4⟩ := ih (i + 1) (xs.set i (⟨ys1⟩ : S43)) m1 (by omega) (by omega) (fun j x hj hjx => hx j x (by omega) (by rw [List.getElem?_set_ne (by omega)] at hjx; exact hjx)) (by omega) (by omega)
    refine ⟨c', ys, by omega, ?_, by omega, fun j hj => by rw [g3 j (by omega), List.getElem?_set_ne (by omega)], ?_⟩
    · refine Ev.step (fun k => by rw [laws_markColumnS.l0]) ?_
      rw [e, hw, Int.toNat_natCast]
      exact Ev.pos (by omega) (Ev.pos (by omega) (Ev.bind k1 g1))
    · have hyl : i < ys.length := by omega
      have ey : ys[i]? = some (⟨ys1⟩ : S43) := by rw [g3 i (by omega), List.getElem?_set_self hil]
      have e2 : rd_T43 ys (i : Int) = (⟨ys1⟩ : S43) := by
        have : rd_T43 ys (i : Int) = ys[i] := getD_eq hyl
        rw [this]
        rw [List.getElem?_eq_getElem hyl] at ey
        exact Option.some.inj ey
      refine Ev.step (fun k => by rw [laws_heldColumnS.l0]) ?_
      rw [e2, hw]
      exact Ev.pos (by omega) (Ev.pos (by omega) (Ev.bind k2 (Ev.neg (by omega) g4)))
theorem markColumnS_ev (l : List S43) (hl : pieceOk l) : ∃ m ys, 0 ≤ m ∧ Ev (fun k => laws_markColumnS.f k l 1) (m, ys) ∧ Ev (fun k => laws_heldColumnS.f k ys 1) m := by
  have h1 := hl.1
  obtain ⟨c', ys, g0, g1, g2, _, g4⟩ := mark_cols l.length 0 l 1 (by omega) (by omega) (fun j x _ hj => hl.2 x (List.mem_of_getElem? hj)) (by omega) (by omega)
  exact ⟨c', ys, by omega, g1, g4⟩
theorem FnExactChunkCut : ∀ (x0 : List (S37)) (x1 : Int), (x0.length ≤ maxLen ∧ ∀ y ∈ x0, w37 y) → ((Lit.int .i64 x1).wf = true) → ∃ k, laws_FnExactChunkCut.f k x0 x1 = some true := by
  intro p t hp _
  refine Ev.rounds ?_
  unfold laws_FnExactChunkCut.f
  obtain ⟨r1, s1, c1, l1⟩ := szTripleS_ev p hp.1 hp.2 1048576 (by omega) (by omega)
  refine Ev.bind s1 ?_
  by_cases n1 : r1 < 0
  · exact Ev.pos n1 (Ev.now _)
  refine Ev.neg n1 ?_
  have t1 := toTripleS_ev p (by omega)
  have lp : (p.map cvTriple).length = p.length := by simp
  generalize p.map cvTriple = P at *
  obtain ⟨r, es, ei, hr⟩ := ChunkCut_both P (by omega) t
  have q1 := eqTripleS_ev P (by omega)
  have q3 := eqColumnS_ev r hr
  obtain ⟨m1, y1, p1, k1, _⟩ := markTripleS_ev P 1 (by omega) (by omega)
  obtain ⟨m3, y3, p3, k3, k4⟩ := markColumnS_ev r hr
  repeat' (first
    | with_reducible exact Ev.now _
    | with_reducible refine Ev.bind t1 ?_ | with_reducible refine Ev.bind es ?_ | with_reducible refine Ev.bind ei ?_
    | with_reducible refine Ev.bind q1 ?_ | with_reducible refine Ev.bind q3 ?_
    | with_reducible refine Ev.bind k1 ?_ | with_reducible refine Ev.bind k3 ?_ | with_reducible refine Ev.bind k4 ?_
    | refine Ev.pos (by first | rfl | omega) ?_
    | refine Ev.neg (by first | omega | decide | simp) ?_
    | refine Ev.step (fun k => by rw [laws_FnExactChunkCut.j0]) ?_)
end Go.Proofs.Ytcnfnjfbacmmaaa.Pure
