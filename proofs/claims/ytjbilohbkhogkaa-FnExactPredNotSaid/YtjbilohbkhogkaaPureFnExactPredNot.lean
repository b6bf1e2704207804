/- The pure statement of FnExactPredNot: the printed functions answer as the law says, for all arguments. No condition. -/
import Derived.Test.YtjbilohbkhogkaaCore
import Derived.Test.YtjbilohbkhogkaaPFnExactPredNotx
import Derived.Test.YtjbilohbkhogkaaArgFnExactPredNot
namespace Go.Proofs.Ytjbilohbkhogkaa.Pure
open Go.RowKit Go.Proofs.Ytjbilohbkhogkaa.PFnExactPredNot Go.Proofs.Ytjbilohbkhogkaa.Core Go.Proofs.YtjbilohbkhogkaaW.PrintWords Go.Proofs.YtjbilohbkhogkaaW.PrintLast Go.Proofs.YtjbilohbkhogkaaW.PrintMore Go.Proofs.Ytjbilohbkhogkaa.AFnExactPredNot
set_option linter.unusedVariables false
set_option linter.unusedSimpArgs false
def cvVal (x : S103) : S101 := ⟨x.f0, x.f1⟩
def cvPred (x : S116) : S118 := ⟨x.f0, x.f1, cvVal x.f2, x.f3, x.f4⟩
theorem toPredS_ev (l : List S116) (hl : l.length ≤ 1048576) : Ev (fun k => laws_toPredS.f k l) (l.map cvPred) := by
  unfold laws_toPredS.f
  refine Ev.pos (by omega) (Ev.pos (by omega) ?_)
  refine copy_loop (fun k out i => laws_toPredS.l0 k l out i) l cvPred (fun out i r h ho hr => ?_) (fun out ho => ?_) (List.replicate ((l.length : Int)).toNat z118) (by simp)
  · refine Ev.step (fun k => by rw [laws_toPredS.l0]) ?_
    refine Ev.pos (by omega) (Ev.pos (by omega) (Ev.here rfl (Ev.pos (by omega) ?_)))
    rw [wrap64_id (by omega) (by omega)]
    have e : rd_T116 l (i : Int) = l[i] := getD_eq (by simpa using h)
    simp only [e]
    simpa [cvVal, cvPred] using hr
  · exact Ev.step (fun k => by rw [laws_toPredS.l0]) (by exact Ev.neg (by omega) (Ev.now _))
theorem szPred_some (x : S116) (hw : w116 x) (c : Int) (h0 : 0 ≤ c) (h1 : c ≤ 1048576) : ∃ r, laws_szPred.f x.f0 x.f1 x.f2.f0 x.f2.f1 x.f3 x.f4 c = some r ∧ r ≤ c := by
  have b0 : (x.f2.f1.size : Int) ≤ 9223372036854775807 := by have := hw.2.2.1.2; unfold maxLen at this; omega
  unfold laws_szPred.f laws_szVal.f
  rw [wrap64_id (x := c - (x.f2.f1.size : Int)) (by omega) (by omega)]
  by_cases n0 : c - (x.f2.f1.size : Int) < 0
  · exact ⟨-1, by simp [n0], by omega⟩
  simp only [if_neg n0, Option.bind_some]
  exact ⟨_, rfl, by omega⟩
theorem szPredS_ev (l : List S116) (hw : l.length ≤ maxLen) (ht : ∀ x ∈ l, w116 x) (c : Int) (h0 : 0 ≤ c) (h1 : c ≤ 1048576) : ∃ r, Ev (fun k => laws_szPredS.f k l c) r ∧ r ≤ c ∧ (0 ≤ r → r + l.length ≤ c) := by
  have hm : l.length ≤ 9223372036854775807 := by unfold maxLen at hw; omega
  unfold laws_szPredS.f
  rw [wrap64_id (by omega) (by omega)]
  by_cases hn : c - (l.length : Int) < 0
  · exact ⟨-1, Ev.pos hn (Ev.now _), by omega, by omega⟩
  · obtain ⟨r, hr, hrc⟩ := budget_loop (fun k c i => laws_szPredS.l0 k l c i) l.length (fun c i hc0 hc1 hi => by
      have e : rd_T116 l (i : Int) = l[i] := getD_eq (by simpa using hi)
      obtain ⟨c', hc', hle⟩ := szPred_some l[i] (ht l[i] (List.getElem_mem hi)) c hc0 hc1
      refine ⟨c', hle, fun hneg => ?_, fun hpos r hr => ?_⟩
      · exact Ev.step (fun k => by rw [laws_szPredS.l0]) (by exact Ev.pos (by omega) (Ev.pos (by omega) (Ev.here (by rw [e]; exact hc') (Ev.pos hneg (Ev.now _)))))
      · refine Ev.step (fun k => by rw [laws_szPredS.l0]) ?_
        refine Ev.pos (by omega) (Ev.pos (by omega) (Ev.here (by rw [e]; exact hc') (Ev.neg (by omega) ?_)))
        rw [wrap64_id (by omega) (by omega)]
        simpa using hr)
      (fun c => Ev.step (fun k => by rw [laws_szPredS.l0]) (by exact Ev.neg (by omega) (Ev.now _))) (c - l.length) (by omega) (by omega)
    exact ⟨r, Ev.neg hn hr, by omega, by omega⟩
theorem eqPred_ev (a : S118) : laws_eqPred.f a.f0 a.f1 a.f2.f0 a.f2.f1 a.f3 a.f4 a.f0 a.f1 a.f2.f0 a.f2.f1 a.f3 a.f4 = some true := by
  unfold laws_eqPred.f laws_eqVal.f
  simp
theorem eqPredS_ev (l : List S118) (hl : l.length ≤ 9223372036854775806) : Ev (fun k => laws_eqPredS.f k l l) true := by
  unfold laws_eqPredS.f
  refine Ev.pos rfl ?_
  refine same_loop (fun k i => laws_eqPredS.l0 k l l i) l.length (fun i r h hr => ?_) ?_
  · refine Ev.step (fun k => by rw [laws_eqPredS.l0]) ?_
    refine Ev.pos (by omega) (Ev.pos (by omega) (Ev.pos (by omega) (Ev.here (eqPred_ev _) (Ev.pos rfl ?_))))
    rw [wrap64_id (by omega) (by omega)]
    simpa using hr
  · exact Ev.step (fun k => by rw [laws_eqPredS.l0]) (by exact Ev.neg (by omega) (Ev.now _))
theorem markText_l0_ev : ∀ (n : Nat) (c : Int) (out : ByteArray), 0 ≤ c → c < 10 ^ n → c ≤ 9223372036854775807 → out.size + n + 1 ≤ 1000 → ∃ t, Ev (fun k => laws_markText.l0 k c out) t := by
  intro n
  induction n with
  | zero =>
    intro c out h0 h1 hb hs
    obtain rfl : c = 0 := by simp at h1; omega
    exact ⟨_, Ev.step (fun k => by rw [laws_markText.l0]) (by exact Ev.neg (by omega) (Ev.pos (by omega) (Ev.now _)))⟩
  | succ n ih =>
    intro c out h0 h1 hb hs
    by_cases hc : c > 0
    · have h2 : c / 10 < 10 ^ n := by
        rw [Int.pow_succ] at h1
        exact Int.ediv_lt_of_lt_mul (by omega) h1
      obtain ⟨t, ht⟩ := ih (c / 10) (strOfNums [(wrap64 (48 + (Int.tmod c 10))) % 256] ++ out) (by omega) h2 (by omega) (by
        rw [ByteArray.size_append, strOfNums_size]; simp; omega)
      refine ⟨t, Ev.step (fun k => by rw [laws_markText.l0]) ?_⟩
      refine Ev.pos hc (Ev.here rfl (Ev.pos (by rw [strOfNums_size]; simp; omega) ?_))
      rw [Int.tdiv_eq_ediv_of_nonneg h0, wrap64_id (x := c / 10) (by omega) (by omega)]
      exact ht
    · obtain rfl : c = 0 := by omega
      exact ⟨_, Ev.step (fun k => by rw [laws_markText.l0]) (by exact Ev.neg (by omega) (Ev.pos (by omega) (Ev.now _)))⟩
theorem markText_ev (c : Int) (h : c ≤ 9223372036854775807) : ∃ t, Ev (fun k => laws_markText.f k c) t := by
  unfold laws_markText.f
  by_cases hc : c ≤ 0
  · exact ⟨_, Ev.pos hc (Ev.now _)⟩
  · obtain ⟨t, ht⟩ := markText_l0_ev 19 c (⟨#[]⟩ : ByteArray) (by omega) (by omega) h (by decide)
    exact ⟨t, Ev.neg hc ht⟩
noncomputable def mtxt (c : Int) : ByteArray := if h : c ≤ 9223372036854775807 then (markText_ev c h).choose else ByteArray.empty
theorem mtxt_ev {c : Int} (h : c ≤ 9223372036854775807) : Ev (fun k => laws_markText.f k c) (mtxt c) := by
  unfold mtxt
  rw [dif_pos h]
  exact (markText_ev c h).choose_spec
theorem markPredS_ev (l : List S118) (c : Int) (hc : 0 ≤ c) (hl : c + 6 * l.length ≤ 9223372036854775806) : ∃ m ys, m = c + 6 * l.length ∧ Ev (fun k => laws_markPredS.f k l c) (m, ys) ∧ Ev (fun k => laws_heldPredS.f k ys c) m := by
  obtain ⟨m, ys, _, hm, h1, h2⟩ := marks_held 6 9223372036854775807 (by omega) (fun c (_ : S118) => (⟨c, c + 1, (⟨c + 1 + 1, mtxt (c + 1 + 1 + 1)⟩ : S101), c + 1 + 1 + 1 + 1, c + 1 + 1 + 1 + 1 + 1⟩ : S118)) (fun k xs c i => laws_markPredS.l0 k xs c i) (fun k xs c i => laws_heldPredS.l0 k xs c i)
    (fun xs c i r h hb h0 hB hr => by
      refine Ev.step (fun k => by rw [laws_markPredS.l0]) ?_
      refine Ev.pos (by omega) (Ev.pos (by omega) ?_)
      rw [wrap64_id (x := c + 1) (by omega) (by omega), wrap64_id (x := c + 1 + 1) (by omega) (by omega), wrap64_id (x := c + 1 + 1 + 1) (by omega) (by omega), wrap64_id (x := c + 1 + 1 + 1 + 1) (by omega) (by omega), wrap64_id (x := c + 1 + 1 + 1 + 1 + 1) (by omega) (by omega), wrap64_id (x := c + 1 + 1 + 1 + 1 + 1 + 1) (by omega) (by omega), wrap64_id (x := (i : Int) + 1) (by omega) (by omega)]
      refine Ev.here rfl ?_
      refine Ev.here rfl ?_
      refine Ev.here rfl ?_
      refine Ev.bind (mtxt_ev (by omega)) ?_
      refine Ev.here rfl ?_
      refine Ev.here rfl ?_
      have e : c + 1 + 1 + 1 + 1 + 1 + 1 = c + 6 := by omega
      simpa [rd_T118, h, e] using hr)
    (fun xs c => Ev.step (fun k => by rw [laws_markPredS.l0]) (by exact Ev.neg (by omega) (Ev.now _)))
    (fun xs c i r z h hb h0 hB hz hr => by
      have e : rd_T118 xs (i : Int) = xs[i] := getD_eq (by simpa using h)
      refine Ev.step (fun k => by rw [laws_heldPredS.l0]) ?_
      refine Ev.pos (by omega) (Ev.pos (by omega) ?_)
      rw [wrap64_id (x := c + 1) (by omega) (by omega), wrap64_id (x := c + 1 + 1) (by omega) (by omega), wrap64_id (x := c + 1 + 1 + 1) (by omega) (by omega), wrap64_id (x := c + 1 + 1 + 1 + 1) (by omega) (by omega), wrap64_id (x := c + 1 + 1 + 1 + 1 + 1) (by omega) (by omega), wrap64_id (x := c + 1 + 1 + 1 + 1 + 1 + 1) (by omega) (by omega), wrap64_id (x := (i : Int) + 1) (by omega) (by omega)]
      refine Ev.pos (by rw [e, hz]) ?_
      refine Ev.pos (by rw [e, hz]) ?_
      refine Ev.pos (by rw [e, hz]) ?_
      refine Ev.bind (mtxt_ev (by omega)) (Ev.pos (by rw [e, hz]) ?_)
      refine Ev.pos (by rw [e, hz]) ?_
      refine Ev.pos (by rw [e, hz]) ?_
      have e : c + 1 + 1 + 1 + 1 + 1 + 1 = c + 6 := by omega
      simpa [e] using hr)
    (fun xs c => Ev.step (fun k => by rw [laws_heldPredS.l0]) (by exact Ev.neg (by omega) (Ev.now _)))
    l c hc (by omega)
  exact ⟨m, ys, by omega, h1, h2⟩
theorem predNot_both (l : List S118) (hl : l.length ≤ 1048576) : ∃ r : List S118 × Bool, spec_PredNot.f l = some r ∧ impl_PredNot.f l = some r ∧ r.1.length ≤ 31 := by
  have e : impl_PredNot.f l = spec_PredNot.f l := rfl
  rw [e]
  unfold spec_PredNot.f
  by_cases h0 : (l.length : Int) = 0
  · rw [if_pos h0]; exact ⟨_, rfl, rfl, by simp⟩
  rw [if_neg h0, wrap64_id (x := (l.length : Int) + 1) (by omega) (by omega)]
  by_cases h1 : (l.length : Int) + 1 > 31
  · rw [if_pos h1]; exact ⟨_, rfl, rfl, by simp⟩
  rw [if_neg h1]
  simp only [Option.bind_some]
  rw [if_pos (by simp; omega), if_pos (by simp; omega)]
  exact ⟨_, rfl, rfl, by simp; omega⟩
theorem FnExactPredNot : ∀ (x0 : List (S116)), (x0.length ≤ maxLen ∧ ∀ y ∈ x0, w116 y) → ∃ k, laws_FnExactPredNot.f k x0 = some true := by
  intro l hx
  refine Ev.rounds ?_
  unfold laws_FnExactPredNot.f
  obtain ⟨r1, s1, c1, l1⟩ := szPredS_ev l hx.1 hx.2 1048576 (by omega) (by omega)
  refine Ev.bind s1 ?_
  by_cases n1 : r1 < 0
  · exact Ev.pos n1 (Ev.now _)
  refine Ev.neg n1 ?_
  have t1 := toPredS_ev l (by omega)
  obtain ⟨r, es, ei, hr⟩ := predNot_both (l.map cvPred) (by simp; omega)
  have q1 := eqPredS_ev (l.map cvPred) (by simp; omega)
  have q2 := eqPredS_ev r.1 (by omega)
  obtain ⟨m1, y1, p1, k1, _⟩ := markPredS_ev (l.map cvPred) 1 (by omega) (by simp; omega)
  obtain ⟨m2, y2, p2, k2, k3⟩ := markPredS_ev r.1 1 (by omega) (by omega)
  simp only [List.length_map] at p1
  repeat' (first
    | with_reducible exact Ev.now _
    | with_reducible refine Ev.bind t1 ?_ | with_reducible refine Ev.here es ?_ | with_reducible refine Ev.here ei ?_
    | with_reducible refine Ev.bind q1 ?_ | with_reducible refine Ev.bind q2 ?_
    | with_reducible refine Ev.bind k1 ?_ | with_reducible refine Ev.bind k2 ?_ | with_reducible refine Ev.bind k3 ?_
    | refine Ev.pos (by first | rfl | omega) ?_
    | refine Ev.neg (by first | omega | decide | simp) ?_
    | refine Ev.step (fun k => by rw [laws_FnExactPredNot.j0]) ?_
    | refine Ev.step (fun k => by rw [laws_FnExactPredNot.j1]) ?_
    | refine Ev.step (fun k => by rw [laws_FnExactPredNot.j2]) ?_)
end Go.Proofs.Ytjbilohbkhogkaa.Pure
