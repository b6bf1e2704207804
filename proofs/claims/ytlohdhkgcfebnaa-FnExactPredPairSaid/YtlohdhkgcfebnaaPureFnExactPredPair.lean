/- The pure statement of FnExactPredPair: the printed functions answer as the law says, for all arguments. No condition. -/
import Derived.Test.YtlohdhkgcfebnaaCore
import Derived.Test.YtlohdhkgcfebnaaPFnExactPredPairx
import Derived.Test.YtlohdhkgcfebnaaArgFnExactPredPair
namespace Go.Proofs.Ytlohdhkgcfebnaa.Pure
open Go.RowKit Go.Proofs.Ytlohdhkgcfebnaa.PFnExactPredPair Go.Proofs.Ytlohdhkgcfebnaa.Core Go.Proofs.YtlohdhkgcfebnaaW.PrintWords Go.Proofs.YtlohdhkgcfebnaaW.PrintLast Go.Proofs.YtlohdhkgcfebnaaW.PrintMore Go.Proofs.Ytlohdhkgcfebnaa.AFnExactPredPair
set_option linter.unusedVariables false
set_option linter.unusedSimpArgs false
def cvVal (x : S112) : S83 := ⟨x.f0, x.f1⟩
def cvPred (x : S114) : S117 := ⟨x.f0, x.f1, cvVal x.f2, x.f3, x.f4⟩
theorem toPredS_ev (l : List S114) (hl : l.length ≤ 1048576) : Ev (fun k => laws_toPredS.f k l) (l.map cvPred) := by
  unfold laws_toPredS.f
  refine Ev.pos (by omega) (Ev.pos (by omega) ?_)
  refine copy_loop (fun k out i => laws_toPredS.l0 k l out i) l cvPred (fun out i r h ho hr => ?_) (fun out ho => ?_) (List.replicate ((l.length : Int)).toNat z117) (by simp)
  · refine Ev.step (fun k => by rw [laws_toPredS.l0]) ?_
    refine Ev.pos (by omega) (Ev.pos (by omega) (Ev.here rfl (Ev.pos (by omega) ?_)))
    rw [wrap64_id (by omega) (by omega)]
    have e : rd_T114 l (i : Int) = l[i] := getD_eq (by simpa using h)
    simp only [e]
    simpa [cvVal, cvPred] using hr
  · exact Ev.step (fun k => by rw [laws_toPredS.l0]) (by exact Ev.neg (by omega) (Ev.now _))
theorem szPred_some (x : S114) (hw : w114 x) (c : Int) (h0 : 0 ≤ c) (h1 : c ≤ 1048576) : ∃ r, laws_szPred.f x.f0 x.f1 x.f2.f0 x.f2.f1 x.f3 x.f4 c = some r ∧ r ≤ c := by
  have b0 : (x.f2.f1.size : Int) ≤ 9223372036854775807 := by have := hw.2.2.1.2; unfold maxLen at this; omega
  unfold laws_szPred.f laws_szVal.f
  rw [wrap64_id (x := c - (x.f2.f1.size : Int)) (by omega) (by omega)]
  by_cases n0 : c - (x.f2.f1.size : Int) < 0
  · exact ⟨-1, by simp [n0], by omega⟩
  simp only [if_neg n0, Option.bind_some]
  exact ⟨_, rfl, by omega⟩
theorem szPredS_ev (l : List S114) (hw : l.length ≤ maxLen) (ht : ∀ x ∈ l, w114 x) (c : Int) (h0 : 0 ≤ c) (h1 : c ≤ 1048576) : ∃ r, Ev (fun k => laws_szPredS.f k l c) r ∧ r ≤ c ∧ (0 ≤ r → r + l.length ≤ c) := by
  have hm : l.length ≤ 9223372036854775807 := by unfold maxLen at hw; omega
  unfold laws_szPredS.f
  rw [wrap64_id (by omega) (by omega)]
  by_cases hn : c - (l.length : Int) < 0
  · exact ⟨-1, Ev.pos hn (Ev.now _), by omega, by omega⟩
  · obtain ⟨r, hr, hrc⟩ := budget_loop (fun k c i => laws_szPredS.l0 k l c i) l.length (fun c i hc0 hc1 hi => by
      have e : rd_T114 l (i : Int) = l[i] := getD_eq (by simpa using hi)
      obtain ⟨c', hc', hle⟩ := szPred_some l[i] (ht l[i] (List.getElem_mem hi)) c hc0 hc1
      refine ⟨c', hle, fun hneg => ?_, fun hpos r hr => ?_⟩
      · exact Ev.step (fun k => by rw [laws_szPredS.l0]) (by exact Ev.pos (by omega) (Ev.pos (by omega) (Ev.here (by rw [e]; exact hc') (Ev.pos hneg (Ev.now _)))))
      · refine Ev.step (fun k => by rw [laws_szPredS.l0]) ?_
        refine Ev.pos (by omega) (Ev.pos (by omega) (Ev.here (by rw [e]; exact hc') (Ev.neg (by omega) ?_)))
        rw [wrap64_id (by omega) (by omega)]
        simpa using hr)
      (fun c => Ev.step (fun k => by rw [laws_szPredS.l0]) (by exact Ev.neg (by omega) (Ev.now _))) (c - l.length) (by omega) (by omega)
    exact ⟨r, Ev.neg hn hr, by omega, by omega⟩
theorem eqPred_ev (a : S117) : laws_eqPred.f a.f0 a.f1 a.f2.f0 a.f2.f1 a.f3 a.f4 a.f0 a.f1 a.f2.f0 a.f2.f1 a.f3 a.f4 = some true := by
  unfold laws_eqPred.f laws_eqVal.f
  simp
theorem eqPredS_ev (l : List S117) (hl : l.length ≤ 9223372036854775806) : Ev (fun k => laws_eqPredS.f k l l) true := by
  unfold laws_eqPredS.f
  refine Ev.pos rfl ?_
  refine same_loop (fun k i => laws_eqPredS.l0 k l l i) l.length (fun i r h hr => ?_) ?_
  · refine Ev.step (fun k => by rw [laws_eqPredS.l0]) ?_
    refine Ev.pos (by omega) (Ev.pos (by omega) (Ev.pos (by omega) (Ev.here (eqPred_ev _) (Ev.pos rfl ?_))))
    rw [wrap64_id (by omega) (by omega)]
    simpa using hr
  · exact Ev.step (fun k => by rw [laws_eqPredS.l0]) (by exact Ev.neg (by omega) (Ev.now _))
theorem markText_l0_ev : ∀ (n : Nat) (c : Int) (out : ByteArray), 0 ≤ c → c < 10 ^ n → c ≤ 9223372036854775807 → out.size + n + 1 ≤ 1000 → ∃ t, Ev (fun k => laws_markText.l0 k c out) t := by
  intro n
  induction n with
  | zero =>
    intro c out h0 h1 hb hs
    obtain rfl : c = 0 := by simp at h1; omega
    exact ⟨_, Ev.step (fun k => by rw [laws_markText.l0]) (by exact Ev.neg (by omega) (Ev.pos (by omega) (Ev.now _)))⟩
  | succ n ih =>
    intro c out h0 h1 hb hs
    by_cases hc : c > 0
    · have h2 : c / 10 < 10 ^ n := by
        rw [Int.pow_succ] at h1
        exact Int.ediv_lt_of_lt_mul (by omega) h1
      obtain ⟨t, ht⟩ := ih (c / 10) (strOfNums [(wrap64 (48 + (Int.tmod c 10))) % 256] ++ out) (by omega) h2 (by omega) (by
        rw [ByteArray.size_append, strOfNums_size]; simp; omega)
      refine ⟨t, Ev.step (fun k => by rw [laws_markText.l0]) ?_⟩
      refine Ev.pos hc (Ev.here rfl (Ev.pos (by rw [strOfNums_size]; simp; omega) ?_))
      rw [Int.tdiv_eq_ediv_of_nonneg h0, wrap64_id (x := c / 10) (by omega) (by omega)]
      exact ht
    · obtain rfl : c = 0 := by omega
      exact ⟨_, Ev.step (fun k => by rw [laws_markText.l0]) (by exact Ev.neg (by omega) (Ev.pos (by omega) (Ev.now _)))⟩
theorem markText_ev (c : Int) (h : c ≤ 9223372036854775807) : ∃ t, Ev (fun k => laws_markText.f k c) t := by
  unfold laws_markText.f
  by_cases hc : c ≤ 0
  · exact ⟨_, Ev.pos hc (Ev.now _)⟩
  · obtain ⟨t, ht⟩ := markText_l0_ev 19 c (⟨#[]⟩ : ByteArray) (by omega) (by omega) h (by decide)
    exact ⟨t, Ev.neg hc ht⟩
noncomputable def mtxt (c : Int) : ByteArray := if h : c ≤ 9223372036854775807 then (markText_ev c h).choose else ByteArray.empty
theorem mtxt_ev {c : Int} (h : c ≤ 9223372036854775807) : Ev (fun k => laws_markText.f k c) (mtxt c) := by
  unfold mtxt
  rw [dif_pos h]
  exact (markText_ev c h).choose_spec
theorem markPredS_ev (l : List S117) (c : Int) (hc : 0 ≤ c) (hl : c + 6 * l.length ≤ 9223372036854775806) : ∃ m ys, m = c + 6 * l.length ∧ Ev (fun k => laws_markPredS.f k l c) (m, ys) ∧ Ev (fun k => laws_heldPredS.f k ys c) m := by
  obtain ⟨m, ys, _, hm, h1, h2⟩ := marks_held 6 9223372036854775807 (by omega) (fun c (_ : S117) => (⟨c, c + 1, (⟨c + 1 + 1, mtxt (c + 1 + 1 + 1)⟩ : S83), c + 1 + 1 + 1 + 1, c + 1 + 1 + 1 + 1 + 1⟩ : S117)) (fun k xs c i => laws_markPredS.l0 k xs c i) (fun k xs c i => laws_heldPredS.l0 k xs c i)
    (fun xs c i r h hb h0 hB hr => by
      refine Ev.step (fun k => by rw [laws_markPredS.l0]) ?_
      refine Ev.pos (by omega) (Ev.pos (by omega) ?_)
      rw [wrap64_id (x := c + 1) (by omega) (by omega), wrap64_id (x := c + 1 + 1) (by omega) (by omega), wrap64_id (x := c + 1 + 1 + 1) (by omega) (by omega), wrap64_id (x := c + 1 + 1 + 1 + 1) (by omega) (by omega), wrap64_id (x := c + 1 + 1 + 1 + 1 + 1) (by omega) (by omega), wrap64_id (x := c + 1 + 1 + 1 + 1 + 1 + 1) (by omega) (by omega), wrap64_id (x := (i : Int) + 1) (by omega) (by omega)]
      refine Ev.here rfl ?_
      refine Ev.here rfl ?_
      refine Ev.here rfl ?_
      refine Ev.bind (mtxt_ev (by omega)) ?_
      refine Ev.here rfl ?_
      refine Ev.here rfl ?_
      have e : c + 1 + 1 + 1 + 1 + 1 + 1 = c + 6 := by omega
      simpa [rd_T117, h, e] using hr)
    (fun xs c => Ev.step (fun k => by rw [laws_markPredS.l0]) (by exact Ev.neg (by omega) (Ev.now _)))
    (fun xs c i r z h hb h0 hB hz hr => by
      have e : rd_T117 xs (i : Int) = xs[i] := getD_eq (by simpa using h)
      refine Ev.step (fun k => by rw [laws_heldPredS.l0]) ?_
      refine Ev.pos (by omega) (Ev.pos (by omega) ?_)
      rw [wrap64_id (x := c + 1) (by omega) (by omega), wrap64_id (x := c + 1 + 1) (by omega) (by omega), wrap64_id (x := c + 1 + 1 + 1) (by omega) (by omega), wrap64_id (x := c + 1 + 1 + 1 + 1) (by omega) (by omega), wrap64_id (x := c + 1 + 1 + 1 + 1 + 1) (by omega) (by omega), wrap64_id (x := c + 1 + 1 + 1 + 1 + 1 + 1) (by omega) (by omega), wrap64_id (x := (i : Int) + 1) (by omega) (by omega)]
      refine Ev.pos (by rw [e, hz]) ?_
      refine Ev.pos (by rw [e, hz]) ?_
      refine Ev.pos (by rw [e, hz]) ?_
      refine Ev.bind (mtxt_ev (by omega)) (Ev.pos (by rw [e, hz]) ?_)
      refine Ev.pos (by rw [e, hz]) ?_
      refine Ev.pos (by rw [e, hz]) ?_
      have e : c + 1 + 1 + 1 + 1 + 1 + 1 = c + 6 := by omega
      simpa [e] using hr)
    (fun xs c => Ev.step (fun k => by rw [laws_heldPredS.l0]) (by exact Ev.neg (by omega) (Ev.now _)))
    l c hc (by omega)
  exact ⟨m, ys, by omega, h1, h2⟩
def shiftP (n : Int) (p : S117) : S117 :=
  if p.f0 = 5 ∨ p.f0 = 6 then ⟨p.f0, p.f1, p.f2, wrap64 (p.f3 + n), wrap64 (p.f4 + n)⟩ else if p.f0 = 7 then ⟨p.f0, p.f1, p.f2, wrap64 (p.f3 + n), p.f4⟩ else p
def shifts (l : List S117) (n : Int) : List S117 := (List.range l.length).map fun (i : Nat) => shiftP n (rd_T117 l (i : Int))
theorem shifts_length (l : List S117) (n : Int) : (shifts l n).length = l.length := by simp [shifts]
theorem spec_shift_ev (l : List S117) (n : Int) (hl : l.length ≤ 1048576) : Ev (fun k => spec_l20Shift.f k l n) (shifts l n) := by
  unfold spec_l20Shift.f
  refine append_loop (fun k out i => spec_l20Shift.l0 k l n out i) (fun (i : Nat) => shiftP n (rd_T117 l (i : Int))) l.length _ (fun i s hi hs hr => ?_) ?_
  · refine Ev.step (fun k => by rw [spec_l20Shift.l0]) ?_
    refine Ev.pos (by omega) (Ev.pos (by omega) ?_)
    by_cases h5 : (rd_T117 l (i : Int)).f0 = 5
    · refine Ev.pos h5 ?_
      refine Ev.step (fun k => by rw [spec_l20Shift.j1]) ?_
      refine Ev.pos (by simp [h5]) (Ev.pos (by omega) ?_)
      rw [wrap64_id (x := (i : Int) + 1) (by omega) (by omega)]
      simpa [shiftP, h5] using hr
    · refine Ev.neg h5 ?_
      refine Ev.step (fun k => by rw [spec_l20Shift.j1]) ?_
      rw [wrap64_id (x := (i : Int) + 1) (by omega) (by omega)]
      by_cases h6 : (rd_T117 l (i : Int)).f0 = 6
      · refine Ev.pos (by simp [h6]) (Ev.pos (by omega) ?_)
        simpa [shiftP, h6] using hr
      · refine Ev.neg (by simp [h6]) ?_
        by_cases h7 : (rd_T117 l (i : Int)).f0 = 7
        · refine Ev.pos h7 (Ev.pos (by omega) ?_)
          simpa [shiftP, h7] using hr
        · refine Ev.neg h7 (Ev.pos (by omega) ?_)
          simpa [shiftP, h5, h6, h7] using hr
  · exact Ev.step (fun k => by rw [spec_l20Shift.l0]) (by exact Ev.neg (by omega) (Ev.const rfl))
def pairOut (kind : Int) (p q : List S117) : List S117 :=
  p ++ shifts q p.length ++ [(⟨kind, 0, (⟨0, (⟨#[]⟩ : ByteArray)⟩ : S83), wrap64 ((p.length : Int) - 1), wrap64 (((p ++ shifts q p.length).length : Int) - 1)⟩ : S117)]
def pairR (kind : Int) (p q : List S117) : List S117 × Bool :=
  if (kind = 5 ∨ kind = 6) ∧ p.length ≠ 0 ∧ q.length ≠ 0 ∧ p.length + q.length + 1 ≤ 31 then (pairOut kind p q, true) else ([], false)
theorem pairR_length (kind : Int) (p q : List S117) : (pairR kind p q).1.length ≤ 31 := by
  unfold pairR
  split
  · rename_i h
    have := shifts_length q p.length
    simp only [pairOut, List.length_append, this, List.length_cons, List.length_nil]; omega
  · simp
theorem spec_PredPair_ev (kind : Int) (p q : List S117) (hp : p.length ≤ 1048576) (hq : q.length ≤ 1048576) : Ev (fun k => spec_PredPair.f k kind p q) (pairR kind p q) := by
  have body : (kind = 5 ∨ kind = 6) → Ev (fun k => (if (p.length : Int) = 0 then (some ((([] : List (S117))), false)) else (if (q.length : Int) = 0 then (some ((([] : List (S117))), false)) else (if (wrap64 ((wrap64 ((p.length : Int) + (q.length : Int))) + 1)) > 31 then (some ((([] : List (S117))), false)) else ((some (([] : List (S117)) : List (S117))).bind fun y129 => (if y129.length + p.length < 2513169434916 then ((some (y129 ++ p : List (S117))).bind fun y132 => ((spec_l20Shift.f k q (p.length : Int)).bind fun t135 => (if y132.length + t135.length < 2513169434916 then ((some (y132 ++ t135 : List (S117))).bind fun y138 => (if y138.length < 2513169434916 then (some ((y138 ++ [(⟨kind, 0, (⟨0, (⟨#[]⟩ : ByteArray)⟩ : S83), wrap64 ((p.length : Int) - 1), wrap64 ((y138.length : Int) - 1)⟩ : S117)]), true)) else (none))) else (none)))) else (none))))))) (pairR kind p q) := by
    intro hk
    rw [wrap64_id (x := (p.length : Int) + q.length) (by omega) (by omega), wrap64_id (x := (p.length : Int) + q.length + 1) (by omega) (by omega)]
    by_cases h1 : (p.length : Int) = 0
    · refine Ev.pos h1 (Ev.const ?_)
      unfold pairR; rw [if_neg (by omega)]
    refine Ev.neg h1 ?_
    by_cases h2 : (q.length : Int) = 0
    · refine Ev.pos h2 (Ev.const ?_)
      unfold pairR; rw [if_neg (by omega)]
    refine Ev.neg h2 ?_
    by_cases h3 : (p.length : Int) + q.length + 1 > 31
    · refine Ev.pos h3 (Ev.const ?_)
      unfold pairR; rw [if_neg (by omega)]
    have hs := shifts_length q p.length
    refine Ev.neg h3 (Ev.here rfl (Ev.pos (by simp; omega) (Ev.here rfl (Ev.bind (spec_shift_ev q p.length hq) (Ev.pos (by simp [hs]; omega) (Ev.here rfl (Ev.pos (by simp [hs]; omega) (Ev.const ?_))))))))
    unfold pairR; rw [if_pos ⟨hk, by omega, by omega, by omega⟩]
    simp [pairOut]
  unfold spec_PredPair.f
  by_cases h5 : kind = 5
  · exact Ev.pos h5 (body (.inl h5))
  refine Ev.neg h5 ?_
  by_cases h6 : kind = 6
  · exact Ev.pos h6 (body (.inr h6))
  · refine Ev.neg h6 (Ev.const ?_)
    unfold pairR; rw [if_neg (by omega)]
theorem isPair_some (x : Int) : impl_isPair.f x = some (decide (x = 5 ∨ x = 6)) := by
  unfold impl_isPair.f
  by_cases h5 : x = 5
  · simp [h5]
  · by_cases h6 : x = 6 <;> simp [h5, h6]
theorem impl_PredPair_ev (kind : Int) (p q : List S117) (hp : p.length ≤ 1048576) (hq : q.length ≤ 1048576) : Ev (fun k => impl_PredPair.f k kind p q) (pairR kind p q) := by
  have bad : ∀ {b : Bool}, b = true → pairR kind p q = ([], false) → Ev (fun k => impl_PredPair.j0 k kind p q b) (pairR kind p q) := fun hb h => by
    rw [h, hb]
    exact Ev.step (fun k => by rw [impl_PredPair.j0]) (by exact Ev.pos rfl (Ev.now _))
  unfold impl_PredPair.f
  refine Ev.here (isPair_some kind) ?_
  by_cases hk : kind = 5 ∨ kind = 6
  · refine Ev.pos (by simpa using hk) ?_
    rw [wrap64_id (x := (p.length : Int) + q.length) (by omega) (by omega), wrap64_id (x := (p.length : Int) + q.length + 1) (by omega) (by omega)]
    by_cases h1 : (p.length : Int) = 0
    · exact Ev.pos h1 (bad rfl (by unfold pairR; rw [if_neg (by omega)]))
    refine Ev.neg h1 ?_
    by_cases h2 : (q.length : Int) = 0
    · exact Ev.pos h2 (bad rfl (by unfold pairR; rw [if_neg (by omega)]))
    refine Ev.neg h2 ?_
    by_cases h3 : (p.length : Int) + q.length + 1 > 31
    · exact bad (by simpa using h3) (by unfold pairR; rw [if_neg (by omega)])
    have hd : decide ((p.length : Int) + q.length + 1 > 31) = false := by simpa using h3
    rw [hd]
    have hs := shifts_length q p.length
    refine Ev.step (fun k => by rw [impl_PredPair.j0]) ?_
    refine Ev.neg (by decide) (Ev.here rfl (Ev.pos (by simp; omega) ?_))
    rw [List.nil_append]
    refine append_from (fun k out i => impl_PredPair.l0 k kind p out q q.length i) (fun (i : Nat) => shiftP p.length (rd_T117 q (i : Int))) q.length _ p (fun i s hi hs hr => ?_) ?_
    · refine Ev.step (fun k => by rw [impl_PredPair.l0]) ?_
      refine Ev.pos (by omega) (Ev.pos (by omega) (Ev.pos (by omega) (Ev.here (isPair_some _) ?_)))
      by_cases h56 : (rd_T117 q (i : Int)).f0 = 5 ∨ (rd_T117 q (i : Int)).f0 = 6
      · refine Ev.pos (by simpa using h56) ?_
        refine Ev.step (fun k => by rw [impl_PredPair.j2]) ?_
        rw [wrap64_id (x := (i : Int) + 1) (by omega) (by omega)]
        refine Ev.pos rfl (Ev.here (isPair_some _) (Ev.pos (by simpa using h56) (Ev.pos (by omega) ?_)))
        simpa [shiftP, h56] using hr
      · refine Ev.neg (by simpa using h56) ?_
        refine Ev.step (fun k => by rw [impl_PredPair.j2]) ?_
        rw [wrap64_id (x := (i : Int) + 1) (by omega) (by omega)]
        by_cases h7 : (rd_T117 q (i : Int)).f0 = 7
        · refine Ev.pos (by simp [h7]) (Ev.here (isPair_some _) (Ev.neg (by simpa using h56) (Ev.pos (by omega) ?_)))
          simpa [shiftP, h7] using hr
        · refine Ev.neg (by simp [h7]) (Ev.here (isPair_some _) (Ev.neg (by simpa using h56) (Ev.pos (by omega) ?_)))
          have e : shiftP p.length (rd_T117 q (i : Int)) = rd_T117 q (i : Int) := by unfold shiftP; rw [if_neg h56, if_neg h7]
          rw [e] at hr
          simpa using hr
    · refine Ev.step (fun k => by rw [impl_PredPair.l0]) ?_
      have e : (List.range q.length).map (fun (i : Nat) => shiftP p.length (rd_T117 q (i : Int))) = shifts q p.length := rfl
      rw [e]
      refine Ev.neg (by omega) (Ev.pos (by simp [hs]; omega) (Ev.const ?_))
      unfold pairR; rw [if_pos ⟨hk, by omega, by omega, by omega⟩]
      rfl
  · exact Ev.neg (by simpa using hk) (bad rfl (by unfold pairR; rw [if_neg (by omega)]))
theorem FnExactPredPair : ∀ (x0 : Int) (x1 : List (S114)) (x2 : List (S114)), ((Lit.int .i64 x0).wf = true) → (x1.length ≤ maxLen ∧ ∀ y ∈ x1, w114 y) → (x2.length ≤ maxLen ∧ ∀ y ∈ x2, w114 y) → ∃ k, laws_FnExactPredPair.f k x0 x1 x2 = some true := by
  intro kind p q _ hp hq
  refine Ev.rounds ?_
  unfold laws_FnExactPredPair.f
  obtain ⟨r1, s1, c1, l1⟩ := szPredS_ev p hp.1 hp.2 1048576 (by omega) (by omega)
  refine Ev.bind s1 ?_
  by_cases n1 : r1 < 0
  · exact Ev.pos n1 (Ev.now _)
  refine Ev.neg n1 ?_
  obtain ⟨r2, s2, c2, l2⟩ := szPredS_ev q hq.1 hq.2 r1 (by omega) (by omega)
  refine Ev.bind s2 ?_
  by_cases n2 : r2 < 0
  · exact Ev.pos n2 (Ev.now _)
  refine Ev.neg n2 ?_
  have t1 := toPredS_ev p (by omega)
  have t2 := toPredS_ev q (by omega)
  have lp : (p.map cvPred).length = p.length := by simp
  have lq : (q.map cvPred).length = q.length := by simp
  generalize p.map cvPred = P at *
  generalize q.map cvPred = Q at *
  have es := spec_PredPair_ev kind P Q (by omega) (by omega)
  have ei := impl_PredPair_ev kind P Q (by omega) (by omega)
  have hr := pairR_length kind P Q
  generalize pairR kind P Q = r at *
  have q1 := eqPredS_ev P (by omega)
  have q2 := eqPredS_ev Q (by omega)
  have q3 := eqPredS_ev r.1 (by omega)
  obtain ⟨m1, y1, p1, k1, _⟩ := markPredS_ev P 1 (by omega) (by omega)
  obtain ⟨m2, y2, p2, k2, _⟩ := markPredS_ev Q m1 (by omega) (by omega)
  obtain ⟨m3, y3, p3, k3, k4⟩ := markPredS_ev r.1 1 (by omega) (by omega)
  repeat' (first
    | with_reducible exact Ev.now _
    | with_reducible refine Ev.bind t1 ?_ | with_reducible refine Ev.bind t2 ?_ | with_reducible refine Ev.bind es ?_ | with_reducible refine Ev.bind ei ?_
    | with_reducible refine Ev.bind q1 ?_ | with_reducible refine Ev.bind q2 ?_ | with_reducible refine Ev.bind q3 ?_
    | with_reducible refine Ev.bind k1 ?_ | with_reducible refine Ev.bind k2 ?_ | with_reducible refine Ev.bind k3 ?_ | with_reducible refine Ev.bind k4 ?_
    | refine Ev.pos (by first | rfl | omega) ?_
    | refine Ev.neg (by first | omega | decide | simp) ?_
    | refine Ev.step (fun k => by rw [laws_FnExactPredPair.j0]) ?_
    | refine Ev.step (fun k => by rw [laws_FnExactPredPair.j1]) ?_
    | refine Ev.step (fun k => by rw [laws_FnExactPredPair.j2]) ?_)
end Go.Proofs.Ytlohdhkgcfebnaa.Pure
