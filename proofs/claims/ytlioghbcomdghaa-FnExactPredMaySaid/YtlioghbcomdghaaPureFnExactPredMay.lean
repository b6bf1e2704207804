/- The pure statement of FnExactPredMay: the printed functions answer as the law says, for all arguments. No condition. -/
import Derived.Test.YtlioghbcomdghaaVFnExactPredMay
import Derived.Test.YtlioghbcomdghaaPFnExactPredMayx
import Derived.Test.YtlioghbcomdghaaArgFnExactPredMay
namespace Go.Proofs.Ytlioghbcomdghaa.Pure
open Go.RowKit Go.Proofs.Ytlioghbcomdghaa.PFnExactPredMay Go.Proofs.Ytlioghbcomdghaa.Core Go.Proofs.YtlioghbcomdghaaW.PrintWords Go.Proofs.YtlioghbcomdghaaW.PrintLast Go.Proofs.YtlioghbcomdghaaW.PrintMore Go.Proofs.YtlioghbcomdghaaW.PrintMore2 Go.Proofs.Ytlioghbcomdghaa.AFnExactPredMay
set_option linter.unusedVariables false
set_option linter.unusedSimpArgs false
def cvVal (x : S45) : S59 := ⟨x.f0, x.f1⟩
def cvCol (x : S42) : S57 := ⟨x.f0, x.f1, x.f2, x.f3⟩
def cvPred (x : S47) : S61 := ⟨x.f0, x.f1, cvVal x.f2, x.f3, x.f4⟩
def cvStats (x : S50) : S64 := ⟨x.f0, x.f1, cvVal x.f2, cvVal x.f3⟩
def cvKnown (x : S52) : S66 := ⟨x.f0, cvStats x.f1⟩
theorem toColS_ev (l : List S42) (hl : l.length ≤ 1048576) : Ev (fun k => laws_toColS.f k l) (l.map cvCol) := by
  unfold laws_toColS.f
  refine Ev.pos (by omega) (Ev.pos (by omega) ?_)
  refine copy_loop (fun k out i => laws_toColS.l0 k l out i) l cvCol (fun out i r h ho hr => ?_) (fun out ho => ?_) (List.replicate ((l.length : Int)).toNat z57) (by simp)
  · refine Ev.step (fun k => by rw [laws_toColS.l0]) ?_
    refine Ev.pos (by omega) (Ev.pos (by omega) (Ev.here rfl (Ev.pos (by omega) ?_)))
    rw [wrap64_id (by omega) (by omega)]
    have e : rd_T42 l (i : Int) = l[i] := getD_eq (by simpa using h)
    simp only [e]
    simpa [cvCol] using hr
  · exact Ev.step (fun k => by rw [laws_toColS.l0]) (by exact Ev.neg (by omega) (Ev.now _))
theorem toPredS_ev (l : List S47) (hl : l.length ≤ 1048576) : Ev (fun k => laws_toPredS.f k l) (l.map cvPred) := by
  unfold laws_toPredS.f
  refine Ev.pos (by omega) (Ev.pos (by omega) ?_)
  refine copy_loop (fun k out i => laws_toPredS.l0 k l out i) l cvPred (fun out i r h ho hr => ?_) (fun out ho => ?_) (List.replicate ((l.length : Int)).toNat z61) (by simp)
  · refine Ev.step (fun k => by rw [laws_toPredS.l0]) ?_
    refine Ev.pos (by omega) (Ev.pos (by omega) (Ev.here rfl (Ev.pos (by omega) ?_)))
    rw [wrap64_id (by omega) (by omega)]
    have e : rd_T47 l (i : Int) = l[i] := getD_eq (by simpa using h)
    simp only [e]
    simpa [cvVal, cvPred] using hr
  · exact Ev.step (fun k => by rw [laws_toPredS.l0]) (by exact Ev.neg (by omega) (Ev.now _))
theorem toKnownS_ev (l : List S52) (hl : l.length ≤ 1048576) : Ev (fun k => laws_toKnownS.f k l) (l.map cvKnown) := by
  unfold laws_toKnownS.f
  refine Ev.pos (by omega) (Ev.pos (by omega) ?_)
  refine copy_loop (fun k out i => laws_toKnownS.l0 k l out i) l cvKnown (fun out i r h ho hr => ?_) (fun out ho => ?_) (List.replicate ((l.length : Int)).toNat z66) (by simp)
  · refine Ev.step (fun k => by rw [laws_toKnownS.l0]) ?_
    refine Ev.pos (by omega) (Ev.pos (by omega) (Ev.here rfl (Ev.pos (by omega) ?_)))
    rw [wrap64_id (by omega) (by omega)]
    have e : rd_T52 l (i : Int) = l[i] := getD_eq (by simpa using h)
    simp only [e]
    simpa [cvVal, cvStats, cvKnown] using hr
  · exact Ev.step (fun k => by rw [laws_toKnownS.l0]) (by exact Ev.neg (by omega) (Ev.now _))
theorem szCol_some (x : S42) (hw : w42 x) (c : Int) (h0 : 0 ≤ c) (h1 : c ≤ 1048576) : ∃ r, laws_szCol.f x.f0 x.f1 x.f2 x.f3 c = some r ∧ r ≤ c := by
  have b0 : (x.f0.size : Int) ≤ 9223372036854775807 := by have := hw.1; unfold maxLen at this; omega
  unfold laws_szCol.f
  rw [wrap64_id (x := c - (x.f0.size : Int)) (by omega) (by omega)]
  by_cases n0 : c - (x.f0.size : Int) < 0
  · exact ⟨-1, by simp [n0], by omega⟩
  simp only [if_neg n0, Option.bind_some]
  exact ⟨_, rfl, by omega⟩
theorem szColS_ev (l : List S42) (hw : l.length ≤ maxLen) (ht : ∀ x ∈ l, w42 x) (c : Int) (h0 : 0 ≤ c) (h1 : c ≤ 1048576) : ∃ r, Ev (fun k => laws_szColS.f k l c) r ∧ r ≤ c ∧ (0 ≤ r → r + l.length ≤ c) := by
  have hm : l.length ≤ 9223372036854775807 := by unfold maxLen at hw; omega
  unfold laws_szColS.f
  rw [wrap64_id (by omega) (by omega)]
  by_cases hn : c - (l.length : Int) < 0
  · exact ⟨-1, Ev.pos hn (Ev.now _), by omega, by omega⟩
  · obtain ⟨r, hr, hrc⟩ := budget_loop (fun k c i => laws_szColS.l0 k l c i) l.length (fun c i hc0 hc1 hi => by
      have e : rd_T42 l (i : Int) = l[i] := getD_eq (by simpa using hi)
      obtain ⟨c', hc', hle⟩ := szCol_some l[i] (ht l[i] (List.getElem_mem hi)) c hc0 hc1
      refine ⟨c', hle, fun hneg => ?_, fun hpos r hr => ?_⟩
      · exact Ev.step (fun k => by rw [laws_szColS.l0]) (by exact Ev.pos (by omega) (Ev.pos (by omega) (Ev.here (by rw [e]; exact hc') (Ev.pos hneg (Ev.now _)))))
      · refine Ev.step (fun k => by rw [laws_szColS.l0]) ?_
        refine Ev.pos (by omega) (Ev.pos (by omega) (Ev.here (by rw [e]; exact hc') (Ev.neg (by omega) ?_)))
        rw [wrap64_id (by omega) (by omega)]
        simpa using hr)
      (fun c => Ev.step (fun k => by rw [laws_szColS.l0]) (by exact Ev.neg (by omega) (Ev.now _))) (c - l.length) (by omega) (by omega)
    exact ⟨r, Ev.neg hn hr, by omega, by omega⟩
theorem szPred_some (x : S47) (hw : w47 x) (c : Int) (h0 : 0 ≤ c) (h1 : c ≤ 1048576) : ∃ r, laws_szPred.f x.f0 x.f1 x.f2.f0 x.f2.f1 x.f3 x.f4 c = some r ∧ r ≤ c := by
  have b0 : (x.f2.f1.size : Int) ≤ 9223372036854775807 := by have := hw.2.2.1.2; unfold maxLen at this; omega
  unfold laws_szPred.f laws_szVal.f
  rw [wrap64_id (x := c - (x.f2.f1.size : Int)) (by omega) (by omega)]
  by_cases n0 : c - (x.f2.f1.size : Int) < 0
  · exact ⟨-1, by simp [n0], by omega⟩
  simp only [if_neg n0, Option.bind_some]
  exact ⟨_, rfl, by omega⟩
theorem szPredS_ev (l : List S47) (hw : l.length ≤ maxLen) (ht : ∀ x ∈ l, w47 x) (c : Int) (h0 : 0 ≤ c) (h1 : c ≤ 1048576) : ∃ r, Ev (fun k => laws_szPredS.f k l c) r ∧ r ≤ c ∧ (0 ≤ r → r + l.length ≤ c) := by
  have hm : l.length ≤ 9223372036854775807 := by unfold maxLen at hw; omega
  unfold laws_szPredS.f
  rw [wrap64_id (by omega) (by omega)]
  by_cases hn : c - (l.length : Int) < 0
  · exact ⟨-1, Ev.pos hn (Ev.now _), by omega, by omega⟩
  · obtain ⟨r, hr, hrc⟩ := budget_loop (fun k c i => laws_szPredS.l0 k l c i) l.length (fun c i hc0 hc1 hi => by
      have e : rd_T47 l (i : Int) = l[i] := getD_eq (by simpa using hi)
      obtain ⟨c', hc', hle⟩ := szPred_some l[i] (ht l[i] (List.getElem_mem hi)) c hc0 hc1
      refine ⟨c', hle, fun hneg => ?_, fun hpos r hr => ?_⟩
      · exact Ev.step (fun k => by rw [laws_szPredS.l0]) (by exact Ev.pos (by omega) (Ev.pos (by omega) (Ev.here (by rw [e]; exact hc') (Ev.pos hneg (Ev.now _)))))
      · refine Ev.step (fun k => by rw [laws_szPredS.l0]) ?_
        refine Ev.pos (by omega) (Ev.pos (by omega) (Ev.here (by rw [e]; exact hc') (Ev.neg (by omega) ?_)))
        rw [wrap64_id (by omega) (by omega)]
        simpa using hr)
      (fun c => Ev.step (fun k => by rw [laws_szPredS.l0]) (by exact Ev.neg (by omega) (Ev.now _))) (c - l.length) (by omega) (by omega)
    exact ⟨r, Ev.neg hn hr, by omega, by omega⟩
theorem szKnown_some (x : S52) (hw : w52 x) (c : Int) (h0 : 0 ≤ c) (h1 : c ≤ 1048576) : ∃ r, laws_szKnown.f x.f0 x.f1.f0 x.f1.f1 x.f1.f2.f0 x.f1.f2.f1 x.f1.f3.f0 x.f1.f3.f1 c = some r ∧ r ≤ c := by
  have b0 : (x.f1.f2.f1.size : Int) ≤ 9223372036854775807 := by have := hw.2.2.2.1.2; unfold maxLen at this; omega
  have b1 : (x.f1.f3.f1.size : Int) ≤ 9223372036854775807 := by have := hw.2.2.2.2.2; unfold maxLen at this; omega
  unfold laws_szKnown.f laws_szStats.f laws_szVal.f
  rw [wrap64_id (x := c - (x.f1.f2.f1.size : Int)) (by omega) (by omega)]
  by_cases n0 : c - (x.f1.f2.f1.size : Int) < 0
  · exact ⟨-1, by simp [n0], by omega⟩
  simp only [if_neg n0, Option.bind_some]
  rw [wrap64_id (x := (c - (x.f1.f2.f1.size : Int)) - (x.f1.f3.f1.size : Int)) (by omega) (by omega)]
  by_cases n1 : (c - (x.f1.f2.f1.size : Int)) - (x.f1.f3.f1.size : Int) < 0
  · exact ⟨-1, by simp [n0, n1], by omega⟩
  simp only [if_neg n1, Option.bind_some]
  exact ⟨_, rfl, by omega⟩
theorem szKnownS_ev (l : List S52) (hw : l.length ≤ maxLen) (ht : ∀ x ∈ l, w52 x) (c : Int) (h0 : 0 ≤ c) (h1 : c ≤ 1048576) : ∃ r, Ev (fun k => laws_szKnownS.f k l c) r ∧ r ≤ c ∧ (0 ≤ r → r + l.length ≤ c) := by
  have hm : l.length ≤ 9223372036854775807 := by unfold maxLen at hw; omega
  unfold laws_szKnownS.f
  rw [wrap64_id (by omega) (by omega)]
  by_cases hn : c - (l.length : Int) < 0
  · exact ⟨-1, Ev.pos hn (Ev.now _), by omega, by omega⟩
  · obtain ⟨r, hr, hrc⟩ := budget_loop (fun k c i => laws_szKnownS.l0 k l c i) l.length (fun c i hc0 hc1 hi => by
      have e : rd_T52 l (i : Int) = l[i] := getD_eq (by simpa using hi)
      obtain ⟨c', hc', hle⟩ := szKnown_some l[i] (ht l[i] (List.getElem_mem hi)) c hc0 hc1
      refine ⟨c', hle, fun hneg => ?_, fun hpos r hr => ?_⟩
      · exact Ev.step (fun k => by rw [laws_szKnownS.l0]) (by exact Ev.pos (by omega) (Ev.pos (by omega) (Ev.here (by rw [e]; exact hc') (Ev.pos hneg (Ev.now _)))))
      · refine Ev.step (fun k => by rw [laws_szKnownS.l0]) ?_
        refine Ev.pos (by omega) (Ev.pos (by omega) (Ev.here (by rw [e]; exact hc') (Ev.neg (by omega) ?_)))
        rw [wrap64_id (by omega) (by omega)]
        simpa using hr)
      (fun c => Ev.step (fun k => by rw [laws_szKnownS.l0]) (by exact Ev.neg (by omega) (Ev.now _))) (c - l.length) (by omega) (by omega)
    exact ⟨r, Ev.neg hn hr, by omega, by omega⟩
theorem eqCol_ev (a : S57) : laws_eqCol.f a.f0 a.f1 a.f2 a.f3 a.f0 a.f1 a.f2 a.f3 = some true := by
  unfold laws_eqCol.f
  simp
theorem eqColS_ev (l : List S57) (hl : l.length ≤ 9223372036854775806) : Ev (fun k => laws_eqColS.f k l l) true := by
  unfold laws_eqColS.f
  refine Ev.pos rfl ?_
  refine same_loop (fun k i => laws_eqColS.l0 k l l i) l.length (fun i r h hr => ?_) ?_
  · refine Ev.step (fun k => by rw [laws_eqColS.l0]) ?_
    refine Ev.pos (by omega) (Ev.pos (by omega) (Ev.pos (by omega) (Ev.here (eqCol_ev _) (Ev.pos rfl ?_))))
    rw [wrap64_id (by omega) (by omega)]
    simpa using hr
  · exact Ev.step (fun k => by rw [laws_eqColS.l0]) (by exact Ev.neg (by omega) (Ev.now _))
theorem eqPred_ev (a : S61) : laws_eqPred.f a.f0 a.f1 a.f2.f0 a.f2.f1 a.f3 a.f4 a.f0 a.f1 a.f2.f0 a.f2.f1 a.f3 a.f4 = some true := by
  unfold laws_eqPred.f laws_eqVal.f
  simp
theorem eqPredS_ev (l : List S61) (hl : l.length ≤ 9223372036854775806) : Ev (fun k => laws_eqPredS.f k l l) true := by
  unfold laws_eqPredS.f
  refine Ev.pos rfl ?_
  refine same_loop (fun k i => laws_eqPredS.l0 k l l i) l.length (fun i r h hr => ?_) ?_
  · refine Ev.step (fun k => by rw [laws_eqPredS.l0]) ?_
    refine Ev.pos (by omega) (Ev.pos (by omega) (Ev.pos (by omega) (Ev.here (eqPred_ev _) (Ev.pos rfl ?_))))
    rw [wrap64_id (by omega) (by omega)]
    simpa using hr
  · exact Ev.step (fun k => by rw [laws_eqPredS.l0]) (by exact Ev.neg (by omega) (Ev.now _))
theorem eqKnown_ev (a : S66) : laws_eqKnown.f a.f0 a.f1.f0 a.f1.f1 a.f1.f2.f0 a.f1.f2.f1 a.f1.f3.f0 a.f1.f3.f1 a.f0 a.f1.f0 a.f1.f1 a.f1.f2.f0 a.f1.f2.f1 a.f1.f3.f0 a.f1.f3.f1 = some true := by
  unfold laws_eqKnown.f laws_eqStats.f laws_eqVal.f
  simp
theorem eqKnownS_ev (l : List S66) (hl : l.length ≤ 9223372036854775806) : Ev (fun k => laws_eqKnownS.f k l l) true := by
  unfold laws_eqKnownS.f
  refine Ev.pos rfl ?_
  refine same_loop (fun k i => laws_eqKnownS.l0 k l l i) l.length (fun i r h hr => ?_) ?_
  · refine Ev.step (fun k => by rw [laws_eqKnownS.l0]) ?_
    refine Ev.pos (by omega) (Ev.pos (by omega) (Ev.pos (by omega) (Ev.here (eqKnown_ev _) (Ev.pos rfl ?_))))
    rw [wrap64_id (by omega) (by omega)]
    simpa using hr
  · exact Ev.step (fun k => by rw [laws_eqKnownS.l0]) (by exact Ev.neg (by omega) (Ev.now _))
def tOk (t : Int) : Bool := decide (t = 0 ∨ t = 1 ∨ t = 2 ∨ t = 5 ∨ t = 6)
theorem l5Type_some (t : Int) : spec_l5Type.f t = some (tOk t) := by
  unfold spec_l5Type.f
  (repeat' split) <;> simp_all [tOk]
theorem l1In_same (x lo hi : Int) : (if x ≥ lo then some (decide (x ≤ hi)) else some false) = some (decide (lo ≤ x ∧ x ≤ hi)) := by
  by_cases h : x ≥ lo
  · rw [if_pos h]; congr 1; simp; omega
  · rw [if_neg h]; congr 1; symm; simp; omega
theorem within_some (x lo hi : Int) : impl_within.f x lo hi = some (decide (lo ≤ x ∧ x ≤ hi)) := by unfold impl_within.f; exact l1In_same x lo hi
theorem typeOk_some (t : Int) : impl_TypeOk.f t = some (tOk t) := by
  unfold impl_TypeOk.f
  rw [within_some]
  simp only [Option.bind_some]
  by_cases h : 0 ≤ t ∧ t ≤ 2
  · rw [if_pos (by simpa using h)]
    have : t = 0 ∨ t = 1 ∨ t = 2 := by omega
    rcases this with rfl | rfl | rfl <;> rfl
  · rw [if_neg (by simpa using h)]
    by_cases h5 : t = 5
    · subst h5; rfl
    · rw [if_neg h5]
      by_cases h6 : t = 6
      · subst h6; rfl
      · have h0 : t ≠ 0 := by omega
        have h1 : t ≠ 1 := by omega
        have h2 : t ≠ 2 := by omega
        simp [tOk, h0, h1, h2, h5, h6]
def noText (s : ByteArray) : Bool := s.toList == ([] : List UInt8)
def vOk (t : Int) (v : S59) : Bool :=
  if t = 0 then decide (0 ≤ v.f0 ∧ v.f0 ≤ 1) && noText v.f1
  else if t = 1 then decide (-2147483648 ≤ v.f0 ∧ v.f0 ≤ 2147483647) && noText v.f1
  else if t = 2 ∨ t = 5 then noText v.f1
  else if t = 6 then decide (v.f0 = 0) && decide ((v.f1.size : Int) ≤ 40) else false
theorem l1In_some (x lo hi : Int) : spec_l1In.f x lo hi = some (decide (lo ≤ x ∧ x ≤ hi)) := by unfold spec_l1In.f; exact l1In_same x lo hi
theorem impl_ValOk_some (t : Int) (v : S59) : impl_ValOk.f t v.f0 v.f1 = some (vOk t v) := by
  unfold impl_ValOk.f impl_isInt32.f vOk noText
  simp only [within_some, Option.bind_some]
  by_cases h0 : t = 0
  · rw [if_pos h0, if_pos h0]; by_cases h : 0 ≤ v.f0 ∧ v.f0 ≤ 1 <;> simp [h]
  rw [if_neg h0, if_neg h0]
  by_cases h1 : t = 1
  · rw [if_pos h1, if_pos h1]; by_cases h : -2147483648 ≤ v.f0 ∧ v.f0 ≤ 2147483647 <;> simp [h]
  rw [if_neg h1, if_neg h1]
  by_cases h2 : t = 2
  · rw [if_pos h2, if_pos (show t = 2 ∨ t = 5 from .inl h2)]
  rw [if_neg h2]
  by_cases h5 : t = 5
  · rw [if_pos h5, if_pos (show t = 2 ∨ t = 5 from .inr h5)]
  rw [if_neg h5, if_neg (show ¬ (t = 2 ∨ t = 5) by omega)]
  by_cases h6 : t = 6
  · rw [if_pos h6, if_pos h6]; by_cases h : v.f0 = 0 <;> simp [h]
  · rw [if_neg h6, if_neg h6]
theorem spec_ValOk_ev (t : Int) (v : S59) : Ev (fun k => spec_ValOk.f k t v.f0 v.f1) (vOk t v) := by
  refine ⟨2, fun k hk => ?_⟩
  obtain ⟨m, rfl⟩ : ∃ m, k = m + 2 := ⟨k - 2, by omega⟩
  unfold spec_ValOk.f spec_l4Int.f vOk noText
  simp only [l1In_some, Option.bind_some, spec_ValOk.j0]
  by_cases h0 : t = 0
  · rw [if_pos h0, if_pos h0]; by_cases h : 0 ≤ v.f0 ∧ v.f0 ≤ 1 <;> simp [h]
  rw [if_neg h0, if_neg h0]
  by_cases h1 : t = 1
  · rw [if_pos h1, if_pos h1]; by_cases h : -2147483648 ≤ v.f0 ∧ v.f0 ≤ 2147483647 <;> simp [h]
  rw [if_neg h1, if_neg h1]
  by_cases h2 : t = 2
  · rw [if_pos (show t = 2 ∨ t = 5 from .inl h2)]; simp [h2]
  rw [if_neg h2]
  by_cases h5 : t = 5
  · rw [if_pos (show t = 2 ∨ t = 5 from .inr h5)]; simp [h5]
  rw [if_neg (show ¬ (t = 2 ∨ t = 5) by omega)]
  by_cases h6 : t = 6
  · rw [if_pos h6]; by_cases h : v.f0 = 0 <;> simp [h, h6]
  · rw [if_neg h6]; simp [h5, h6]
def fk (x : Int) : Int := if x < 0 then Go.bits .xor .i64 x 9223372036854775807 else x
theorem spec_fk (x : Int) : spec_FloatKey.f x = some (fk x) := by unfold spec_FloatKey.f fk; split <;> rfl
theorem impl_fk (x : Int) : impl_FloatKey.f x = some (fk x) := by unfold impl_FloatKey.f fk; split <;> rfl
def vLess (t : Int) (a b : S59) : Bool := vOk t a && vOk t b && (if t = 5 then decide (fk a.f0 < fk b.f0) else if t = 6 then Op.bytesLess a.f1.toList b.f1.toList else decide (a.f0 < b.f0))
theorem toList_at (a : ByteArray) : a.toList.length = a.size := by rw [ByteArray.toList_eq]; rw [Array.length_toList]; rfl
theorem bt_at (a : ByteArray) (i : Nat) (h : i < a.size) : ∃ u : UInt8, a.toList.drop i = u :: a.toList.drop (i + 1) ∧ bt a (i : Int) = u.toNat := by
  have hl := toList_at a
  refine ⟨a.toList[i]'(by omega), List.drop_eq_getElem_cons (by omega), ?_⟩
  unfold bt
  have hd : a.data.size = a.size := rfl
  rw [dif_pos (by simp; omega)]
  simp only [ByteArray.toList_eq]
  simp
  rfl
theorem spec_less_text (a b : ByteArray) (ha : a.size ≤ 1000000) (hb : b.size ≤ 1000000) (n0 n1 : Int) : ∀ (d i : Nat), i ≤ a.size → i ≤ b.size → i + d = a.size → Ev (fun k => spec_ValLess.l0 k (i : Int) n0 a n1 b) (Op.bytesLess (a.toList.drop i) (b.toList.drop i)) := by
  have la := toList_at a
  have lb := toList_at b
  intro d
  induction d with
  | zero =>
    intro i h1 h2 hi
    refine Ev.step (fun k => by rw [spec_ValLess.l0]) ?_
    refine Ev.neg (by omega) ?_
    refine Ev.step (fun k => by rw [spec_ValLess.j2]) ?_
    refine Ev.neg (by decide) (Ev.const ?_)
    congr 1
    rw [show a.toList.drop i = [] from List.drop_eq_nil_of_le (by omega)]
    by_cases hb2 : i < b.size
    · obtain ⟨u, hu, _⟩ := bt_at b i hb2
      rw [hu]; simp [Op.bytesLess]; omega
    · rw [show b.toList.drop i = [] from List.drop_eq_nil_of_le (by omega)]; simp [Op.bytesLess]; omega
  | succ d ih =>
    intro i h1 h2 hi
    obtain ⟨u, hu, eu⟩ := bt_at a i (by omega)
    refine Ev.step (fun k => by rw [spec_ValLess.l0]) ?_
    refine Ev.pos (by omega) ?_
    refine Ev.step (fun k => by rw [spec_ValLess.j2]) ?_
    by_cases hb2 : i < b.size
    · obtain ⟨v, hv, ev⟩ := bt_at b i hb2
      refine Ev.pos (by simp; omega) (Ev.pos (by omega) (Ev.pos (by omega) (Ev.pos (by omega) ?_)))
      rw [eu, ev, hu, hv]
      by_cases he : u = v
      · subst he
        refine Ev.pos rfl ?_
        rw [wrap64_id (by omega) (by omega)]
        have := ih (i + 1) (by omega) (by omega) (by omega)
        have e2 : Op.bytesLess (u :: a.toList.drop (i + 1)) (u :: b.toList.drop (i + 1)) = Op.bytesLess (a.toList.drop (i + 1)) (b.toList.drop (i + 1)) := by simp [Op.bytesLess]
        rw [e2]
        simpa using this
      · have hn : ¬ ((u.toNat : Int) = (v.toNat : Int)) := fun h => he (UInt8.toNat_inj.1 (by exact_mod_cast h))
        refine Ev.neg hn (Ev.const ?_)
        congr 1
        have e2 : Op.bytesLess (u :: a.toList.drop (i + 1)) (v :: b.toList.drop (i + 1)) = decide (u < v) := by simp [Op.bytesLess, he]
        rw [e2]
        simp [UInt8.lt_iff_toNat_lt]
    · refine Ev.neg (by simp; omega) (Ev.const ?_)
      congr 1
      rw [show b.toList.drop i = [] from List.drop_eq_nil_of_le (by omega), hu]; simp [Op.bytesLess]; omega
theorem vOk_text {t : Int} {v : S59} (h : vOk t v = true) (h6 : t = 6) : v.f1.size ≤ 40 := by
  subst h6
  unfold vOk at h
  simp at h; omega
theorem spec_ValLess_ev (t : Int) (a b : S59) : Ev (fun k => spec_ValLess.f k t a.f0 a.f1 b.f0 b.f1) (vLess t a b) := by
  have bad : ∀ {x}, x = true → vLess t a b = false → Ev (fun k => spec_ValLess.j0 k t x a.f0 a.f1 b.f0 b.f1) (vLess t a b) := fun hx h => by
    rw [h, hx]; exact Ev.step (fun k => by rw [spec_ValLess.j0]) (by exact Ev.pos rfl (Ev.now _))
  unfold spec_ValLess.f
  refine Ev.bind (spec_ValOk_ev t a) ?_
  cases ha : vOk t a with
  | false => exact Ev.neg (by decide) (bad rfl (by simp [vLess, ha]))
  | true =>
    refine Ev.pos rfl (Ev.bind (spec_ValOk_ev t b) ?_)
    cases hb : vOk t b with
    | false => exact bad rfl (by simp [vLess, hb])
    | true =>
      refine Ev.step (fun k => by rw [spec_ValLess.j0]) ?_
      refine Ev.neg (by decide) ?_
      by_cases h5 : t = 5
      · refine Ev.pos h5 (Ev.here (spec_fk _) (Ev.here (spec_fk _) (Ev.const ?_)))
        unfold vLess; rw [ha, hb, if_pos h5]; rfl
      refine Ev.neg h5 ?_
      by_cases h6 : t = 6
      · refine Ev.pos h6 ?_
        have := spec_less_text a.f1 b.f1 (by have := vOk_text ha h6; omega) (by have := vOk_text hb h6; omega) a.f0 b.f0 a.f1.size 0 (by omega) (by omega) (by omega)
        refine Ev.cast this ?_
        unfold vLess; rw [ha, hb, if_neg h5, if_pos h6]; rfl
      · refine Ev.neg h6 (Ev.const ?_)
        unfold vLess; rw [ha, hb, if_neg h5, if_neg h6]; rfl
theorem impl_ValLess_ev (t : Int) (a b : S59) : Ev (fun k => impl_ValLess.f k t a.f0 a.f1 b.f0 b.f1) (vLess t a b) := by
  have bad : ∀ {x}, x = true → vLess t a b = false → Ev (fun k => impl_ValLess.j0 k t x a.f0 a.f1 b.f0 b.f1) (vLess t a b) := fun hx h => by
    rw [h, hx]; exact Ev.step (fun k => by rw [impl_ValLess.j0]) (by exact Ev.pos rfl (Ev.now _))
  unfold impl_ValLess.f
  refine Ev.here (impl_ValOk_some t a) ?_
  cases ha : vOk t a with
  | false => exact Ev.neg (by decide) (bad rfl (by simp [vLess, ha]))
  | true =>
    refine Ev.pos rfl (Ev.here (impl_ValOk_some t b) ?_)
    cases hb : vOk t b with
    | false => exact bad rfl (by simp [vLess, hb])
    | true =>
      refine Ev.step (fun k => by rw [impl_ValLess.j0]) ?_
      refine Ev.neg (by decide) ?_
      by_cases h5 : t = 5
      · refine Ev.pos h5 (Ev.here (impl_fk _) (Ev.here (impl_fk _) (Ev.const ?_)))
        unfold vLess; rw [ha, hb, if_pos h5]; rfl
      refine Ev.neg h5 ?_
      by_cases h6 : t = 6
      · refine Ev.pos h6 (Ev.const ?_)
        unfold vLess; rw [ha, hb, if_neg h5, if_pos h6]; rfl
      · refine Ev.neg h6 (Ev.const ?_)
        unfold vLess; rw [ha, hb, if_neg h5, if_neg h6]; rfl
def nameOk (b : ByteArray) : Bool := decide (1 ≤ (b.size : Int) ∧ (b.size : Int) ≤ 20) && (List.range b.size).all (fun (i : Nat) => decide (97 ≤ bt b (i : Int) ∧ bt b (i : Int) ≤ 122))
theorem spec_l5Name_ev (b : ByteArray) (hb : b.size ≤ 9223372036854775807) : Ev (fun k => spec_l5Name.f k b) (nameOk b) := by
  unfold spec_l5Name.f nameOk
  refine Ev.here (l1In_some _ _ _) ?_
  by_cases h : 1 ≤ (b.size : Int) ∧ (b.size : Int) ≤ 20
  · rw [decide_eq_true h]
    refine Ev.pos rfl ?_
    have key := all_loop (fun k i => spec_l5Name.l0 k b i) (fun (i : Nat) => decide (97 ≤ bt b (i : Int) ∧ bt b (i : Int) ≤ 122)) b.size false true
      (fun i r hi hp hr => by
        have hp' := of_decide_eq_true hp
        refine Ev.step (fun k => by rw [spec_l5Name.l0]) ?_
        refine Ev.pos (by omega) (Ev.pos (by omega) (Ev.neg (by omega) (Ev.neg (by omega) ?_)))
        rw [wrap64_id (by omega) (by omega)]
        simpa using hr)
      (fun i hi hp => by
        have hp' := of_decide_eq_false hp
        refine Ev.step (fun k => by rw [spec_l5Name.l0]) ?_
        refine Ev.pos (by omega) (Ev.pos (by omega) ?_)
        by_cases h1 : bt b (i : Int) < 97
        · exact Ev.pos h1 (Ev.now _)
        · exact Ev.neg h1 (Ev.pos (by omega) (Ev.now _)))
      (by exact Ev.step (fun k => by rw [spec_l5Name.l0]) (by exact Ev.neg (by omega) (Ev.now _)))
    refine Ev.cast key ?_
    cases (List.range b.size).all _ <;> rfl
  · rw [decide_eq_false h]
    exact Ev.neg (by decide) (Ev.now _)
theorem impl_isColName_ev (b : ByteArray) (hb : b.size ≤ 9223372036854775807) : Ev (fun k => impl_isColName.f k b) (nameOk b) := by
  unfold impl_isColName.f nameOk
  have key := all_loop (fun k i => impl_isColName.l0 k b (b.size : Int) i) (fun (i : Nat) => decide (97 ≤ bt b (i : Int) ∧ bt b (i : Int) ≤ 122)) b.size false (decide (1 ≤ (b.size : Int) ∧ (b.size : Int) ≤ 20))
    (fun i r hi hp hr => by
      have hp' := of_decide_eq_true hp
      refine Ev.step (fun k => by rw [impl_isColName.l0]) ?_
      rw [wrap64_id (x := bt b (i : Int)) (by omega) (by omega)]
      refine Ev.pos (by omega) (Ev.pos (by omega) (Ev.pos (by omega) (Ev.here (within_some _ _ _) (Ev.pos hp ?_))))
      rw [wrap64_id (by omega) (by omega)]
      simpa using hr)
    (fun i hi hp => by
      have hrg := bt_range b (i : Int)
      refine Ev.step (fun k => by rw [impl_isColName.l0]) ?_
      rw [wrap64_id (x := bt b (i : Int)) (by omega) (by omega)]
      refine Ev.pos (by omega) (Ev.pos (by omega) (Ev.pos (by omega) (Ev.here (within_some _ _ _) ?_)))
      rw [hp]
      exact Ev.neg (by decide) (Ev.now _))
    (by
      refine Ev.step (fun k => by rw [impl_isColName.l0]) ?_
      exact Ev.neg (by omega) (Ev.here (within_some _ _ _) (Ev.now _)))
  refine Ev.cast key ?_
  cases (List.range b.size).all _ <;> simp
def colB (root : Bool) (c : S57) : Bool := (if c.f1 = 7 then decide (1 ≤ c.f3) else tOk c.f1 && decide (c.f3 = 0)) && decide (0 ≤ c.f2 ∧ c.f2 ≤ 2) && (root || nameOk c.f0)
def parts (f : Int → Int) (s : List S57) : Nat → Int → List ByteArray → Int
  | 0, next, _ => next
  | n + 1, next, names => if next ≥ (s.length : Int) then -1 else if names.any (fun x => decide (x.toList = (rd_T57 s next).f0.toList)) then -1 else if f next < 0 then -1 else parts f s n (f next) (names ++ [(rd_T57 s next).f0])
def chk (s : List S57) : Nat → Int → Int
  | 0, _ => -1
  | d + 1, p => if p ≥ (s.length : Int) then -1 else if colB (decide (p = 0)) (rd_T57 s p) = true then parts (chk s d) s (rd_T57 s p).f3.toNat (p + 1) [] else -1
theorem parts_range (f : Int → Int) (s : List S57) (hf : ∀ p, 0 ≤ p → f p = -1 ∨ (p < f p ∧ f p ≤ s.length)) : ∀ (n : Nat) (next : Int) (names : List ByteArray), 0 ≤ next → next ≤ s.length → parts f s n next names = -1 ∨ (next ≤ parts f s n next names ∧ parts f s n next names ≤ s.length)
  | 0, next, names, h0, h1 => .inr ⟨by simp [parts], by simp [parts]; exact h1⟩
  | n + 1, next, names, h0, h1 => by
    unfold parts
    split
    · exact .inl rfl
    split
    · exact .inl rfl
    split
    · exact .inl rfl
    · have hn := hf next h0
      have := parts_range f s hf n (f next) (names ++ [(rd_T57 s next).f0]) (by omega) (by omega)
      omega
theorem chk_range (s : List S57) : ∀ (d : Nat) (p : Int), 0 ≤ p → chk s d p = -1 ∨ (p < chk s d p ∧ chk s d p ≤ s.length)
  | 0, p, h => .inl rfl
  | d + 1, p, h => by
    unfold chk
    split
    · exact .inl rfl
    split
    · have := parts_range (chk s d) s (fun q hq => chk_range s d q hq) (rd_T57 s p).f3.toNat (p + 1) [] (by omega) (by omega)
      omega
    · exact .inl rfl
/-- A row of columns whose names are no longer than Go's int, and that are not too many. -/
def ColsOk (s : List S57) : Prop := s.length ≤ 1048576 ∧ (∀ i : Int, (rd_T57 s i).f0.size ≤ 9223372036854775807) ∧ (∀ i : Int, (rd_T57 s i).f3 ≤ 9223372036854775807)
theorem colOk_some (c : S57) : impl_colOk.f c.f0 c.f1 c.f2 c.f3 = some ((if c.f1 = 7 then decide (1 ≤ c.f3) else tOk c.f1 && decide (c.f3 = 0)) && decide (0 ≤ c.f2 ∧ c.f2 ≤ 2)) := by
  unfold impl_colOk.f
  simp only [typeOk_some, within_some, Option.bind_some]
  by_cases h7 : c.f1 = 7
  · rw [if_pos h7, if_pos h7]
    have ht : tOk c.f1 = false := by rw [h7]; rfl
    rw [ht, if_neg (by decide)]
    by_cases h : c.f3 > 0
    · rw [if_pos h, decide_eq_true (show 1 ≤ c.f3 by omega)]; rfl
    · rw [if_neg h, decide_eq_false (show ¬ 1 ≤ c.f3 by omega)]; rfl
  · rw [if_neg h7, if_neg h7]
    cases ht : tOk c.f1 with
    | false => rw [if_neg (by decide)]; rfl
    | true =>
      rw [if_pos rfl]
      by_cases h : c.f3 = 0
      · rw [if_pos h, decide_eq_true h]; rfl
      · rw [if_neg h, decide_eq_false h]; rfl
theorem impl_colAfter_ev (s : List S57) (hs : ColsOk s) : ∀ (d : Nat) (p : Int), d ≤ 7 → 0 ≤ p → p ≤ s.length → Ev (fun k => impl_colAfter.f k s p (7 - (d : Int))) (chk s d p) := by
  obtain ⟨hl, hn, hm⟩ := hs
  have bad : ∀ p dd, Ev (fun k => impl_colAfter.j0 k s p dd true) (-1) := fun p dd => Ev.step (fun k => by rw [impl_colAfter.j0]) (by exact Ev.pos rfl (Ev.now _))
  intro d
  induction d with
  | zero =>
    intro p _ h0 h1
    refine Ev.step (fun k => by rw [impl_colAfter.f]) ?_
    by_cases h : p ≥ (s.length : Int)
    · exact Ev.pos h (bad _ _)
    · exact Ev.neg h (Ev.pos (by omega) (bad _ _))
  | succ d ih =>
    intro p hd h0 h1
    refine Ev.step (fun k => by rw [impl_colAfter.f]) ?_
    unfold chk
    by_cases h : p ≥ (s.length : Int)
    · rw [if_pos h]; exact Ev.pos h (bad _ _)
    rw [if_neg h]
    refine Ev.neg h (Ev.neg (by omega) (Ev.pos h0 (Ev.pos (by omega) (Ev.here (colOk_some (rd_T57 s p)) ?_))))
    have inner : ∀ (n : Nat) (i next : Int) (names : List ByteArray), i + n = (rd_T57 s p).f3 → 0 ≤ i → 0 ≤ next → next ≤ s.length → (names.length : Int) ≤ next →
        Ev (fun k => impl_colAfter.l0 k s (7 - ((d + 1 : Nat) : Int)) next names (rd_T57 s p).f3 i) (parts (chk s d) s n next names) := by
      intro n
      induction n with
      | zero =>
        intro i next names hi i0 n0 n1 nl
        exact Ev.step (fun k => by rw [impl_colAfter.l0]) (by exact Ev.neg (by omega) (Ev.now _))
      | succ n ihn =>
        intro i next names hi i0 n0 n1 nl
        refine Ev.step (fun k => by rw [impl_colAfter.l0]) ?_
        unfold parts
        refine Ev.pos (by omega) ?_
        by_cases hx : next ≥ (s.length : Int)
        · rw [if_pos hx]; exact Ev.pos hx (Ev.now _)
        rw [if_neg hx]
        refine Ev.neg hx ?_
        have rest : ∀ (m j : Nat), j + m = names.length → Ev (fun k => impl_colAfter.l1 k s (7 - ((d + 1 : Nat) : Int)) next names (rd_T57 s p).f3 i (names.length : Int) (j : Int))
            (if (names.drop j).any (fun x => decide (x.toList = (rd_T57 s next).f0.toList)) then -1 else if chk s d next < 0 then -1 else parts (chk s d) s n (chk s d next) (names ++ [(rd_T57 s next).f0])) := by
          intro m
          induction m with
          | zero =>
            intro j hj
            rw [List.drop_eq_nil_of_le (by omega)]
            rw [if_neg (by simp)]
            refine Ev.step (fun k => by rw [impl_colAfter.l1]) ?_
            refine Ev.neg (by omega) (Ev.pos n0 (Ev.pos (by omega) (Ev.pos (by omega) ?_)))
            have e : wrap64 (7 - ((d + 1 : Nat) : Int) + 1) = 7 - (d : Int) := by rw [wrap64_id (by omega) (by omega)]; omega
            rw [e]
            refine Ev.bind (ih next (by omega) n0 n1) ?_
            have hr := chk_range s d next n0
            by_cases hneg : chk s d next < 0
            · rw [if_pos hneg]; exact Ev.pos hneg (Ev.now _)
            · rw [if_neg hneg]
              refine Ev.neg hneg ?_
              have hmm := hm p
              rw [wrap64_id (x := i + 1) (by omega) (by omega)]
              exact ihn (i + 1) (chk s d next) (names ++ [(rd_T57 s next).f0]) (by omega) (by omega) (by omega) (by omega) (by simp; omega)
          | succ m ihm =>
            intro j hj
            have hjl : j < names.length := by omega
            have ed : names.drop j = names[j] :: names.drop (j + 1) := List.drop_eq_getElem_cons hjl
            refine Ev.step (fun k => by rw [impl_colAfter.l1]) ?_
            refine Ev.pos (by omega) (Ev.pos (by omega) (Ev.pos (by omega) (Ev.pos n0 (Ev.pos (by omega) ?_))))
            rw [rdOf_eq (by omega)]
            have ej : names[((j : Int)).toNat]'(by omega) = names[j] := rfl
            rw [ej, ed, List.any_cons]
            by_cases he : (names[j]).toList = (rd_T57 s next).f0.toList
            · rw [decide_eq_true he]; exact Ev.pos he (Ev.now _)
            · rw [decide_eq_false he]
              refine Ev.neg he ?_
              rw [wrap64_id (x := (j : Int) + 1) (by omega) (by omega)]
              exact ihm (j + 1) (by omega)
        exact rest names.length 0 (by omega)
    have hx : ∀ b : Bool, colB (decide (p = 0)) (rd_T57 s p) = !b → Ev (fun k => impl_colAfter.j0 k s p (7 - ((d + 1 : Nat) : Int)) b) (if colB (decide (p = 0)) (rd_T57 s p) = true then parts (chk s d) s (rd_T57 s p).f3.toNat (p + 1) [] else -1) := by
      intro b hb
      cases b with
      | true => rw [hb, if_neg (by decide)]; exact bad _ _
      | false =>
        rw [hb, if_pos (show (!false) = true from rfl)]
        refine Ev.step (fun k => by rw [impl_colAfter.j0]) ?_
        have hm0 : 0 ≤ (rd_T57 s p).f3 := by
          unfold colB at hb
          by_cases h7 : (rd_T57 s p).f1 = 7
          · rw [if_pos h7] at hb; simp at hb; omega
          · rw [if_neg h7] at hb; simp at hb; omega
        refine Ev.neg (by decide) (Ev.pos h0 (Ev.pos (by omega) ?_))
        rw [wrap64_id (x := p + 1) (by omega) (by omega)]
        exact inner (rd_T57 s p).f3.toNat 0 (p + 1) [] (by omega) (by omega) (by omega) (by omega) (by simp; omega)
    cases hc : ((if (rd_T57 s p).f1 = 7 then decide (1 ≤ (rd_T57 s p).f3) else tOk (rd_T57 s p).f1 && decide ((rd_T57 s p).f3 = 0)) && decide (0 ≤ (rd_T57 s p).f2 ∧ (rd_T57 s p).f2 ≤ 2)) with
    | false => exact Ev.neg (by decide) (hx true (by unfold colB; rw [hc]; rfl))
    | true =>
      refine Ev.pos rfl ?_
      by_cases hp0 : p > 0
      · refine Ev.pos hp0 (Ev.bind (impl_isColName_ev _ (hn p)) ?_)
        exact hx _ (by unfold colB; rw [hc, decide_eq_false (show ¬ p = 0 by omega)]; simp)
      · refine Ev.neg hp0 ?_
        exact hx false (by unfold colB; rw [hc, decide_eq_true (show p = 0 by omega)]; simp)
def rootB (c : S57) : Bool := decide (c.f1 = 7) && decide (c.f2 = 0) && decide (c.f0.toList = ([] : List UInt8))
theorem spec_l5Check_ev (s : List S57) (hs : ColsOk s) : ∀ (d : Nat) (p : Int), d ≤ 7 → 0 ≤ p → p ≤ s.length → Ev (fun k => spec_l5Check.f k s p (7 - (d : Int))) (if p = 0 ∧ rootB (rd_T57 s p) = false then -1 else chk s d p) := by
  obtain ⟨hl, hn, hm⟩ := hs
  have bad : ∀ p dd, Ev (fun k => spec_l5Check.j0 k s p dd true) (-1) := fun p dd => Ev.step (fun k => by rw [spec_l5Check.j0]) (by exact Ev.pos rfl (Ev.now _))
  intro d
  induction d with
  | zero =>
    intro p _ h0 h1
    refine Ev.step (fun k => by rw [spec_l5Check.f]) ?_
    have e : (if p = 0 ∧ rootB (rd_T57 s p) = false then -1 else chk s 0 p) = -1 := by split <;> rfl
    rw [e]
    by_cases h : p ≥ (s.length : Int)
    · exact Ev.pos h (bad _ _)
    · refine Ev.neg h ?_
      have : decide (7 - ((0 : Nat) : Int) > 6) = true := by decide
      rw [this]; exact bad _ _
  | succ d ih =>
    intro p hd h0 h1
    refine Ev.step (fun k => by rw [spec_l5Check.f]) ?_
    by_cases h : p ≥ (s.length : Int)
    · have e : (if p = 0 ∧ rootB (rd_T57 s p) = false then -1 else chk s (d + 1) p) = -1 := by
        split
        · rfl
        · unfold chk; rw [if_pos h]
      rw [e]; exact Ev.pos h (bad _ _)
    refine Ev.neg h ?_
    have hdd : decide (7 - ((d + 1 : Nat) : Int) > 6) = false := decide_eq_false (by omega)
    rw [hdd]
    refine Ev.step (fun k => by rw [spec_l5Check.j0]) ?_
    refine Ev.neg (by decide) (Ev.pos h0 (Ev.pos (by omega) ?_))
    have inner : ∀ (n : Nat) (i next : Int) (names : List ByteArray), i + n = (rd_T57 s p).f3 → 0 ≤ i → 0 < next → next ≤ s.length → (names.length : Int) ≤ next →
        Ev (fun k => spec_l5Check.l0 k s (7 - ((d + 1 : Nat) : Int)) next names i (rd_T57 s p).f0 (rd_T57 s p).f1 (rd_T57 s p).f2 (rd_T57 s p).f3) (parts (chk s d) s n next names) := by
      intro n
      induction n with
      | zero =>
        intro i next names hi i0 n0 n1 nl
        exact Ev.step (fun k => by rw [spec_l5Check.l0]) (by exact Ev.neg (by omega) (Ev.now _))
      | succ n ihn =>
        intro i next names hi i0 n0 n1 nl
        refine Ev.step (fun k => by rw [spec_l5Check.l0]) ?_
        unfold parts
        refine Ev.pos (by omega) ?_
        by_cases hx : next ≥ (s.length : Int)
        · rw [if_pos hx]; exact Ev.pos hx (Ev.now _)
        rw [if_neg hx]
        refine Ev.neg hx ?_
        have rest : ∀ (m j : Nat), j + m = names.length → Ev (fun k => spec_l5Check.l1 k s (7 - ((d + 1 : Nat) : Int)) next names i (j : Int) (rd_T57 s p).f0 (rd_T57 s p).f1 (rd_T57 s p).f2 (rd_T57 s p).f3)
            (if (names.drop j).any (fun x => decide (x.toList = (rd_T57 s next).f0.toList)) then -1 else if chk s d next < 0 then -1 else parts (chk s d) s n (chk s d next) (names ++ [(rd_T57 s next).f0])) := by
          intro m
          induction m with
          | zero =>
            intro j hj
            rw [List.drop_eq_nil_of_le (by omega)]
            rw [if_neg (by simp)]
            refine Ev.step (fun k => by rw [spec_l5Check.l1]) ?_
            refine Ev.neg (by omega) (Ev.pos (by omega) (Ev.pos (by omega) (Ev.pos (by omega) ?_)))
            have e : wrap64 (7 - ((d + 1 : Nat) : Int) + 1) = 7 - (d : Int) := by rw [wrap64_id (by omega) (by omega)]; omega
            rw [e]
            have hih := ih next (by omega) (by omega) n1
            rw [if_neg (by omega)] at hih
            refine Ev.bind hih ?_
            have hr := chk_range s d next (by omega)
            by_cases hneg : chk s d next < 0
            · rw [if_pos hneg]; exact Ev.pos hneg (Ev.now _)
            · rw [if_neg hneg]
              refine Ev.neg hneg ?_
              have hmm := hm p
              rw [wrap64_id (x := i + 1) (by omega) (by omega)]
              exact ihn (i + 1) (chk s d next) (names ++ [(rd_T57 s next).f0]) (by omega) (by omega) (by omega) (by omega) (by simp; omega)
          | succ m ihm =>
            intro j hj
            have hjl : j < names.length := by omega
            have ed : names.drop j = names[j] :: names.drop (j + 1) := List.drop_eq_getElem_cons hjl
            refine Ev.step (fun k => by rw [spec_l5Check.l1]) ?_
            refine Ev.pos (by omega) (Ev.pos (by omega) (Ev.pos (by omega) (Ev.pos (by omega) ?_)))
            rw [rdOf_eq (by omega)]
            have ej : names[((j : Int)).toNat]'(by omega) = names[j] := rfl
            rw [ej, ed, List.any_cons]
            by_cases he : (names[j]).toList = (rd_T57 s next).f0.toList
            · rw [decide_eq_true he]; exact Ev.pos he (Ev.now _)
            · rw [decide_eq_false he]
              refine Ev.neg he ?_
              rw [wrap64_id (x := (j : Int) + 1) (by omega) (by omega)]
              exact ihm (j + 1) (by omega)
        exact rest names.length 0 (by omega)
    -- what stands behind the checks of the name and of the kind of repetition
    have hx : ∀ b : Bool, (!b) = (decide (0 ≤ (rd_T57 s p).f2 ∧ (rd_T57 s p).f2 ≤ 2) && (decide (p = 0) || nameOk (rd_T57 s p).f0)) → Ev (fun k => spec_l5Check.j1 k s p (7 - ((d + 1 : Nat) : Int)) b (rd_T57 s p).f0 (rd_T57 s p).f1 (rd_T57 s p).f2 (rd_T57 s p).f3) (chk s (d + 1) p) := by
      intro b hb
      unfold chk
      rw [if_neg h]
      refine Ev.step (fun k => by rw [spec_l5Check.j1]) ?_
      unfold colB
      rw [Bool.and_assoc, ← hb]
      cases b with
      | true => rw [Bool.not_true, Bool.and_false, if_neg (show ¬ (false = true) by decide)]; exact Ev.pos rfl (Ev.now _)
      | false =>
        rw [Bool.not_false, Bool.and_true]
        refine Ev.neg (by decide) ?_
        by_cases h7 : (rd_T57 s p).f1 = 7
        · refine Ev.pos h7 ?_
          rw [if_pos h7]
          by_cases h3 : (rd_T57 s p).f3 < 1
          · rw [decide_eq_false (show ¬ 1 ≤ (rd_T57 s p).f3 by omega), if_neg (show ¬ (false = true) by decide)]; exact Ev.pos h3 (Ev.now _)
          · rw [decide_eq_true (show 1 ≤ (rd_T57 s p).f3 by omega), if_pos (show true = true from rfl)]
            refine Ev.neg h3 ?_
            rw [wrap64_id (x := p + 1) (by omega) (by omega)]
            exact inner (rd_T57 s p).f3.toNat 0 (p + 1) [] (by omega) (by omega) (by omega) (by omega) (by simp; omega)
        · refine Ev.neg h7 (Ev.here (l5Type_some _) ?_)
          rw [if_neg h7]
          cases ht : tOk (rd_T57 s p).f1 with
          | false => exact Ev.neg (show ¬ (false = true) by decide) (Ev.const rfl)
          | true =>
            refine Ev.pos rfl ?_
            by_cases h3 : (rd_T57 s p).f3 = 0
            · rw [decide_eq_true h3, if_pos (show (true && true) = true from rfl), h3]
              refine Ev.pos rfl (Ev.const ?_)
              rw [wrap64_id (x := p + 1) (by omega) (by omega)]; rfl
            · rw [decide_eq_false h3, if_neg (show ¬ ((true && false) = true) by decide)]; exact Ev.neg h3 (Ev.now _)
    by_cases hp0 : p = 0
    · refine Ev.pos hp0 ?_
      have hbad : rootB (rd_T57 s p) = false → Ev (fun k => spec_l5Check.j1 k s p (7 - ((d + 1 : Nat) : Int)) true (rd_T57 s p).f0 (rd_T57 s p).f1 (rd_T57 s p).f2 (rd_T57 s p).f3) (if p = 0 ∧ rootB (rd_T57 s p) = false then -1 else chk s (d + 1) p) := fun hr => by
        rw [if_pos ⟨hp0, hr⟩]
        exact Ev.step (fun k => by rw [spec_l5Check.j1]) (by exact Ev.pos rfl (Ev.now _))
      by_cases r1 : (rd_T57 s p).f0.toList = ([] : List UInt8)
      · refine Ev.pos r1 ?_
        by_cases r2 : (rd_T57 s p).f2 = 0
        · refine Ev.pos r2 ?_
          by_cases r3 : (rd_T57 s p).f1 = 7
          · refine Ev.pos r3 (Ev.neg (by omega) (Ev.here (l1In_some _ _ _) ?_))
            have hr : rootB (rd_T57 s p) = true := by unfold rootB; rw [decide_eq_true r1, decide_eq_true r2, decide_eq_true r3]; rfl
            rw [if_neg (by rw [hr]; simp)]
            exact hx _ (by rw [decide_eq_true hp0]; simp)
          · exact Ev.neg r3 (hbad (by unfold rootB; rw [decide_eq_false r3]; simp))
        · exact Ev.neg r2 (hbad (by unfold rootB; rw [decide_eq_false r2]; simp))
      · exact Ev.neg r1 (hbad (by unfold rootB; rw [decide_eq_false r1]; simp))
    · rw [if_neg (by omega)]
      refine Ev.neg hp0 (Ev.pos (by omega) (Ev.bind (spec_l5Name_ev _ (hn p)) ?_))
      cases hnm : nameOk (rd_T57 s p).f0 with
      | true =>
        refine Ev.pos rfl (Ev.here (l1In_some _ _ _) ?_)
        exact hx _ (by rw [hnm]; simp)
      | false => exact Ev.neg (by decide) (hx true (by rw [hnm, decide_eq_false hp0]; simp))
def schOk (s : List S57) : Bool := decide (2 ≤ (s.length : Int) ∧ (s.length : Int) ≤ 20) && rootB (rd_T57 s 0) && decide (chk s 6 0 = (s.length : Int))
theorem impl_SchemaOk_ev (s : List S57) (hs : ColsOk s) : Ev (fun k => impl_SchemaOk.f k s) (schOk s) := by
  unfold impl_SchemaOk.f schOk
  refine Ev.here (within_some _ _ _) ?_
  by_cases h : 2 ≤ (s.length : Int) ∧ (s.length : Int) ≤ 20
  · rw [decide_eq_true h]
    refine Ev.pos rfl (Ev.pos (by omega) ?_)
    unfold rootB
    by_cases r3 : (rd_T57 s 0).f1 = 7
    · refine Ev.pos r3 ?_
      by_cases r2 : (rd_T57 s 0).f2 = 0
      · refine Ev.pos r2 ?_
        by_cases r1 : (rd_T57 s 0).f0.toList = ([] : List UInt8)
        · refine Ev.pos r1 (Ev.bind (impl_colAfter_ev s hs 6 0 (by omega) (by omega) (by omega)) (Ev.const ?_))
          rw [decide_eq_true r1, decide_eq_true r2, decide_eq_true r3]
          rfl
        · refine Ev.neg r1 (Ev.const ?_); rw [decide_eq_false r1]; simp
      · refine Ev.neg r2 (Ev.const ?_); rw [decide_eq_false r2]; simp
    · refine Ev.neg r3 (Ev.const ?_); rw [decide_eq_false r3]; simp
  · rw [decide_eq_false h]
    exact Ev.neg (by decide) (Ev.now _)
theorem spec_SchemaOk_ev (s : List S57) (hs : ColsOk s) : Ev (fun k => spec_SchemaOk.f k s) (schOk s) := by
  unfold spec_SchemaOk.f schOk
  refine Ev.here (l1In_some _ _ _) ?_
  by_cases h : 2 ≤ (s.length : Int) ∧ (s.length : Int) ≤ 20
  · rw [decide_eq_true h]
    refine Ev.pos rfl (Ev.bind (spec_l5Check_ev s hs 6 0 (by omega) (by omega) (by omega)) (Ev.const ?_))
    cases hr : rootB (rd_T57 s 0) with
    | false =>
      rw [if_pos ⟨rfl, rfl⟩]
      have : ((-1 : Int) == (s.length : Int)) = false := by simp
      rw [this]; rfl
    | true =>
      rw [if_neg (by simp)]
      rfl
  · rw [decide_eq_false h]
    exact Ev.neg (by decide) (Ev.now _)
theorem parts_mono (f g : Int → Int) (s : List S57) (hr : ∀ p, 0 ≤ p → f p = -1 ∨ (p < f p ∧ f p ≤ s.length)) (hg : ∀ p, 0 ≤ p → f p ≠ -1 → g p = f p) :
    ∀ (n : Nat) (next : Int) (names : List ByteArray), 0 ≤ next → parts f s n next names ≠ -1 → parts g s n next names = parts f s n next names
  | 0, _, _, _, _ => rfl
  | n + 1, next, names, h0, h => by
    unfold parts at h ⊢
    by_cases h1 : next ≥ (s.length : Int)
    · rw [if_pos h1, if_pos h1]
    rw [if_neg h1] at h
    rw [if_neg h1, if_neg h1]
    by_cases h2 : names.any (fun x => decide (x.toList = (rd_T57 s next).f0.toList)) = true
    · rw [if_pos h2, if_pos h2]
    rw [if_neg h2] at h
    rw [if_neg h2, if_neg h2]
    by_cases h3 : f next < 0
    · rw [if_pos h3] at h; exact absurd rfl h
    rw [if_neg h3] at h
    have e := hg next h0 (by omega)
    rw [e, if_neg h3, if_neg h3]
    have := hr next h0
    exact parts_mono f g s hr hg n (f next) _ (by omega) h
theorem chk_mono (s : List S57) : ∀ (d : Nat) (p : Int), 0 ≤ p → chk s d p ≠ -1 → chk s (d + 1) p = chk s d p
  | 0, p, h0, h => absurd rfl h
  | d + 1, p, h0, h => by
    rw [chk] at h ⊢
    rw [show chk s (d + 1) p = if p ≥ (s.length : Int) then -1 else if colB (decide (p = 0)) (rd_T57 s p) = true then parts (chk s d) s (rd_T57 s p).f3.toNat (p + 1) [] else -1 from rfl]
    by_cases h1 : p ≥ (s.length : Int)
    · rw [if_pos h1, if_pos h1]
    rw [if_neg h1] at h
    rw [if_neg h1, if_neg h1]
    by_cases h2 : colB (decide (p = 0)) (rd_T57 s p) = true
    · rw [if_pos h2] at h
      rw [if_pos h2, if_pos h2]
      exact parts_mono (chk s d) (chk s (d + 1)) s (fun q hq => chk_range s d q hq) (fun q hq hn => chk_mono s d q hq hn) _ _ _ (by omega) h
    · rw [if_neg h2, if_neg h2]
/-- Where the column at p and its parts end. -/
def en (s : List S57) (p : Int) : Int := chk s 6 p
theorem chk_en (s : List S57) (p : Int) (h0 : 0 ≤ p) : ∀ (m d : Nat), d + m = 6 → chk s d p ≠ -1 → en s p = chk s d p := by
  intro m
  induction m with
  | zero => intro d hd h; obtain rfl : d = 6 := by omega
            rfl
  | succ m ih =>
    intro d hd h
    have := chk_mono s d p h0 h
    rw [← this]
    exact ih (d + 1) (by omega) (by rw [this]; exact h)
theorem parts_inside (f : Int → Int) (s : List S57) (hr : ∀ p, 0 ≤ p → f p = -1 ∨ (p < f p ∧ f p ≤ s.length)) (hi : ∀ p, 0 ≤ p → f p ≠ -1 → ∀ q, p ≤ q → q < f p → en s q ≠ -1 ∧ en s q ≤ f p) :
    ∀ (n : Nat) (next : Int) (names : List ByteArray), 0 ≤ next → parts f s n next names ≠ -1 → ∀ q, next ≤ q → q < parts f s n next names → en s q ≠ -1 ∧ en s q ≤ parts f s n next names
  | 0, next, _, _, _, q, h1, h2 => by unfold parts at h2; omega
  | n + 1, next, names, h0, h, q, hq1, hq2 => by
    rw [parts] at h hq2 ⊢
    by_cases h1 : next ≥ (s.length : Int)
    · rw [if_pos h1] at h; exact absurd rfl h
    rw [if_neg h1] at h hq2 ⊢
    by_cases h2 : names.any (fun x => decide (x.toList = (rd_T57 s next).f0.toList)) = true
    · rw [if_pos h2] at h; exact absurd rfl h
    rw [if_neg h2] at h hq2 ⊢
    by_cases h3 : f next < 0
    · rw [if_pos h3] at h; exact absurd rfl h
    rw [if_neg h3] at h hq2 ⊢
    have hn := hr next h0
    have hpr := parts_range f s hr n (f next) (names ++ [(rd_T57 s next).f0]) (by omega) (by omega)
    by_cases h4 : q < f next
    · have := hi next h0 (by omega) q hq1 h4
      exact ⟨this.1, by omega⟩
    · exact parts_inside f s hr hi n (f next) _ (by omega) h q (by omega) hq2
theorem chk_inside (s : List S57) : ∀ (d : Nat), d ≤ 6 → ∀ (p : Int), 0 ≤ p → chk s d p ≠ -1 → ∀ q, p ≤ q → q < chk s d p → en s q ≠ -1 ∧ en s q ≤ chk s d p
  | 0, _, p, h0, h, _, _, _ => absurd rfl h
  | d + 1, hd, p, h0, h, q, hq1, hq2 => by
    by_cases e : q = p
    · have := chk_en s p h0 (6 - (d + 1)) (d + 1) (by omega) h
      rw [e, this]; exact ⟨h, Int.le_refl _⟩
    rw [chk] at h hq2 ⊢
    by_cases h1 : p ≥ (s.length : Int)
    · rw [if_pos h1] at h; exact absurd rfl h
    rw [if_neg h1] at h hq2 ⊢
    by_cases h2 : colB (decide (p = 0)) (rd_T57 s p) = true
    · rw [if_pos h2] at h hq2 ⊢
      exact parts_inside (chk s d) s (fun q hq => chk_range s d q hq) (fun r hr hn => chk_inside s d (by omega) r hr hn) _ _ _ (by omega) h q (by omega) hq2
    · rw [if_neg h2] at h; exact absurd rfl h
theorem spec_l5After_ev (s : List S57) (hs : ColsOk s) : ∀ (d : Nat) (p : Int), 0 ≤ p → chk s d p ≠ -1 → Ev (fun k => spec_l5After.f k s p) (chk s d p)
  | 0, p, h0, h => absurd rfl h
  | d + 1, p, h0, h => by
    rw [chk] at h ⊢
    by_cases h1 : p ≥ (s.length : Int)
    · rw [if_pos h1] at h; exact absurd rfl h
    rw [if_neg h1] at h ⊢
    by_cases h2 : colB (decide (p = 0)) (rd_T57 s p) = true
    · rw [if_pos h2] at h ⊢
      have hl := hs.1
      have hm := hs.2.2 p
      have hm0 : 0 ≤ (rd_T57 s p).f3 := by
        unfold colB at h2
        by_cases h7 : (rd_T57 s p).f1 = 7
        · rw [if_pos h7] at h2; simp at h2; omega
        · rw [if_neg h7] at h2; simp at h2; omega
      refine Ev.step (fun k => by rw [spec_l5After.f]) ?_
      rw [wrap64_id (x := p + 1) (by omega) (by omega)]
      have key : ∀ (n : Nat) (i next : Int) (names : List ByteArray), i + n = (rd_T57 s p).f3 → 0 ≤ i → 0 ≤ next → parts (chk s d) s n next names ≠ -1 → Ev (fun k => spec_l5After.l0 k s p next i) (parts (chk s d) s n next names) := by
        intro n
        induction n with
        | zero =>
          intro i next names hi i0 n0 hp
          refine Ev.step (fun k => by rw [spec_l5After.l0]) ?_
          exact Ev.pos h0 (Ev.pos (by omega) (Ev.neg (by omega) (Ev.now _)))
        | succ n ih =>
          intro i next names hi i0 n0 hp
          refine Ev.step (fun k => by rw [spec_l5After.l0]) ?_
          rw [parts] at hp ⊢
          by_cases g1 : next ≥ (s.length : Int)
          · rw [if_pos g1] at hp; exact absurd rfl hp
          rw [if_neg g1] at hp ⊢
          by_cases g2 : names.any (fun x => decide (x.toList = (rd_T57 s next).f0.toList)) = true
          · rw [if_pos g2] at hp; exact absurd rfl hp
          rw [if_neg g2] at hp ⊢
          by_cases g3 : chk s d next < 0
          · rw [if_pos g3] at hp; exact absurd rfl hp
          rw [if_neg g3] at hp ⊢
          refine Ev.pos h0 (Ev.pos (by omega) (Ev.pos (by omega) (Ev.bind (spec_l5After_ev s hs d next n0 (by omega)) ?_)))
          rw [wrap64_id (x := i + 1) (by omega) (by omega)]
          exact ih (i + 1) (chk s d next) _ (by omega) (by omega) (by omega) hp
      exact key _ 0 (p + 1) [] (by omega) (by omega) (by omega) h
    · rw [if_neg h2] at h; exact absurd rfl h
theorem schOk_parts {s : List S57} (h : schOk s = true) : 2 ≤ (s.length : Int) ∧ (s.length : Int) ≤ 20 ∧ rootB (rd_T57 s 0) = true ∧ chk s 6 0 = (s.length : Int) := by
  unfold schOk at h
  simp only [Bool.and_eq_true, decide_eq_true_eq] at h
  exact ⟨h.1.1.1, h.1.1.2, h.1.2, h.2⟩
theorem en_ok {s : List S57} (h : schOk s = true) (q : Int) (h0 : 0 ≤ q) (h1 : q < s.length) : en s q ≠ -1 ∧ q < en s q ∧ en s q ≤ s.length := by
  obtain ⟨_, _, _, h4⟩ := schOk_parts h
  have := chk_inside s 6 (by omega) 0 (by omega) (by omega) q h0 (by omega)
  have hr := chk_range s 6 q h0
  unfold en at this ⊢
  exact ⟨this.1, by omega, by omega⟩
/-- The columns that are no structs, from the front. -/
def lvStep (s : List S57) (i : Nat) (out : List Int) : List Int := if (rd_T57 s (i : Int)).f1 = 7 then out else out ++ [(i : Int)]
def lvs (s : List S57) (n : Nat) : List Int := (List.range n).foldl (fun out i => lvStep s i out) []
theorem lvStep_length (s : List S57) (i : Nat) (out : List Int) : (lvStep s i out).length ≤ out.length + 1 := by
  unfold lvStep; split <;> simp
theorem lvs_length (s : List S57) (n : Nat) : (lvs s n).length ≤ n := by
  induction n with
  | zero => simp [lvs]
  | succ n ih =>
    unfold lvs at ih ⊢
    rw [List.range_succ, List.foldl_append]
    simp only [List.foldl_cons, List.foldl_nil]
    have := lvStep_length s n ((List.range n).foldl (fun out i => lvStep s i out) [])
    omega
theorem lvs_mem (s : List S57) (n : Nat) : ∀ x ∈ lvs s n, 0 ≤ x ∧ x < n ∧ (rd_T57 s x).f1 ≠ 7 := by
  induction n with
  | zero => intro x hx; simp [lvs] at hx
  | succ n ih =>
    intro x hx
    unfold lvs at hx ih
    rw [List.range_succ, List.foldl_append] at hx
    simp only [List.foldl_cons, List.foldl_nil] at hx
    generalize (List.range n).foldl (fun out i => lvStep s i out) [] = q at hx ih
    unfold lvStep at hx
    split at hx
    · have := ih x hx; omega
    · rename_i h7
      rcases List.mem_append.1 hx with h | h
      · have := ih x h; exact ⟨this.1, by omega, this.2.2⟩
      · obtain rfl := List.mem_singleton.1 h
        exact ⟨by omega, by omega, h7⟩
theorem spec_l5Leaves_ev (s : List S57) (hs : s.length ≤ 1048576) : Ev (fun k => spec_l5Leaves.f k s) (lvs s s.length) := by
  unfold spec_l5Leaves.f
  refine loop_inv (fun k out i => spec_l5Leaves.l0 k s out i) (fun i out => lvStep s i out) s.length _ (fun i out => out.length ≤ i) [] (by simp) (fun i out hi ho => by have := lvStep_length s i out; omega) (fun i out hi ho hr => ?_) (fun out ho he => ?_)
  · have e : ((i + 1 : Nat) : Int) = (i : Int) + 1 := by push_cast; rfl
    rw [e] at hr
    refine Ev.step (fun k => by rw [spec_l5Leaves.l0]) ?_
    refine Ev.pos (by omega) (Ev.pos (by omega) ?_)
    rw [wrap64_id (x := (i : Int) + 1) (by omega) (by omega)]
    unfold lvStep at hr
    by_cases h7 : (rd_T57 s (i : Int)).f1 = 7
    · rw [if_pos h7] at hr; exact Ev.pos h7 hr
    · rw [if_neg h7] at hr; exact Ev.neg h7 (Ev.pos (by omega) hr)
  · refine Ev.step (fun k => by rw [spec_l5Leaves.l0]) ?_
    refine Ev.neg (by omega) (Ev.const ?_)
    rw [he]; rfl
theorem impl_leavesOf_ev (s : List S57) (hs : s.length ≤ 1048576) : Ev (fun k => impl_leavesOf.f k s) (lvs s s.length) := by
  unfold impl_leavesOf.f
  refine loop_inv (fun k out i => impl_leavesOf.l0 k out s (s.length : Int) i) (fun i out => lvStep s i out) s.length _ (fun i out => out.length ≤ i) [] (by simp) (fun i out hi ho => by have := lvStep_length s i out; omega) (fun i out hi ho hr => ?_) (fun out ho he => ?_)
  · have e : ((i + 1 : Nat) : Int) = (i : Int) + 1 := by push_cast; rfl
    rw [e] at hr
    refine Ev.step (fun k => by rw [impl_leavesOf.l0]) ?_
    refine Ev.pos (by omega) (Ev.pos (by omega) (Ev.pos (by omega) ?_))
    rw [wrap64_id (x := (i : Int) + 1) (by omega) (by omega)]
    unfold lvStep at hr
    by_cases h7 : (rd_T57 s (i : Int)).f1 = 7
    · rw [if_pos h7] at hr; exact Ev.pos h7 hr
    · rw [if_neg h7] at hr; exact Ev.neg h7 (Ev.pos (by omega) hr)
  · refine Ev.step (fun k => by rw [impl_leavesOf.l0]) ?_
    refine Ev.neg (by omega) (Ev.const ?_)
    rw [he]; rfl
def leaves (s : List S57) : List Int := if schOk s = true then lvs s s.length else []
theorem spec_SchemaLeaves_ev (s : List S57) (hs : ColsOk s) : Ev (fun k => spec_SchemaLeaves.f k s) (leaves s) := by
  unfold spec_SchemaLeaves.f leaves
  refine Ev.bind (spec_SchemaOk_ev s hs) ?_
  cases schOk s with
  | true => exact Ev.pos rfl (Ev.bind (spec_l5Leaves_ev s hs.1) (Ev.now _))
  | false => exact Ev.neg (by decide) (Ev.now _)
theorem leaves_length (s : List S57) : (leaves s).length ≤ s.length := by
  unfold leaves; split
  · exact lvs_length s _
  · simp
theorem impl_SchemaLeaves_ev (s : List S57) (hs : ColsOk s) : Ev (fun k => impl_SchemaLeaves.f k s) (leaves s) := by
  unfold impl_SchemaLeaves.f leaves
  refine Ev.bind (impl_SchemaOk_ev s hs) ?_
  cases schOk s with
  | true => exact Ev.pos rfl (Ev.bind (impl_leavesOf_ev s hs.1) (Ev.now _))
  | false => exact Ev.neg (by decide) (Ev.now _)
/-- The places from pos - d + 1 to pos whose parts reach beyond pos. -/
def wayF (s : List S57) (pos : Int) : Nat → List Int
  | 0 => []
  | d + 1 => if en s (pos - d) > pos then (pos - d) :: wayF s pos d else wayF s pos d
theorem wayF_mem (s : List S57) (pos : Int) : ∀ (d : Nat), ∀ x ∈ wayF s pos d, pos - d < x ∧ x ≤ pos
  | 0, x, h => by simp [wayF] at h
  | d + 1, x, h => by
    unfold wayF at h
    split at h
    · rcases List.mem_cons.1 h with rfl | h
      · omega
      · have := wayF_mem s pos d x h; omega
    · have := wayF_mem s pos d x h; omega
theorem wayF_length (s : List S57) (pos : Int) : ∀ (d : Nat), (wayF s pos d).length ≤ d
  | 0 => by simp [wayF]
  | d + 1 => by
    have := wayF_length s pos d
    unfold wayF
    split
    · simp; exact this
    · omega
theorem wayF_skip (s : List S57) (pos : Int) : ∀ (m d : Nat), (∀ q, pos - (d + m : Nat) < q → q ≤ pos - d → en s q ≤ pos) → wayF s pos (d + m) = wayF s pos d
  | 0, d, _ => rfl
  | m + 1, d, h => by
    show (if en s (pos - (d + m : Nat)) > pos then (pos - (d + m : Nat)) :: wayF s pos (d + m) else wayF s pos (d + m)) = _
    rw [if_neg (by have := h (pos - (d + m : Nat)) (by omega) (by omega); omega)]
    exact wayF_skip s pos m d (fun q h1 h2 => h q (by omega) h2)
theorem spec_l5Way_ev (s : List S57) (hs : ColsOk s) (hk : schOk s = true) (pos : Nat) (hp : pos < s.length) : Ev (fun k => spec_l5Way.f k s (pos : Int)) (wayF s pos (pos + 1)) := by
  obtain ⟨_, hl, _, _⟩ := schOk_parts hk
  unfold spec_l5Way.f
  have key : ∀ (d : Nat) (q : Int) (out : List Int), q + d = pos + 1 → 0 ≤ q → (out.length : Int) ≤ q → Ev (fun k => spec_l5Way.l0 k s (pos : Int) out q) (out ++ wayF s pos d) := by
    intro d
    induction d with
    | zero =>
      intro q out hq h0 ho
      refine Ev.step (fun k => by rw [spec_l5Way.l0]) ?_
      exact Ev.neg (by omega) (Ev.const (by simp [wayF]))
    | succ d ih =>
      intro q out hq h0 ho
      obtain ⟨e1, e2, e3⟩ := en_ok hk q h0 (by omega)
      have eq : (pos : Int) - d = q := by omega
      refine Ev.step (fun k => by rw [spec_l5Way.l0]) ?_
      refine Ev.pos (by omega) (Ev.bind (spec_l5After_ev s hs 6 q h0 e1) ?_)
      rw [wrap64_id (x := q + 1) (by omega) (by omega)]
      unfold wayF
      rw [eq]
      by_cases h : en s q > pos
      · rw [if_pos h]
        have := ih (q + 1) (out ++ [q]) (by omega) (by omega) (by simp; omega)
        rw [List.append_assoc, List.singleton_append] at this
        exact Ev.pos h (Ev.pos (by omega) this)
      · rw [if_neg h]
        exact Ev.neg h (ih (q + 1) out (by omega) (by omega) (by omega))
  have := key (pos + 1) 0 [] (by omega) (by omega) (by simp)
  simpa using this
theorem impl_wayTo_loop (s : List S57) (hs : ColsOk s) (hk : schOk s = true) (lv : List Int) (idx : Int) (i0 : 0 ≤ idx) (i1 : idx < lv.length) (pos : Nat) (hpos : rd lv idx = (pos : Int)) (hp : pos < s.length) :
    ∀ (N d : Nat) (q : Int) (out : List Int), d ≤ N → q + d = pos + 1 → 0 ≤ q → (out.length : Int) ≤ q → Ev (fun k => impl_wayTo.l0 k s idx lv out q) (out ++ wayF s pos d) := by
  obtain ⟨_, hl, _, _⟩ := schOk_parts hk
  intro N
  induction N with
  | zero =>
    intro d q out hN hq h0 ho
    obtain rfl : d = 0 := by omega
    refine Ev.step (fun k => by rw [impl_wayTo.l0]) ?_
    exact Ev.pos i0 (Ev.pos i1 (Ev.neg (by rw [hpos]; omega) (Ev.const (by simp [wayF]))))
  | succ N ih =>
    intro d q out hN hq h0 ho
    refine Ev.step (fun k => by rw [impl_wayTo.l0]) ?_
    cases d with
    | zero => exact Ev.pos i0 (Ev.pos i1 (Ev.neg (by rw [hpos]; omega) (Ev.const (by simp [wayF]))))
    | succ d =>
      obtain ⟨e1, e2, e3⟩ := en_ok hk q h0 (by omega)
      have eq : (pos : Int) - d = q := by omega
      refine Ev.pos i0 (Ev.pos i1 (Ev.pos (by rw [hpos]; omega) (Ev.bind (impl_colAfter_ev s hs 6 q (by omega) h0 (by omega)) ?_)))
      rw [hpos, wrap64_id (x := q + 1) (by omega) (by omega)]
      have een : chk s 6 q = en s q := rfl
      rw [een]
      by_cases h : en s q > pos
      · have := ih d (q + 1) (out ++ [q]) (by omega) (by omega) (by omega) (by simp; omega)
        rw [List.append_assoc, List.singleton_append] at this
        unfold wayF
        rw [eq, if_pos h]
        exact Ev.pos h (Ev.pos (by omega) this)
      · have hd2 : ∃ m d', d + 1 = d' + m ∧ en s q + d' = pos + 1 ∧ d' ≤ N := ⟨(en s q - q).toNat, (pos + 1 - en s q).toNat, by omega, by omega, by omega⟩
        obtain ⟨m, d', h1, h2, h3⟩ := hd2
        rw [h1, wayF_skip s pos m d' (fun r hr1 hr2 => by
          by_cases hrq : r < s.length
          · have hin := chk_inside s 6 (by omega) q h0 e1 r (by omega) (by rw [een]; omega)
            rw [een] at hin
            omega
          · omega)]
        exact Ev.neg h (ih d' (en s q) out h3 h2 (by omega) (by omega))
def mstep (s : List S57) (st : Int × Int) (q : Int) : Int × Int := if (rd_T57 s q).f2 = 0 then st else if (rd_T57 s q).f2 = 2 then (wrap64 (st.1 + 1), wrap64 (st.2 + 1)) else (wrap64 (st.1 + 1), st.2)
theorem spec_max_loop (s : List S57) (ws : List Int) (hw : ∀ x ∈ ws, 0 ≤ x ∧ x < s.length) (hl : ws.length ≤ 1048576) : ∀ (d i : Nat) (st : Int × Int), i + d = ws.length → Ev (fun k => spec_l5Max.l0 k s st.1 st.2 ws (i : Int)) ((ws.drop i).foldl (mstep s) st) := by
  intro d
  induction d with
  | zero =>
    intro i st hi
    rw [List.drop_eq_nil_of_le (by omega)]
    exact Ev.step (fun k => by rw [spec_l5Max.l0]) (by exact Ev.neg (by omega) (Ev.now _))
  | succ d ih =>
    intro i st hi
    have hil : i < ws.length := by omega
    rw [List.drop_eq_getElem_cons hil, List.foldl_cons]
    have he : rd ws (i : Int) = ws[i] := rd_eq (by omega)
    have hb := hw ws[i] (List.getElem_mem _)
    have := ih (i + 1) (mstep s st ws[i]) (by omega)
    refine Ev.step (fun k => by rw [spec_l5Max.l0]) ?_
    rw [he, wrap64_id (x := (i : Int) + 1) (by omega) (by omega)]
    refine Ev.pos (by omega) (Ev.pos (by omega) (Ev.pos hb.1 (Ev.pos hb.2 ?_)))
    generalize (ws.drop (i + 1)).foldl (mstep s) (mstep s st ws[i]) = R at this ⊢
    unfold mstep at this
    by_cases h0 : (rd_T57 s ws[i]).f2 = 0
    · rw [if_pos h0] at this
      exact Ev.pos h0 (Ev.neg (by omega) (by simpa using this))
    · rw [if_neg h0] at this
      refine Ev.neg h0 ?_
      by_cases h2 : (rd_T57 s ws[i]).f2 = 2
      · rw [if_pos h2] at this; exact Ev.pos h2 (by simpa using this)
      · rw [if_neg h2] at this; exact Ev.neg h2 (by simpa using this)
theorem impl_max_loop (s : List S57) (ws : List Int) (hw : ∀ x ∈ ws, 0 ≤ x ∧ x < s.length) (hl : ws.length ≤ 1048576) : ∀ (d i : Nat) (st : Int × Int), i + d = ws.length → Ev (fun k => impl_LeafMax.l0 k s st.1 st.2 ws (ws.length : Int) (i : Int)) ((ws.drop i).foldl (mstep s) st) := by
  intro d
  induction d with
  | zero =>
    intro i st hi
    rw [List.drop_eq_nil_of_le (by omega)]
    exact Ev.step (fun k => by rw [impl_LeafMax.l0]) (by exact Ev.neg (by omega) (Ev.now _))
  | succ d ih =>
    intro i st hi
    have hil : i < ws.length := by omega
    rw [List.drop_eq_getElem_cons hil, List.foldl_cons]
    have he : rd ws (i : Int) = ws[i] := rd_eq (by omega)
    have hb := hw ws[i] (List.getElem_mem _)
    have := ih (i + 1) (mstep s st ws[i]) (by omega)
    refine Ev.step (fun k => by rw [impl_LeafMax.l0]) ?_
    rw [he, wrap64_id (x := (i : Int) + 1) (by omega) (by omega)]
    refine Ev.pos (by omega) (Ev.pos (by omega) (Ev.pos (by omega) (Ev.pos hb.1 (Ev.pos hb.2 ?_))))
    generalize (ws.drop (i + 1)).foldl (mstep s) (mstep s st ws[i]) = R at this ⊢
    unfold mstep at this
    by_cases h0 : (rd_T57 s ws[i]).f2 = 0
    · rw [if_pos h0] at this
      exact Ev.pos h0 (Ev.neg (by omega) (by simpa using this))
    · rw [if_neg h0] at this
      refine Ev.neg h0 ?_
      by_cases h2 : (rd_T57 s ws[i]).f2 = 2
      · rw [if_pos h2] at this; exact Ev.pos h2 (by simpa using this)
      · rw [if_neg h2] at this; exact Ev.neg h2 (by simpa using this)
def leafMx (s : List S57) (pos : Int) : Int × Int := (wayF s pos pos.toNat).foldl (mstep s) (0, 0)
def leafR (s : List S57) (i : Int) : Int × Int × Int × Bool :=
  if 0 ≤ i ∧ i < (leaves s).length then ((rd_T57 s (rd (leaves s) i)).f1, (leafMx s (rd (leaves s) i)).2, (leafMx s (rd (leaves s) i)).1, true) else (0, 0, 0, false)
/-- What is known of the leaf number i. -/
theorem leaf_pos {s : List S57} {i : Int} (h0 : 0 ≤ i) (h1 : i < (leaves s).length) : ∃ pos : Nat, rd (leaves s) i = (pos : Int) ∧ pos < s.length ∧ 0 < pos ∧ schOk s = true := by
  have hk : schOk s = true := by
    unfold leaves at h1
    split at h1
    · assumption
    · simp at h1; omega
  have hm : rd (leaves s) i ∈ leaves s := by rw [rd_eq (by omega)]; exact List.getElem_mem _
  have hm2 : rd (leaves s) i ∈ lvs s s.length := by
    have e : leaves s = lvs s s.length := by unfold leaves; rw [if_pos hk]
    rw [e] at hm ⊢; exact hm
  obtain ⟨m0, m1, m7⟩ := lvs_mem s s.length _ hm2
  obtain ⟨_, _, hr, _⟩ := schOk_parts hk
  have hne : rd (leaves s) i ≠ 0 := by
    intro e
    rw [e] at m7
    unfold rootB at hr
    simp only [Bool.and_eq_true, decide_eq_true_eq] at hr
    exact m7 hr.1.1
  exact ⟨(rd (leaves s) i).toNat, by omega, by omega, by omega, hk⟩
theorem wayF_pos (s : List S57) (hk : schOk s = true) (pos : Nat) (hp : pos < s.length) (h0 : 0 < pos) : wayF s pos (pos + 1) = 0 :: wayF s pos pos ∧ wayF s pos pos ≠ [] := by
  obtain ⟨_, _, _, h4⟩ := schOk_parts hk
  refine ⟨?_, ?_⟩
  · rw [wayF, if_pos (by rw [show (pos : Int) - pos = 0 by omega]; unfold en; omega)]
    rw [show (pos : Int) - pos = 0 by omega]
  · have key : ∀ d : Nat, d ≤ pos → 1 ≤ d → wayF s pos d ≠ [] := by
      intro d
      induction d with
      | zero => intro _ h; omega
      | succ d ih =>
        intro hd _
        rw [wayF]
        by_cases hd0 : d = 0
        · subst hd0
          have := en_ok hk (pos : Int) (by omega) (by omega)
          rw [if_pos (by rw [show (pos : Int) - (0 : Nat) = pos by omega]; omega)]; simp
        · split
          · simp
          · exact ih (by omega) (by omega)
    exact key pos (Nat.le_refl _) h0
theorem spec_l5Max_ev (s : List S57) (hs : ColsOk s) (hk : schOk s = true) (pos : Nat) (hp : pos < s.length) (h0 : 0 < pos) : Ev (fun k => spec_l5Max.f k s (pos : Int)) (leafMx s pos) := by
  obtain ⟨hl2, hl, hr, _⟩ := schOk_parts hk
  unfold spec_l5Max.f
  refine Ev.bind (spec_l5Way_ev s hs hk pos hp) ?_
  obtain ⟨w1, _⟩ := wayF_pos s hk pos hp h0
  rw [w1]
  have hlen := wayF_length s pos pos
  have := spec_max_loop s (0 :: wayF s pos pos) (fun x hx => by
    rcases List.mem_cons.1 hx with rfl | h
    · omega
    · have := wayF_mem s pos pos x h; omega) (by simp; omega) (0 :: wayF s pos pos).length 0 (0, 0) (by omega)
  refine Ev.cast this ?_
  rw [List.drop_zero, List.foldl_cons]
  have e : mstep s (0, 0) 0 = (0, 0) := by
    unfold rootB at hr
    simp only [Bool.and_eq_true, decide_eq_true_eq] at hr
    unfold mstep; rw [if_pos hr.1.2]
  rw [e]; rfl
theorem spec_LeafOf_ev (s : List S57) (hs : ColsOk s) (i : Int) (hi0 : -9223372036854775808 ≤ i) (hi1 : i ≤ 9223372036854775807) : Ev (fun k => spec_LeafOf.f k s i) (leafR s i) := by
  unfold spec_LeafOf.f leafR
  have hll := leaves_length s
  have hl := hs.1
  refine Ev.bind (spec_SchemaLeaves_ev s hs) (Ev.here (l1In_some _ _ _) ?_)
  rw [wrap64_id (by omega) (by omega)]
  by_cases h : 0 ≤ i ∧ i < (leaves s).length
  · rw [if_pos h]
    obtain ⟨pos, hp, hps, hp0, hk⟩ := leaf_pos h.1 h.2
    rw [hp]
    exact Ev.pos (by simp; omega) (Ev.pos h.1 (Ev.pos h.2 (Ev.bind (spec_l5Max_ev s hs hk pos hps hp0) (Ev.pos (by omega) (Ev.pos (by omega) (Ev.now _))))))
  · rw [if_neg h]
    exact Ev.neg (by simp; omega) (Ev.now _)
theorem impl_LeafMax_ev (s : List S57) (hs : ColsOk s) (i : Int) (h0 : 0 ≤ i) (h1 : i < (leaves s).length) : Ev (fun k => impl_LeafMax.f k s i) (leafMx s (rd (leaves s) i)) := by
  have hll := leaves_length s
  have hl := hs.1
  obtain ⟨pos, hp, hps, hp0, hk⟩ := leaf_pos h0 h1
  obtain ⟨_, hl20, _, _⟩ := schOk_parts hk
  unfold impl_LeafMax.f impl_wayTo.f
  have hw : Ev (fun k => (impl_SchemaLeaves.f k s).bind fun t222 => ((impl_within.f i 0 (wrap64 ((t222.length : Int) - 1))).bind fun t225 => (if t225 = true then (impl_wayTo.l0 k s i t222 (([] : List Int)) 1) else (some ([] : List Int))))) (wayF s pos pos) := by
    refine Ev.bind (impl_SchemaLeaves_ev s hs) (Ev.here (within_some _ _ _) ?_)
    rw [wrap64_id (by omega) (by omega)]
    refine Ev.pos (by simp; omega) ?_
    have := impl_wayTo_loop s hs hk (leaves s) i h0 h1 pos hp hps pos pos 1 [] (by omega) (by omega) (by omega) (by simp)
    simpa using this
  refine Ev.bind hw ?_
  have hlen := wayF_length s pos pos
  obtain ⟨_, w2⟩ := wayF_pos s hk pos hps hp0
  have hne : ¬ ((wayF s pos pos).length : Int) = 0 := by
    intro e
    exact w2 (List.length_eq_zero_iff.1 (by omega))
  refine Ev.neg hne ?_
  have := impl_max_loop s (wayF s pos pos) (fun x hx => by have := wayF_mem s pos pos x hx; omega) (by omega) (wayF s pos pos).length 0 (0, 0) (by omega)
  refine Ev.cast this ?_
  rw [hp]; rfl
theorem impl_LeafOf_ev (s : List S57) (hs : ColsOk s) (i : Int) (hi0 : -9223372036854775808 ≤ i) (hi1 : i ≤ 9223372036854775807) : Ev (fun k => impl_LeafOf.f k s i) (leafR s i) := by
  unfold impl_LeafOf.f leafR
  have hll := leaves_length s
  have hl := hs.1
  refine Ev.bind (impl_SchemaLeaves_ev s hs) (Ev.here (within_some _ _ _) ?_)
  rw [wrap64_id (by omega) (by omega)]
  by_cases h : 0 ≤ i ∧ i < (leaves s).length
  · rw [if_pos h]
    obtain ⟨pos, hp, hps, hp0, hk⟩ := leaf_pos h.1 h.2
    exact Ev.pos (by simp; omega) (Ev.bind (impl_LeafMax_ev s hs i h.1 h.2) (Ev.pos h.1 (Ev.pos h.2 (Ev.pos (by rw [hp]; omega) (Ev.pos (by rw [hp]; omega) (Ev.now _))))))
  · rw [if_neg h]
    exact Ev.neg (by simp; omega) (Ev.now _)
theorem colsOk_of (l : List S42) (hl : l.length ≤ 1048576) (hw : ∀ y ∈ l, w42 y) : ColsOk (l.map cvCol) := by
  have h : ∀ i : Int, (rd_T57 (l.map cvCol) i).f0.size ≤ 9223372036854775807 ∧ (rd_T57 (l.map cvCol) i).f3 ≤ 9223372036854775807 := by
    intro i
    have e : rd_T57 (l.map cvCol) i = (l.map cvCol).getD i.toNat z57 := rfl
    rw [e]
    by_cases hi : i.toNat < l.length
    · rw [getD_eq (by simpa using hi), List.getElem_map]
      have := hw (l[i.toNat]) (List.getElem_mem _)
      obtain ⟨a, b, c, d⟩ := this
      have := i64_of d
      exact ⟨by unfold maxLen at a; exact a, this.2⟩
    · rw [List.getD_eq_getElem?_getD, List.getElem?_eq_none (by simp; omega)]
      exact ⟨by decide, by decide⟩
  exact ⟨by simpa using hl, fun i => (h i).1, fun i => (h i).2⟩
def I64 (x : Int) : Prop := -9223372036854775808 ≤ x ∧ x ≤ 9223372036854775807
theorem isPair_some (x : Int) : impl_isPair.f x = some (decide (x = 5 ∨ x = 6)) := by
  unfold impl_isPair.f
  by_cases h5 : x = 5
  · simp [h5]
  · by_cases h6 : x = 6 <;> simp [h5, h6]
def vz (v : S59) : Bool := decide (v.f0 = 0) && noText v.f1
/-- Whether a comparison, or a test for what is missing, is right of a schema. -/
def cmpB (s : List S57) (x : S61) : Bool := (leafR s x.f1).2.2.2 && decide ((leafR s x.f1).2.1 = 0) && decide (x.f3 = 0) && decide (x.f4 = 0) && (if x.f0 = 4 then vz x.f2 else vOk (leafR s x.f1).1 x.f2)
/-- Whether a place of a condition is right by itself. -/
def plB (s : List S57) (x : S61) : Bool :=
  if 1 ≤ x.f0 ∧ x.f0 ≤ 4 then cmpB s x else if x.f0 = 5 ∨ x.f0 = 6 then decide (x.f1 = 0) && vz x.f2 else if x.f0 = 7 then decide (x.f1 = 0) && vz x.f2 && decide (x.f4 = 0) else false
/-- Where what stands at a place begins; -1: it is not right. -/
def fr (p : List S61) : Nat → Int → Int
  | 0, _ => -1
  | d + 1, i => if i < 0 then -1 else
    if (rd_T61 p i).f0 = 7 then (if (rd_T61 p i).f3 = i - 1 then fr p d (i - 1) else -1)
    else if (rd_T61 p i).f0 = 5 ∨ (rd_T61 p i).f0 = 6 then (if (rd_T61 p i).f4 = i - 1 then (if fr p d (i - 1) < 1 then -1 else if (rd_T61 p i).f3 = fr p d (i - 1) - 1 then fr p d (fr p d (i - 1) - 1) else -1) else -1)
    else i
theorem fr_range (p : List S61) : ∀ (d : Nat) (i : Int), -1 ≤ fr p d i ∧ (fr p d i ≤ i ∨ fr p d i = -1)
  | 0, i => by simp [fr]
  | d + 1, i => by
    unfold fr
    have a := fr_range p d (i - 1)
    have b := fr_range p d (fr p d (i - 1) - 1)
    (repeat' split) <;> omega
theorem fr_more (p : List S61) : ∀ (d : Nat) (i : Int), i < d → fr p (d + 1) i = fr p d i
  | 0, i, h => by unfold fr; rw [if_pos (by omega)]
  | d + 1, i, h => by
    rw [fr]
    rw [show fr p (d + 1) i = if i < 0 then -1 else
      if (rd_T61 p i).f0 = 7 then (if (rd_T61 p i).f3 = i - 1 then fr p d (i - 1) else -1)
      else if (rd_T61 p i).f0 = 5 ∨ (rd_T61 p i).f0 = 6 then (if (rd_T61 p i).f4 = i - 1 then (if fr p d (i - 1) < 1 then -1 else if (rd_T61 p i).f3 = fr p d (i - 1) - 1 then fr p d (fr p d (i - 1) - 1) else -1) else -1)
      else i from rfl]
    have e1 := fr_more p d (i - 1) (by omega)
    have r1 := fr_range p d (i - 1)
    rw [e1]
    have e2 := fr_more p d (fr p d (i - 1) - 1) (by omega)
    rw [e2]
/-- The same with rounds enough. -/
def frm (p : List S61) (i : Int) : Int := fr p 40 i
theorem fr_succ (p : List S61) (d : Nat) (i : Int) : fr p (d + 1) i = if i < 0 then -1 else
      if (rd_T61 p i).f0 = 7 then (if (rd_T61 p i).f3 = i - 1 then fr p d (i - 1) else -1)
      else if (rd_T61 p i).f0 = 5 ∨ (rd_T61 p i).f0 = 6 then (if (rd_T61 p i).f4 = i - 1 then (if fr p d (i - 1) < 1 then -1 else if (rd_T61 p i).f3 = fr p d (i - 1) - 1 then fr p d (fr p d (i - 1) - 1) else -1) else -1)
      else i := by rw [fr]
theorem fr_eq (p : List S61) (D : Nat) (i : Int) (h0 : 0 ≤ i) (h : i < D) : fr p (D + 1) i =
    if (rd_T61 p i).f0 = 7 then (if (rd_T61 p i).f3 = i - 1 then fr p (D + 1) (i - 1) else -1)
    else if (rd_T61 p i).f0 = 5 ∨ (rd_T61 p i).f0 = 6 then (if (rd_T61 p i).f4 = i - 1 then (if fr p (D + 1) (i - 1) < 1 then -1 else if (rd_T61 p i).f3 = fr p (D + 1) (i - 1) - 1 then fr p (D + 1) (fr p (D + 1) (i - 1) - 1) else -1) else -1)
    else i := by
  have e1 := fr_more p D (i - 1) (by omega)
  have r1 := fr_range p D (i - 1)
  have e2 := fr_more p D (fr p D (i - 1) - 1) (by omega)
  rw [e1, e2, fr_succ p D i, if_neg (by omega)]
theorem frm_eq (p : List S61) (i : Int) (h0 : 0 ≤ i) (h : i < 39) : frm p i =
    if (rd_T61 p i).f0 = 7 then (if (rd_T61 p i).f3 = i - 1 then frm p (i - 1) else -1)
    else if (rd_T61 p i).f0 = 5 ∨ (rd_T61 p i).f0 = 6 then (if (rd_T61 p i).f4 = i - 1 then (if frm p (i - 1) < 1 then -1 else if (rd_T61 p i).f3 = frm p (i - 1) - 1 then frm p (frm p (i - 1) - 1) else -1) else -1)
    else i := by
  have := fr_eq p 39 i h0 (by omega)
  unfold frm
  exact this
theorem frm_neg (p : List S61) : frm p (-1) = -1 := by
  unfold frm; rw [fr, if_pos (by omega)]
theorem frm_range (p : List S61) (i : Int) : -1 ≤ frm p i ∧ (frm p i ≤ i ∨ frm p i = -1) := fr_range p 40 i
/-- What is right as a whole is right at each of its places. -/
theorem frm_all (p : List S61) : ∀ (N : Nat) (n : Int), n < N → 0 ≤ n → n < 39 → 0 ≤ frm p n → ∀ j, frm p n ≤ j → j ≤ n → 0 ≤ frm p j
  | 0, n, h, h0, _, _, _, _, _ => by omega
  | N + 1, n, h, h0, h39, hf, j, hj1, hj2 => by
    by_cases e : j = n
    · rw [e]; exact hf
    have hq := frm_eq p n h0 h39
    rw [hq] at hf hj1
    by_cases h7 : (rd_T61 p n).f0 = 7
    · rw [if_pos h7] at hf hj1
      by_cases ha : (rd_T61 p n).f3 = n - 1
      · rw [if_pos ha] at hf hj1
        have := frm_range p (n - 1)
        exact frm_all p N (n - 1) (by omega) (by omega) (by omega) hf j hj1 (by omega)
      · rw [if_neg ha] at hf; omega
    rw [if_neg h7] at hf hj1
    by_cases h5 : (rd_T61 p n).f0 = 5 ∨ (rd_T61 p n).f0 = 6
    · rw [if_pos h5] at hf hj1
      by_cases hb : (rd_T61 p n).f4 = n - 1
      · rw [if_pos hb] at hf hj1
        by_cases ht : frm p (n - 1) < 1
        · rw [if_pos ht] at hf; omega
        · rw [if_neg ht] at hf hj1
          by_cases ha : (rd_T61 p n).f3 = frm p (n - 1) - 1
          · rw [if_pos ha] at hf hj1
            have r1 := frm_range p (n - 1)
            by_cases hc : frm p (n - 1) ≤ j
            · exact frm_all p N (n - 1) (by omega) (by omega) (by omega) (by omega) j hc (by omega)
            · exact frm_all p N (frm p (n - 1) - 1) (by omega) (by omega) (by omega) hf j hj1 (by omega)
          · rw [if_neg ha] at hf; omega
      · rw [if_neg hb] at hf; omega
    · rw [if_neg h5] at hj1; omega
theorem tl_nil (b : ByteArray) : (b.toList == ([] : List UInt8)) = noText b := rfl
theorem em_nil : (⟨#[]⟩ : ByteArray).toList = ([] : List UInt8) := by unfold ByteArray.toList; unfold ByteArray.toList.loop; rfl
theorem impl_plainPred_ev (s : List S57) (hs : ColsOk s) (x : S61) (hx : I64 x.f1) : Ev (fun k => impl_plainPred.f k s x.f0 x.f1 x.f2.f0 x.f2.f1 x.f3 x.f4) (cmpB s x) := by
  have bad : ∀ {b} {u v t}, b = true → cmpB s x = false → Ev (fun k => impl_plainPred.j0 k b x.f0 x.f1 x.f2.f0 x.f2.f1 x.f3 x.f4 u v t) (cmpB s x) := fun {b u v t} hb h => by
    rw [h, hb]; exact Ev.step (fun k => by rw [impl_plainPred.j0]) (by exact Ev.pos rfl (Ev.now _))
  unfold impl_plainPred.f
  refine Ev.bind (impl_LeafOf_ev s hs x.f1 hx.1 hx.2) ?_
  cases h1 : (leafR s x.f1).2.2.2 with
  | false => exact Ev.neg (by decide) (bad rfl (by unfold cmpB; rw [h1]; rfl))
  | true =>
    refine Ev.pos rfl ?_
    by_cases h2 : (leafR s x.f1).2.1 = 0
    · refine Ev.pos h2 ?_
      by_cases h3 : x.f3 = 0
      · refine Ev.pos h3 ?_
        by_cases h4 : x.f4 = 0
        · refine Ev.step (fun k => by rw [impl_plainPred.j0]) ?_
          refine Ev.neg (by simp [h4]) ?_
          unfold cmpB vz
          rw [h1, decide_eq_true h2, decide_eq_true h3, decide_eq_true h4]
          by_cases h5 : x.f0 = 4
          · rw [if_pos h5, if_pos h5]; exact Ev.const (by rw [tl_nil]; by_cases a : x.f2.f0 = 0 <;> simp [a])
          · rw [if_neg h5, if_neg h5]; exact Ev.here (impl_ValOk_some _ x.f2) (Ev.const (by simp))
        · exact bad (by simp [h4]) (by unfold cmpB; rw [decide_eq_false h4]; simp)
      · exact Ev.neg h3 (bad rfl (by unfold cmpB; rw [decide_eq_false h3]; simp))
    · exact Ev.neg h2 (bad rfl (by unfold cmpB; rw [decide_eq_false h2]; simp))
theorem spec_l20Plain_ev (s : List S57) (hs : ColsOk s) (x : S61) (hx : I64 x.f1) : Ev (fun k => spec_l20Plain.f k s x.f0 x.f1 x.f2.f0 x.f2.f1 x.f3 x.f4) (plB s x) := by
  have main : ∀ b, b = decide (1 ≤ x.f0 ∧ x.f0 ≤ 3) → Ev (fun k => spec_l20Plain.j0 k s x.f0 b x.f0 x.f1 x.f2.f0 x.f2.f1 x.f3 x.f4 x.f0 0 0 (⟨#[]⟩ : ByteArray) 0 0) (plB s x) := by
    intro b hb
    refine Ev.step (fun k => by rw [spec_l20Plain.j0]) ?_
    unfold plB
    by_cases h13 : 1 ≤ x.f0 ∧ x.f0 ≤ 3
    · rw [hb, decide_eq_true h13, if_pos (show 1 ≤ x.f0 ∧ x.f0 ≤ 4 by omega)]
      refine Ev.pos rfl (Ev.bind (spec_LeafOf_ev s hs x.f1 hx.1 hx.2) ?_)
      unfold cmpB
      rw [if_neg (show ¬ x.f0 = 4 by omega)]
      cases h1 : (leafR s x.f1).2.2.2 with
      | false => exact Ev.neg (by decide) (Ev.const rfl)
      | true =>
        refine Ev.pos rfl ?_
        by_cases h2 : (leafR s x.f1).2.1 = 0
        · rw [decide_eq_true h2]
          refine Ev.pos h2 (Ev.bind (spec_ValOk_ev _ x.f2) ?_)
          cases hv : vOk (leafR s x.f1).1 x.f2 with
          | false => exact Ev.neg (by decide) (Ev.const (by simp))
          | true =>
            refine Ev.pos rfl ?_
            by_cases h3 : x.f3 = 0
            · rw [decide_eq_true h3]
              refine Ev.pos h3 (Ev.const ?_)
              by_cases h4 : x.f4 = 0 <;> simp [h4]
            · rw [decide_eq_false h3]; exact Ev.neg h3 (Ev.const (by simp))
        · rw [decide_eq_false h2]; exact Ev.neg h2 (Ev.const (by simp))
    · rw [hb, decide_eq_false h13]
      refine Ev.neg (by decide) ?_
      by_cases h4 : x.f0 = 4
      · rw [if_pos (show 1 ≤ x.f0 ∧ x.f0 ≤ 4 by omega)]
        refine Ev.pos h4 (Ev.bind (spec_LeafOf_ev s hs x.f1 hx.1 hx.2) ?_)
        unfold cmpB vz
        rw [if_pos h4]
        cases h1 : (leafR s x.f1).2.2.2 with
        | false => exact Ev.neg (by decide) (Ev.const rfl)
        | true =>
          refine Ev.pos rfl ?_
          by_cases h2 : (leafR s x.f1).2.1 = 0
          · rw [decide_eq_true h2, em_nil, tl_nil]
            refine Ev.pos h2 (Ev.const ?_)
            by_cases a : x.f2.f0 = 0 <;> by_cases b : x.f3 = 0 <;> by_cases c : x.f4 = 0 <;> cases noText x.f2.f1 <;> simp [a, b, c]
          · rw [decide_eq_false h2]; exact Ev.neg h2 (Ev.const (by simp))
      · rw [if_neg (show ¬ (1 ≤ x.f0 ∧ x.f0 ≤ 4) by omega)]
        refine Ev.neg h4 ?_
        have tail : ∀ c, c = decide (x.f0 = 5 ∨ x.f0 = 6) → Ev (fun k => spec_l20Plain.j1 k x.f0 c x.f0 x.f1 x.f2.f0 x.f2.f1 x.f3 x.f4 x.f0 0 0 (⟨#[]⟩ : ByteArray) 0 0) (if x.f0 = 5 ∨ x.f0 = 6 then decide (x.f1 = 0) && vz x.f2 else if x.f0 = 7 then decide (x.f1 = 0) && vz x.f2 && decide (x.f4 = 0) else false) := by
          intro c hc
          refine Ev.step (fun k => by rw [spec_l20Plain.j1]) ?_
          rw [em_nil, tl_nil]
          unfold vz
          by_cases h5 : x.f0 = 5 ∨ x.f0 = 6
          · rw [hc, decide_eq_true h5, if_pos h5]
            refine Ev.pos rfl (Ev.const ?_)
            by_cases a : x.f1 = 0 <;> by_cases b : x.f2.f0 = 0 <;> cases noText x.f2.f1 <;> simp [a, b]
          · rw [hc, decide_eq_false h5, if_neg h5]
            refine Ev.neg (by decide) ?_
            by_cases h7 : x.f0 = 7
            · rw [if_pos h7, if_pos h7]
              refine Ev.const ?_
              by_cases a : x.f1 = 0 <;> by_cases b : x.f2.f0 = 0 <;> by_cases d : x.f4 = 0 <;> cases noText x.f2.f1 <;> simp [a, b, d]
            · rw [if_neg h7, if_neg h7]; exact Ev.now _
        by_cases h5 : x.f0 = 5
        · exact Ev.pos h5 (tail _ (by simp [h5]))
        · exact Ev.neg h5 (tail _ (by by_cases h6 : x.f0 = 6 <;> simp [h5, h6]))
  unfold spec_l20Plain.f
  by_cases h1 : x.f0 = 1
  · exact Ev.pos h1 (main _ (by simp [h1]))
  · refine Ev.neg h1 ?_
    by_cases h2 : x.f0 = 2
    · exact Ev.pos h2 (main _ (by simp [h2]))
    · refine Ev.neg h2 (main _ ?_)
      by_cases h3 : x.f0 = 3
      · simp [h3]
      · rw [decide_eq_false (show ¬ (1 ≤ x.f0 ∧ x.f0 ≤ 3) by omega)]; simp [h3]
theorem spec_l20From_ev (p : List S61) (hp : p.length ≤ 31) : ∀ (N : Nat) (i : Int), i < N → -1 ≤ i → i < p.length → Ev (fun k => spec_l20From.f k p i) (frm p i) := by
  intro N
  induction N with
  | zero =>
    intro i h h1 _
    obtain rfl : i = -1 := by omega
    rw [frm_neg]
    refine Ev.step (fun k => by rw [spec_l20From.f]) ?_
    exact Ev.pos (by omega) (Ev.now _)
  | succ N ih =>
    intro i h h1 h2
    by_cases hneg : i < 0
    · obtain rfl : i = -1 := by omega
      rw [frm_neg]
      refine Ev.step (fun k => by rw [spec_l20From.f]) ?_
      exact Ev.pos (by omega) (Ev.now _)
    refine Ev.step (fun k => by rw [spec_l20From.f]) ?_
    have w : wrap64 (i - 1) = i - 1 := wrap64_id (by omega) (by omega)
    have hr := frm_range p (i - 1)
    rw [frm_eq p i (by omega) (by omega), w]
    refine Ev.neg hneg (Ev.pos (by omega) (Ev.pos h2 ?_))
    by_cases h7 : (rd_T61 p i).f0 = 7
    · rw [if_pos h7]
      refine Ev.pos h7 ?_
      by_cases ha : (rd_T61 p i).f3 = i - 1
      · rw [if_pos ha]; exact Ev.pos ha (Ev.bind (ih (i - 1) (by omega) (by omega) (by omega)) (Ev.now _))
      · rw [if_neg ha]; exact Ev.neg ha (Ev.now _)
    rw [if_neg h7]
    refine Ev.neg h7 ?_
    have tail : ∀ c, c = decide ((rd_T61 p i).f0 = 5 ∨ (rd_T61 p i).f0 = 6) → Ev (fun k => spec_l20From.j0 k p i c) (if (rd_T61 p i).f0 = 5 ∨ (rd_T61 p i).f0 = 6 then (if (rd_T61 p i).f4 = i - 1 then (if frm p (i - 1) < 1 then -1 else if (rd_T61 p i).f3 = frm p (i - 1) - 1 then frm p (frm p (i - 1) - 1) else -1) else -1) else i) := by
      intro c hc
      refine Ev.step (fun k => by rw [spec_l20From.j0]) ?_
      rw [w]
      by_cases h5 : (rd_T61 p i).f0 = 5 ∨ (rd_T61 p i).f0 = 6
      · rw [hc, decide_eq_true h5, if_pos h5]
        refine Ev.pos rfl (Ev.pos (by omega) (Ev.pos h2 ?_))
        by_cases hb : (rd_T61 p i).f4 = i - 1
        · rw [if_pos hb]
          refine Ev.pos hb (Ev.bind (ih (i - 1) (by omega) (by omega) (by omega)) ?_)
          by_cases ht : frm p (i - 1) < 1
          · rw [if_pos ht]; exact Ev.pos ht (Ev.now _)
          · rw [if_neg ht, wrap64_id (x := frm p (i - 1) - 1) (by omega) (by omega)]
            refine Ev.neg ht ?_
            by_cases ha : (rd_T61 p i).f3 = frm p (i - 1) - 1
            · rw [if_pos ha]; exact Ev.pos ha (Ev.bind (ih (frm p (i - 1) - 1) (by omega) (by omega) (by omega)) (Ev.now _))
            · rw [if_neg ha]; exact Ev.neg ha (Ev.now _)
        · rw [if_neg hb]; exact Ev.neg hb (Ev.now _)
      · rw [hc, decide_eq_false h5, if_neg h5]; exact Ev.neg (by decide) (Ev.now _)
    by_cases h5 : (rd_T61 p i).f0 = 5
    · exact Ev.pos h5 (tail _ (by simp [h5]))
    · exact Ev.neg h5 (tail _ (by by_cases h6 : (rd_T61 p i).f0 = 6 <;> simp [h5, h6]))
/-- A condition that is right. -/
def predB (s : List S57) (p : List S61) : Bool := schOk s && decide (1 ≤ (p.length : Int) ∧ (p.length : Int) ≤ 31) && (p.all (plB s) && decide (frm p ((p.length : Int) - 1) = 0))
def PredI (p : List S61) : Prop := ∀ i : Int, I64 (rd_T61 p i).f1
theorem spec_PredOk_ev (s : List S57) (hs : ColsOk s) (p : List S61) (hp : p.length ≤ 1048576) (hI : PredI p) : Ev (fun k => spec_PredOk.f k s p) (predB s p) := by
  have bad : ∀ {b}, b = true → predB s p = false → Ev (fun k => spec_PredOk.j0 k s p b) (predB s p) := fun {b} hb h => by
    rw [h, hb]; exact Ev.step (fun k => by rw [spec_PredOk.j0]) (by exact Ev.pos rfl (Ev.now _))
  unfold spec_PredOk.f
  refine Ev.bind (spec_SchemaOk_ev s hs) ?_
  cases hk : schOk s with
  | false => exact Ev.neg (by decide) (bad rfl (by unfold predB; rw [hk]; rfl))
  | true =>
    refine Ev.pos rfl (Ev.here (l1In_some _ _ _) ?_)
    by_cases hn : 1 ≤ (p.length : Int) ∧ (p.length : Int) ≤ 31
    · rw [decide_eq_true hn]
      refine Ev.step (fun k => by rw [spec_PredOk.j0]) ?_
      refine Ev.neg (by decide) ?_
      have key := all_loop (fun k j => spec_PredOk.l0 k s p j) (fun j => plB s (p.getD j z61)) p.length false (decide (frm p ((p.length : Int) - 1) = 0))
        (fun j r hj hp2 hr => by
          have e : rd_T61 p (j : Int) = p.getD j z61 := rfl
          refine Ev.step (fun k => by rw [spec_PredOk.l0]) ?_
          refine Ev.pos (by omega) (Ev.pos (by omega) (Ev.bind (spec_l20Plain_ev s hs _ (hI j)) ?_))
          rw [e, hp2]
          refine Ev.pos rfl ?_
          rw [wrap64_id (by omega) (by omega)]
          simpa using hr)
        (fun j hj hp2 => by
          have e : rd_T61 p (j : Int) = p.getD j z61 := rfl
          refine Ev.step (fun k => by rw [spec_PredOk.l0]) ?_
          refine Ev.pos (by omega) (Ev.pos (by omega) (Ev.bind (spec_l20Plain_ev s hs _ (hI j)) ?_))
          rw [e, hp2]
          exact Ev.neg (by decide) (Ev.now _))
        (by
          refine Ev.step (fun k => by rw [spec_PredOk.l0]) ?_
          rw [wrap64_id (x := (p.length : Int) - 1) (by omega) (by omega)]
          exact Ev.neg (by omega) (Ev.bind (spec_l20From_ev p (by omega) 40 _ (by omega) (by omega) (by omega)) (Ev.const rfl)))
      refine Ev.cast key ?_
      rw [all_range]
      unfold predB
      rw [hk, decide_eq_true hn]
      cases p.all (plB s) <;> simp
    · rw [decide_eq_false hn]
      exact bad rfl (by unfold predB; rw [decide_eq_false hn]; simp)
def BsOk (p : List S61) (i : Nat) (bs : List Int) : Prop := bs.length = p.length ∧ ∀ j : Nat, j < i → rd bs (j : Int) = frm p (j : Int) ∧ 0 ≤ frm p (j : Int)
theorem rd_set_self (bs : List Int) (i : Nat) (h : i < bs.length) (v : Int) : rd (bs.set i v) (i : Int) = v := by
  rw [rd_eq (by simpa using h)]; simp
theorem rd_set_ne (bs : List Int) (i : Nat) (v : Int) (j : Nat) (h : j ≠ i) : rd (bs.set i v) (j : Int) = rd bs (j : Int) := by
  unfold rd
  simp only [Int.toNat_natCast, List.getD_eq_getElem?_getD]
  rw [List.getElem?_set_ne (by omega)]
theorem BsOk.snoc {p : List S61} {i : Nat} {bs : List Int} (h : BsOk p i bs) (hi : i < p.length) (v : Int) (hv : v = frm p (i : Int)) (h0 : 0 ≤ v) : BsOk p (i + 1) (bs.set i v) := by
  refine ⟨by simpa using h.1, fun j hj => ?_⟩
  by_cases e : j = i
  · subst e; rw [rd_set_self _ _ (by rw [h.1]; exact hi)]; exact ⟨hv, by rw [← hv]; exact h0⟩
  · rw [rd_set_ne _ _ _ _ e]; exact h.2 j (by omega)
theorem impl_pred_loop (s : List S57) (hs : ColsOk s) (p : List S61) (hp1 : 1 ≤ p.length) (hp : p.length ≤ 31) (hI : PredI p) : ∀ (d i : Nat) (bs : List Int), i + d = p.length → BsOk p i bs →
    Ev (fun k => impl_PredOk.l0 k s p bs p (p.length : Int) (i : Int)) ((p.drop i).all (plB s) && decide (frm p ((p.length : Int) - 1) = 0)) := by
  intro d
  induction d with
  | zero =>
    intro i bs hi hb
    obtain rfl : i = p.length := by omega
    have hbl := hb.1
    obtain ⟨e1, e2⟩ := hb.2 (p.length - 1) (by omega)
    have ec : ((p.length - 1 : Nat) : Int) = (p.length : Int) - 1 := by omega
    rw [ec] at e1
    refine Ev.step (fun k => by rw [impl_PredOk.l0]) ?_
    rw [wrap64_id (x := (p.length : Int) - 1) (by omega) (by omega), e1]
    refine Ev.neg (by omega) (Ev.pos (by omega) (Ev.pos (by omega) (Ev.const ?_)))
    rw [List.drop_eq_nil_of_le (Nat.le_refl _)]
    rfl
  | succ d ih =>
    intro i bs hi hb
    have hil : i < p.length := by omega
    have hbl := hb.1
    have ex : p.drop i = rd_T61 p (i : Int) :: p.drop (i + 1) := by
      rw [List.drop_eq_getElem_cons hil]
      have e : rd_T61 p (i : Int) = p.getD i z61 := rfl
      rw [e, getD_eq hil]
    rw [ex, List.all_cons]
    have hfq := frm_eq p (i : Int) (by omega) (by omega)
    have hIi := hI (i : Int)
    -- what comes to 'no'
    have no : (plB s (rd_T61 p (i : Int)) = false ∨ frm p (i : Int) < 0) → (plB s (rd_T61 p (i : Int)) && (p.drop (i + 1)).all (plB s) && decide (frm p ((p.length : Int) - 1) = 0)) = false := by
      intro h
      rcases h with h | h
      · rw [h]; simp
      · have : decide (frm p ((p.length : Int) - 1) = 0) = false := by
          apply decide_eq_false
          intro hz
          have := frm_all p p.length ((p.length : Int) - 1) (by omega) (by omega) (by omega) (by omega) (i : Int) (by omega) (by omega)
          omega
        rw [this]; simp
    -- what comes to the next place
    have yes : ∀ v : Int, plB s (rd_T61 p (i : Int)) = true → v = frm p (i : Int) → 0 ≤ v → Ev (fun k => impl_PredOk.l0 k s p (bs.set i v) p (p.length : Int) ((i : Int) + 1)) (plB s (rd_T61 p (i : Int)) && (p.drop (i + 1)).all (plB s) && decide (frm p ((p.length : Int) - 1) = 0)) := by
      intro v h1 h2 h3
      rw [h1, Bool.true_and]
      have := ih (i + 1) (bs.set i v) (by omega) (hb.snoc hil v h2 h3)
      simpa using this
    have j4 : ∀ bs' r, Ev (fun k => impl_PredOk.l0 k s p bs' p (p.length : Int) ((i : Int) + 1)) r → Ev (fun k => impl_PredOk.l0 k s p bs' p (p.length : Int) (wrap64 ((i : Int) + 1))) r := fun bs' r h => by
      rw [wrap64_id (x := (i : Int) + 1) (by omega) (by omega)]; exact h
    have j3 : ∀ bs' r, Ev (fun k => impl_PredOk.l0 k s p bs' p (p.length : Int) ((i : Int) + 1)) r → Ev (fun k => impl_PredOk.l0 k s p bs' p (p.length : Int) (wrap64 ((i : Int) + 1))) r := fun bs' r h => j4 bs' r h
    refine Ev.step (fun k => by rw [impl_PredOk.l0]) ?_
    rw [Int.toNat_natCast]
    generalize hX : rd_T61 p (i : Int) = x at *
    refine Ev.pos (by omega) (Ev.pos (by omega) (Ev.pos (by omega) (Ev.pos (by omega) (Ev.here rfl (Ev.here (within_some _ _ _) ?_)))))
    have hiz : (rd (bs.set i (i : Int)) ((i : Int) - 1) = rd bs ((i : Int) - 1)) ∨ i = 0 := by
      by_cases h0 : i = 0
      · exact .inr h0
      · left
        have := rd_set_ne bs i (i : Int) (i - 1) (by omega)
        rw [show ((i - 1 : Nat) : Int) = (i : Int) - 1 by omega] at this
        exact this
    have hprev : i ≠ 0 → rd bs ((i : Int) - 1) = frm p ((i : Int) - 1) ∧ 0 ≤ frm p ((i : Int) - 1) := fun h0 => by
      have := hb.2 (i - 1) (by omega)
      rw [show ((i - 1 : Nat) : Int) = (i : Int) - 1 by omega] at this
      exact this
    have w : wrap64 ((i : Int) - 1) = (i : Int) - 1 := wrap64_id (by omega) (by omega)
    by_cases h14 : 1 ≤ x.f0 ∧ x.f0 ≤ 4
    · have hpl : plB s x = cmpB s x := by unfold plB; rw [if_pos h14]
      refine Ev.pos (decide_eq_true h14) (Ev.bind (impl_plainPred_ev s hs x hIi) ?_)
      cases hc : cmpB s x with
      | true =>
        refine Ev.pos rfl (j4 _ _ ?_)
        refine yes (i : Int) (by rw [hpl, hc]) ?_ (by omega)
        rw [hfq, if_neg (by omega), if_neg (by omega)]
      | false =>
        have := no (.inl (by rw [hpl, hc]))
        rw [this]
        exact Ev.neg (by decide) (Ev.now _)
    refine Ev.neg (by rw [decide_eq_false h14]; decide) (Ev.here (isPair_some x.f0) ?_)
    by_cases h5 : x.f0 = 5 ∨ x.f0 = 6
    · rw [decide_eq_true h5]
      refine Ev.pos rfl ?_
      have h7 : ¬ x.f0 = 7 := by omega
      rw [if_neg h7, if_pos h5] at hfq
      have hpl : plB s x = (decide (x.f1 = 0) && vz x.f2) := by unfold plB; rw [if_neg h14, if_pos h5]
      have jbad : ∀ y6, (plB s x = false ∨ frm p (i : Int) < 0) → Ev (fun k => impl_PredOk.j2 k s p (bs.set i (i : Int)) y6 p (p.length : Int) (i : Int) true x.f0 x.f1 x.f2.f0 x.f2.f1 x.f3 x.f4) (plB s x && (p.drop (i + 1)).all (plB s) && decide (frm p ((p.length : Int) - 1) = 0)) := fun y6 h => by
        rw [no h]; exact Ev.step (fun k => by rw [impl_PredOk.j2]) (by exact Ev.pos rfl (Ev.now _))
      by_cases h0 : i = 0
      · subst h0
        refine Ev.pos rfl (jbad _ (.inr ?_))
        rw [hfq]
        have := frm_neg p
        by_cases hb4 : x.f4 = ((0 : Nat) : Int) - 1
        · rw [if_pos hb4, show ((0 : Nat) : Int) - 1 = -1 by omega, this]; simp
        · rw [if_neg hb4]; omega
      · obtain ⟨e1, e2⟩ := hprev h0
        have e3 : rd (bs.set i (i : Int)) ((i : Int) - 1) = frm p ((i : Int) - 1) := by
          rcases hiz with h | h
          · rw [h, e1]
          · exact absurd h h0
        have hfr := frm_range p ((i : Int) - 1)
        refine Ev.neg (by omega) ?_
        rw [w, e3]
        refine Ev.pos (by omega) (Ev.pos (by omega) ?_)
        by_cases ht : frm p ((i : Int) - 1) = 0
        · refine Ev.pos ht (jbad _ (.inr ?_))
          rw [hfq]
          by_cases hb4 : x.f4 = (i : Int) - 1
          · rw [if_pos hb4, if_pos (by omega)]; omega
          · rw [if_neg hb4]; omega
        · refine Ev.neg ht ?_
          rw [wrap64_id (x := frm p ((i : Int) - 1) - 1) (by omega) (by omega)]
          by_cases ok : plB s x = true ∧ x.f3 = frm p ((i : Int) - 1) - 1 ∧ x.f4 = (i : Int) - 1
          · obtain ⟨o1, o2, o3⟩ := ok
            have hz := o1
            rw [hpl] at hz
            unfold vz noText at hz
            simp only [Bool.and_eq_true, decide_eq_true_eq, beq_iff_eq] at hz
            have hbit : (!(x.f1 == 0) || ((!(x.f2.f0 == 0) || (!((x.f2.f1.toList) == ([] : List UInt8)))) || (!(x.f3 == frm p ((i : Int) - 1) - 1) || (!(x.f4 == (i : Int) - 1))))) = false := by
              simp [hz.1, hz.2.1, hz.2.2, o2, o3]
            obtain ⟨J, hJ⟩ : ∃ J : Nat, x.f3 = (J : Int) := ⟨x.f3.toNat, by omega⟩
            have hJi : J < i := by omega
            have eJ : rd (bs.set i (i : Int)) (J : Int) = frm p (J : Int) := by rw [rd_set_ne _ _ _ _ (by omega)]; exact (hb.2 J hJi).1
            have e0 := (hb.2 J hJi).2
            have hgoal : Ev (fun k => impl_PredOk.j2 k s p (bs.set i (i : Int)) (i : Int) p (p.length : Int) (i : Int) false x.f0 x.f1 x.f2.f0 x.f2.f1 x.f3 x.f4) (plB s x && (p.drop (i + 1)).all (plB s) && decide (frm p ((p.length : Int) - 1) = 0)) := by
              refine Ev.step (fun k => by rw [impl_PredOk.j2]) ?_
              rw [hJ, eJ, Int.toNat_natCast, List.set_set]
              refine Ev.neg (by decide) (Ev.pos (by omega) (Ev.pos (by simp; omega) (Ev.pos (by omega) (Ev.pos (by simp; omega) (j3 _ _ (yes _ o1 ?_ e0))))))
              rw [hfq, if_pos o3, if_neg (by omega), if_pos o2, ← o2, hJ]
            exact Ev.congr (fun k => by congr 1) hgoal
          · have hbit : (plB s x = false ∨ frm p (i : Int) < 0) := by
              by_cases o1 : plB s x = true
              · right
                rw [hfq]
                by_cases hb4 : x.f4 = (i : Int) - 1
                · rw [if_pos hb4, if_neg (by omega), if_neg (fun h => ok ⟨o1, h, hb4⟩)]; omega
                · rw [if_neg hb4]; omega
              · left; simpa using o1
            have hb2 : (!(x.f1 == 0) || ((!(x.f2.f0 == 0) || (!((x.f2.f1.toList) == ([] : List UInt8)))) || (!(x.f3 == frm p ((i : Int) - 1) - 1) || (!(x.f4 == (i : Int) - 1))))) = true := by
              rw [hpl] at ok
              unfold vz noText at ok
              by_cases a1 : x.f1 = 0
              · by_cases a2 : x.f2.f0 = 0
                · by_cases a3 : x.f2.f1.toList = ([] : List UInt8)
                  · by_cases a5 : x.f3 = frm p ((i : Int) - 1) - 1
                    · by_cases a6 : x.f4 = (i : Int) - 1
                      · exact absurd ⟨by simp [a1, a2, a3], a5, a6⟩ ok
                      · simp [a6]
                    · simp [a5]
                  · simp [a3]
                · simp [a2]
              · simp [a1]
            exact Ev.congr (fun k => by congr 1) (jbad (i : Int) hbit)
    · rw [decide_eq_false h5]
      refine Ev.neg (by decide) ?_
      by_cases h7 : x.f0 = 7
      · refine Ev.pos h7 ?_
        rw [if_pos h7] at hfq
        have hpl : plB s x = (decide (x.f1 = 0) && vz x.f2 && decide (x.f4 = 0)) := by unfold plB; rw [if_neg h14, if_neg h5, if_pos h7]
        by_cases h0 : i = 0
        · subst h0
          rw [no (.inr (by
            rw [hfq]
            by_cases ha : x.f3 = ((0 : Nat) : Int) - 1
            · rw [if_pos ha, show ((0 : Nat) : Int) - 1 = -1 by omega, frm_neg]; omega
            · rw [if_neg ha]; omega))]
          exact Ev.pos rfl (Ev.now _)
        · refine Ev.neg (by omega) ?_
          rw [w]
          obtain ⟨e1, e2⟩ := hprev h0
          have e3 : rd (bs.set i (i : Int)) ((i : Int) - 1) = frm p ((i : Int) - 1) := by
            rcases hiz with h | h
            · rw [h, e1]
            · exact absurd h h0
          by_cases ok : plB s x = true ∧ x.f3 = (i : Int) - 1
          · obtain ⟨o1, o2⟩ := ok
            have hz := o1
            rw [hpl] at hz
            unfold vz noText at hz
            simp only [Bool.and_eq_true, decide_eq_true_eq, beq_iff_eq] at hz
            refine Ev.neg (by simp [h7, hz.1.1, hz.1.2.1, hz.1.2.2, hz.2, o2]) ?_
            rw [o2, e3, List.set_set]
            refine Ev.pos (by omega) (Ev.pos (by omega) (j3 _ _ (yes _ o1 ?_ e2)))
            rw [hfq, if_pos o2]
          · have hbit : (plB s x = false ∨ frm p (i : Int) < 0) := by
              by_cases o1 : plB s x = true
              · right
                rw [hfq, if_neg (fun h => ok ⟨o1, h⟩)]; omega
              · left; simpa using o1
            rw [no hbit]
            refine Ev.pos ?_ (Ev.now _)
            rw [hpl] at ok
            unfold vz noText at ok
            by_cases a1 : x.f1 = 0 <;> by_cases a2 : x.f2.f0 = 0 <;> by_cases a3 : x.f2.f1.toList = ([] : List UInt8) <;> by_cases a4 : x.f4 = 0 <;> by_cases a5 : x.f3 = (i : Int) - 1 <;> simp_all
      · refine Ev.neg h7 ?_
        rw [no (.inl (by unfold plB; rw [if_neg h14, if_neg h5, if_neg h7]))]
        exact Ev.now _
theorem impl_PredOk_ev (s : List S57) (hs : ColsOk s) (p : List S61) (hp : p.length ≤ 1048576) (hI : PredI p) : Ev (fun k => impl_PredOk.f k s p) (predB s p) := by
  have bad : ∀ {b}, b = true → predB s p = false → Ev (fun k => impl_PredOk.j0 k s p b) (predB s p) := fun {b} hb h => by
    rw [h, hb]; exact Ev.step (fun k => by rw [impl_PredOk.j0]) (by exact Ev.pos rfl (Ev.now _))
  unfold impl_PredOk.f
  refine Ev.bind (impl_SchemaOk_ev s hs) ?_
  cases hk : schOk s with
  | false => exact Ev.neg (by decide) (bad rfl (by unfold predB; rw [hk]; rfl))
  | true =>
    refine Ev.pos rfl (Ev.here (within_some _ _ _) ?_)
    by_cases hn : 1 ≤ (p.length : Int) ∧ (p.length : Int) ≤ 31
    · rw [decide_eq_true hn]
      refine Ev.step (fun k => by rw [impl_PredOk.j0]) ?_
      refine Ev.neg (by decide) (Ev.pos (by omega) (Ev.pos (by omega) ?_))
      have := impl_pred_loop s hs p (by omega) (by omega) hI p.length 0 (List.replicate ((p.length : Int)).toNat 0) (by omega) ⟨by simp, fun j hj => absurd hj (by omega)⟩
      refine Ev.cast this ?_
      unfold predB
      rw [hk, decide_eq_true hn, List.drop_zero]; rfl
    · rw [decide_eq_false hn]
      exact bad rfl (by unfold predB; rw [decide_eq_false hn]; simp)
theorem pl_in {p : List S61} {j : Int} (h0 : 0 ≤ j) (h39 : j < 39) (hf : 0 ≤ frm p j) :
    ((rd_T61 p j).f0 = 7 → 0 ≤ (rd_T61 p j).f3 ∧ (rd_T61 p j).f3 < j) ∧ (((rd_T61 p j).f0 = 5 ∨ (rd_T61 p j).f0 = 6) → (0 ≤ (rd_T61 p j).f3 ∧ (rd_T61 p j).f3 < j) ∧ (0 ≤ (rd_T61 p j).f4 ∧ (rd_T61 p j).f4 < j)) := by
  have r := frm_range p (j - 1)
  rw [frm_eq p j h0 h39] at hf
  generalize rd_T61 p j = x at *
  constructor
  · intro h7
    rw [if_pos h7] at hf
    by_cases ha : x.f3 = j - 1
    · rw [if_pos ha] at hf; omega
    · rw [if_neg ha] at hf; omega
  · intro h5
    rw [if_neg (by omega), if_pos h5] at hf
    by_cases hb : x.f4 = j - 1
    · rw [if_pos hb] at hf
      by_cases ht : frm p (j - 1) < 1
      · rw [if_pos ht] at hf; omega
      · rw [if_neg ht] at hf
        by_cases ha : x.f3 = frm p (j - 1) - 1
        · omega
        · rw [if_neg ha] at hf; omega
    · rw [if_neg hb] at hf; omega
/-- What a comparison, or a test for what is missing, tells of what is known. -/
def mayV (t : Int) (x : S61) (st : S64) : Bool × Bool :=
  if x.f0 = 1 then (st.f1 && (!vLess t x.f2 st.f2 && !vLess t st.f3 x.f2), decide (0 < st.f0) || (st.f1 && (vne st.f2 x.f2 || vne st.f3 x.f2)))
  else if x.f0 = 2 then (st.f1 && vLess t st.f2 x.f2, decide (0 < st.f0) || (st.f1 && !vLess t st.f3 x.f2))
  else if x.f0 = 3 then (st.f1 && !vLess t x.f2 st.f2, decide (0 < st.f0) || (st.f1 && vLess t x.f2 st.f3))
  else (decide (0 < st.f0), st.f1)
def leafM (s : List S57) (kn : List S66) (x : S61) : Bool × Bool := if (rd_T66 kn x.f1).f0 = true then mayV (leafR s x.f1).1 x (rd_T66 kn x.f1).f1 else (true, true)
theorem spec_leaf_ev (t : Int) (x : S61) (st : S64) : Ev (fun k => l20Leaf k t x st) (mayV t x st) := by
  unfold l20Leaf mayV
  by_cases k1 : x.f0 = 1
  · simp only [if_pos k1]
    cases hh : st.f1 with
    | false => simp only [Bool.false_eq_true, if_false]; exact Ev.const rfl
    | true =>
      simp only [if_true]
      refine Ev.bind (a := (!vLess t x.f2 st.f2 && !vLess t st.f3 x.f2)) ?_ (Ev.const (by simp))
      refine Ev.bind (spec_ValLess_ev t x.f2 st.f2) ?_
      cases vLess t x.f2 st.f2 with
      | true => exact Ev.pos rfl (Ev.const (by simp))
      | false => exact Ev.neg (by decide) (Ev.bind (spec_ValLess_ev t st.f3 x.f2) (Ev.const (by simp)))
  by_cases k2 : x.f0 = 2
  · simp only [if_neg k1, if_pos k2]
    cases hh : st.f1 with
    | false =>
      simp only [Bool.false_eq_true, if_false]
      by_cases h0 : 0 < st.f0
      · simp only [if_pos h0]; exact Ev.const (by simp [h0])
      · simp only [if_neg h0]; exact Ev.const (by simp [h0])
    | true =>
      simp only [if_true]
      refine Ev.bind (spec_ValLess_ev t st.f2 x.f2) ?_
      by_cases h0 : 0 < st.f0
      · simp only [if_pos h0]; exact Ev.const (by simp [h0])
      · simp only [if_neg h0]
        exact Ev.bind (a := !vLess t st.f3 x.f2) (Ev.bind (spec_ValLess_ev t st.f3 x.f2) (Ev.const rfl)) (Ev.const (by simp [h0]))
  by_cases k3 : x.f0 = 3
  · simp only [if_neg k1, if_neg k2, if_pos k3]
    cases hh : st.f1 with
    | false =>
      simp only [Bool.false_eq_true, if_false]
      by_cases h0 : 0 < st.f0
      · simp only [if_pos h0]; exact Ev.const (by simp [h0])
      · simp only [if_neg h0]; exact Ev.const (by simp [h0])
    | true =>
      simp only [if_true]
      refine Ev.bind (a := !vLess t x.f2 st.f2) (Ev.bind (spec_ValLess_ev t x.f2 st.f2) (Ev.const rfl)) ?_
      by_cases h0 : 0 < st.f0
      · simp only [if_pos h0]; exact Ev.const (by simp [h0])
      · simp only [if_neg h0]
        exact Ev.bind (spec_ValLess_ev t x.f2 st.f3) (Ev.const (by simp [h0]))
  · simp only [if_neg k1, if_neg k2, if_neg k3]
    exact Ev.const rfl
theorem impl_leaf_ev (t : Int) (x : S61) (st : S64) : Ev (fun k => impl_may.leaf k t x st) (mayV t x st) := by
  have ev : vne59 = vne := rfl
  unfold impl_may.leaf mayV
  rw [ev]
  by_cases k1 : x.f0 = 1
  · simp only [if_pos k1]
    refine Ev.bind (impl_ValLess_ev t x.f2 st.f2) ?_
    refine Ev.bind (a := (!vLess t x.f2 st.f2 && !vLess t st.f3 x.f2)) ?_ (Ev.const rfl)
    cases vLess t x.f2 st.f2 with
    | true => exact Ev.pos rfl (Ev.const (by simp))
    | false => exact Ev.neg (by decide) (Ev.bind (impl_ValLess_ev t st.f3 x.f2) (Ev.const (by simp)))
  by_cases k2 : x.f0 = 2
  · simp only [if_neg k1, if_pos k2]
    cases hh : st.f1 with
    | false =>
      simp only [Bool.false_eq_true, if_false]
      by_cases h0 : 0 < st.f0
      · simp only [if_pos h0]; exact Ev.const (by simp [h0])
      · simp only [if_neg h0]; exact Ev.const (by simp [h0])
    | true =>
      simp only [if_true]
      refine Ev.bind (impl_ValLess_ev t st.f2 x.f2) ?_
      by_cases h0 : 0 < st.f0
      · simp only [if_pos h0]; exact Ev.const (by simp [h0])
      · simp only [if_neg h0]
        exact Ev.bind (a := !vLess t st.f3 x.f2) (Ev.bind (impl_ValLess_ev t st.f3 x.f2) (Ev.const rfl)) (Ev.const (by simp [h0]))
  by_cases k3 : x.f0 = 3
  · simp only [if_neg k1, if_neg k2, if_pos k3]
    cases hh : st.f1 with
    | false =>
      simp only [Bool.false_eq_true, if_false]
      by_cases h0 : 0 < st.f0
      · simp only [if_pos h0]; exact Ev.const (by simp [h0])
      · simp only [if_neg h0]; exact Ev.const (by simp [h0])
    | true =>
      simp only [if_true]
      refine Ev.bind (a := !vLess t x.f2 st.f2) (Ev.bind (impl_ValLess_ev t x.f2 st.f2) (Ev.const rfl)) ?_
      by_cases h0 : 0 < st.f0
      · simp only [if_pos h0]; exact Ev.const (by simp [h0])
      · simp only [if_neg h0]
        exact Ev.bind (impl_ValLess_ev t x.f2 st.f3) (Ev.const (by simp [h0]))
  · simp only [if_neg k1, if_neg k2, if_neg k3]
    exact Ev.const rfl
/-- What a place of a condition tells. -/
def mm (s : List S57) (p : List S61) (kn : List S66) : Nat → Int → Bool × Bool
  | 0, _ => (false, false)
  | d + 1, i => if (rd_T61 p i).f0 = 5 then ((mm s p kn d (rd_T61 p i).f3).1 && (mm s p kn d (rd_T61 p i).f4).1, (mm s p kn d (rd_T61 p i).f3).2 || (mm s p kn d (rd_T61 p i).f4).2)
    else if (rd_T61 p i).f0 = 6 then ((mm s p kn d (rd_T61 p i).f3).1 || (mm s p kn d (rd_T61 p i).f4).1, (mm s p kn d (rd_T61 p i).f3).2 && (mm s p kn d (rd_T61 p i).f4).2)
    else if (rd_T61 p i).f0 = 7 then ((mm s p kn d (rd_T61 p i).f3).2, (mm s p kn d (rd_T61 p i).f3).1)
    else leafM s kn (rd_T61 p i)
theorem mm_succ (s : List S57) (p : List S61) (kn : List S66) (d : Nat) (i : Int) : mm s p kn (d + 1) i = if (rd_T61 p i).f0 = 5 then ((mm s p kn d (rd_T61 p i).f3).1 && (mm s p kn d (rd_T61 p i).f4).1, (mm s p kn d (rd_T61 p i).f3).2 || (mm s p kn d (rd_T61 p i).f4).2)
    else if (rd_T61 p i).f0 = 6 then ((mm s p kn d (rd_T61 p i).f3).1 || (mm s p kn d (rd_T61 p i).f4).1, (mm s p kn d (rd_T61 p i).f3).2 && (mm s p kn d (rd_T61 p i).f4).2)
    else if (rd_T61 p i).f0 = 7 then ((mm s p kn d (rd_T61 p i).f3).2, (mm s p kn d (rd_T61 p i).f3).1)
    else leafM s kn (rd_T61 p i) := by rw [mm]
theorem mm_more (s : List S57) (p : List S61) (kn : List S66) (n : Int) (hn : n ≤ 31) (hV : ∀ j, 0 ≤ j → j < n → 0 ≤ frm p j) : ∀ (d : Nat) (i : Int), 0 ≤ i → i < n → i < d → mm s p kn (d + 1) i = mm s p kn d i
  | 0, i, h0, _, h => by omega
  | d + 1, i, h0, h1, h => by
    rw [mm_succ s p kn (d + 1) i, mm_succ s p kn d i]
    obtain ⟨a, b⟩ := pl_in h0 (by omega) (hV i h0 h1)
    by_cases k5 : (rd_T61 p i).f0 = 5
    · obtain ⟨⟨b1, b2⟩, b3, b4⟩ := b (.inl k5)
      rw [if_pos k5, if_pos k5, mm_more s p kn n hn hV d _ b1 (by omega) (by omega), mm_more s p kn n hn hV d _ b3 (by omega) (by omega)]
    by_cases k6 : (rd_T61 p i).f0 = 6
    · obtain ⟨⟨b1, b2⟩, b3, b4⟩ := b (.inr k6)
      rw [if_neg k5, if_neg k5, if_pos k6, if_pos k6, mm_more s p kn n hn hV d _ b1 (by omega) (by omega), mm_more s p kn n hn hV d _ b3 (by omega) (by omega)]
    by_cases k7 : (rd_T61 p i).f0 = 7
    · obtain ⟨b1, b2⟩ := a k7
      rw [if_neg k5, if_neg k5, if_neg k6, if_neg k6, if_pos k7, if_pos k7, mm_more s p kn n hn hV d _ b1 (by omega) (by omega)]
    rw [if_neg k5, if_neg k5, if_neg k6, if_neg k6, if_neg k7, if_neg k7]
theorem mm_eq (s : List S57) (p : List S61) (kn : List S66) (n : Int) (hn : n ≤ 31) (hV : ∀ j, 0 ≤ j → j < n → 0 ≤ frm p j) (D : Nat) (i : Int) (h0 : 0 ≤ i) (h1 : i < n) (h : i < D) : mm s p kn (D + 1) i =
    if (rd_T61 p i).f0 = 5 then ((mm s p kn (D + 1) (rd_T61 p i).f3).1 && (mm s p kn (D + 1) (rd_T61 p i).f4).1, (mm s p kn (D + 1) (rd_T61 p i).f3).2 || (mm s p kn (D + 1) (rd_T61 p i).f4).2)
    else if (rd_T61 p i).f0 = 6 then ((mm s p kn (D + 1) (rd_T61 p i).f3).1 || (mm s p kn (D + 1) (rd_T61 p i).f4).1, (mm s p kn (D + 1) (rd_T61 p i).f3).2 && (mm s p kn (D + 1) (rd_T61 p i).f4).2)
    else if (rd_T61 p i).f0 = 7 then ((mm s p kn (D + 1) (rd_T61 p i).f3).2, (mm s p kn (D + 1) (rd_T61 p i).f3).1)
    else leafM s kn (rd_T61 p i) := by
  rw [mm_succ s p kn D i]
  obtain ⟨a, b⟩ := pl_in h0 (by omega) (hV i h0 h1)
  by_cases k5 : (rd_T61 p i).f0 = 5
  · obtain ⟨⟨b1, b2⟩, b3, b4⟩ := b (.inl k5)
    rw [if_pos k5, if_pos k5, mm_more s p kn n hn hV D _ b1 (by omega) (by omega), mm_more s p kn n hn hV D _ b3 (by omega) (by omega)]
  by_cases k6 : (rd_T61 p i).f0 = 6
  · obtain ⟨⟨b1, b2⟩, b3, b4⟩ := b (.inr k6)
    rw [if_neg k5, if_neg k5, if_pos k6, if_pos k6, mm_more s p kn n hn hV D _ b1 (by omega) (by omega), mm_more s p kn n hn hV D _ b3 (by omega) (by omega)]
  by_cases k7 : (rd_T61 p i).f0 = 7
  · obtain ⟨b1, b2⟩ := a k7
    rw [if_neg k5, if_neg k5, if_neg k6, if_neg k6, if_pos k7, if_pos k7, mm_more s p kn n hn hV D _ b1 (by omega) (by omega)]
  rw [if_neg k5, if_neg k5, if_neg k6, if_neg k6, if_neg k7, if_neg k7]
def mB (s : List S57) (p : List S61) (kn : List S66) (i : Int) : Bool × Bool := mm s p kn 40 i
theorem mB_eq (s : List S57) (p : List S61) (kn : List S66) (n : Int) (hn : n ≤ 31) (hV : ∀ j, 0 ≤ j → j < n → 0 ≤ frm p j) (i : Int) (h0 : 0 ≤ i) (h1 : i < n) : mB s p kn i =
    if (rd_T61 p i).f0 = 5 then ((mB s p kn (rd_T61 p i).f3).1 && (mB s p kn (rd_T61 p i).f4).1, (mB s p kn (rd_T61 p i).f3).2 || (mB s p kn (rd_T61 p i).f4).2)
    else if (rd_T61 p i).f0 = 6 then ((mB s p kn (rd_T61 p i).f3).1 || (mB s p kn (rd_T61 p i).f4).1, (mB s p kn (rd_T61 p i).f3).2 && (mB s p kn (rd_T61 p i).f4).2)
    else if (rd_T61 p i).f0 = 7 then ((mB s p kn (rd_T61 p i).f3).2, (mB s p kn (rd_T61 p i).f3).1)
    else leafM s kn (rd_T61 p i) := by
  have := mm_eq s p kn n hn hV 39 i h0 h1 (by omega)
  unfold mB
  exact this
/-- What is right of all places. -/
structure MOk (s : List S57) (p : List S61) (kn : List S66) : Prop where
  hs : ColsOk s
  h1 : 1 ≤ (p.length : Int)
  hn : (p.length : Int) ≤ 31
  hV : ∀ j, 0 ≤ j → j < (p.length : Int) → 0 ≤ frm p j
  hI : PredI p
  hL : ∀ j, 0 ≤ j → j < (p.length : Int) → ¬ (rd_T61 p j).f0 = 5 → ¬ (rd_T61 p j).f0 = 6 → ¬ (rd_T61 p j).f0 = 7 → 0 ≤ (rd_T61 p j).f1 ∧ (rd_T61 p j).f1 < (kn.length : Int)
theorem spec_l20May_ev {s : List S57} {p : List S61} {kn : List S66} (M : MOk s p kn) : ∀ (N : Nat) (i : Int), i < N → 0 ≤ i → i < (p.length : Int) → Ev (fun k => spec_l20May.f k s p i kn) (mB s p kn i)
  | 0, i, h, h0, _ => by omega
  | N + 1, i, h, h0, h1 => by
    have hI := M.hI i
    obtain ⟨a, b⟩ := pl_in h0 (by have := M.hn; omega) (M.hV i h0 h1)
    have L := M.hL i h0 h1
    rw [mB_eq s p kn (p.length : Int) M.hn M.hV i h0 h1]
    refine Ev.step (fun k => by rw [spec_l20May.f]) ?_
    refine Ev.pos ⟨h0, h1⟩ ?_
    generalize rd_T61 p i = x at *
    by_cases k56 : x.f0 = 5 ∨ x.f0 = 6
    · obtain ⟨⟨b1, b2⟩, b3, b4⟩ := b k56
      refine Ev.pos k56 (Ev.bind (spec_l20May_ev M N x.f3 (by omega) b1 (by omega)) (Ev.bind (spec_l20May_ev M N x.f4 (by omega) b3 (by omega)) (Ev.const ?_)))
      congr 1
      by_cases k5 : x.f0 = 5
      · rw [if_pos k5, if_pos k5]
      · rw [if_neg k5, if_neg k5, if_pos (by omega)]
    refine Ev.neg k56 ?_
    by_cases k7 : x.f0 = 7
    · obtain ⟨b1, b2⟩ := a k7
      refine Ev.pos k7 (Ev.bind (spec_l20May_ev M N x.f3 (by omega) b1 (by omega)) (Ev.const ?_))
      rw [if_neg (by omega), if_neg (by omega), if_pos k7]
    refine Ev.neg k7 (Ev.pos (L (by omega) (by omega) k7) ?_)
    rw [if_neg (by omega), if_neg (by omega), if_neg k7]
    unfold leafM
    by_cases hk : (rd_T66 kn x.f1).f0 = true
    · rw [if_pos hk]; exact Ev.pos hk (Ev.bind (spec_LeafOf_ev s M.hs x.f1 hI.1 hI.2) (spec_leaf_ev _ _ _))
    · rw [if_neg hk]; exact Ev.neg hk (Ev.now _)
def YnOk (s : List S57) (p : List S61) (kn : List S66) (i : Nat) (Y N : List Bool) : Prop := Y.length = p.length ∧ N.length = p.length ∧ ∀ j : Nat, j < i → rdOf false Y (j : Int) = (mB s p kn (j : Int)).1 ∧ rdOf false N (j : Int) = (mB s p kn (j : Int)).2
theorem rdOf_set_self (bs : List Bool) (i : Nat) (h : i < bs.length) (v : Bool) : rdOf false (bs.set i v) (i : Int) = v := by
  rw [rdOf_eq (by simpa using h)]; simp
theorem rdOf_set_ne (bs : List Bool) (i : Nat) (v : Bool) (j : Nat) (h : j ≠ i) : rdOf false (bs.set i v) (j : Int) = rdOf false bs (j : Int) := by
  unfold rdOf
  simp only [Int.toNat_natCast, List.getD_eq_getElem?_getD]
  rw [List.getElem?_set_ne (by omega)]
theorem YnOk.snoc {s : List S57} {p : List S61} {kn : List S66} {i : Nat} {Y N : List Bool} (h : YnOk s p kn i Y N) (hi : i < p.length) (a b : Bool) (hv : mB s p kn (i : Int) = (a, b)) : YnOk s p kn (i + 1) (Y.set i a) (N.set i b) := by
  refine ⟨by simpa using h.1, by simpa using h.2.1, fun j hj => ?_⟩
  by_cases e : j = i
  · subst e
    rw [rdOf_set_self _ _ (by rw [h.1]; exact hi), rdOf_set_self _ _ (by rw [h.2.1]; exact hi), hv]
    exact ⟨rfl, rfl⟩
  · rw [rdOf_set_ne _ _ _ _ e, rdOf_set_ne _ _ _ _ e]; exact h.2.2 j (by omega)
theorem YnOk.at {s : List S57} {p : List S61} {kn : List S66} {i : Nat} {Y N : List Bool} (h : YnOk s p kn i Y N) (q : Int) (h0 : 0 ≤ q) (h1 : q < (i : Int)) : rdOf false Y q = (mB s p kn q).1 ∧ rdOf false N q = (mB s p kn q).2 := by
  have := h.2.2 q.toNat (by omega)
  rw [Int.toNat_of_nonneg h0] at this
  exact this
theorem impl_may_loop {s : List S57} {p : List S61} {kn : List S66} (M : MOk s p kn) : ∀ (d i : Nat) (Y N : List Bool), i + d = p.length → YnOk s p kn i Y N →
    Ev (fun k => impl_PredMay.l0 k s p kn Y N p (p.length : Int) (i : Int)) (mB s p kn ((p.length : Int) - 1)) := by
  have M1 := M.h1
  have Mn := M.hn
  intro d
  induction d with
  | zero =>
    intro i Y N hi hb
    obtain rfl : i = p.length := by omega
    have hY := hb.1
    have hN := hb.2.1
    obtain ⟨e1, e2⟩ := hb.at ((p.length : Int) - 1) (by omega) (by omega)
    refine Ev.step (fun k => by rw [impl_PredMay.l0]) ?_
    rw [wrap64_id (x := (p.length : Int) - 1) (by omega) (by omega), e1, e2]
    exact Ev.neg (by omega) (Ev.pos (by omega) (Ev.pos (by omega) (Ev.pos (by omega) (Ev.const rfl))))
  | succ d ih =>
    intro i Y N hi hb
    have hil : i < p.length := by omega
    have hY := hb.1
    have hN := hb.2.1
    have hI := M.hI (i : Int)
    obtain ⟨ca, cb⟩ := pl_in (p := p) (j := (i : Int)) (by omega) (by omega) (M.hV i (by omega) (by omega))
    have L := M.hL (i : Int) (by omega) (by omega)
    have hq := mB_eq s p kn (p.length : Int) Mn M.hV (i : Int) (by omega) (by omega)
    have next : ∀ a b : Bool, mB s p kn (i : Int) = (a, b) → Ev (fun k => impl_PredMay.l0 k s p kn (Y.set (i : Int).toNat a) (N.set (i : Int).toNat b) p (p.length : Int) (wrap64 ((i : Int) + 1))) (mB s p kn ((p.length : Int) - 1)) := by
      intro a b hv
      have := ih (i + 1) (Y.set i a) (N.set i b) (by omega) (hb.snoc hil a b hv)
      rw [wrap64_id (x := (i : Int) + 1) (by omega) (by omega), Int.toNat_natCast]
      simpa using this
    refine Ev.step (fun k => by rw [impl_PredMay.l0]) ?_
    generalize rd_T61 p (i : Int) = x at *
    refine Ev.pos (by omega) (Ev.pos (by omega) (Ev.pos (by omega) ?_))
    by_cases k5 : x.f0 = 5
    · obtain ⟨⟨b1, b2⟩, b3, b4⟩ := cb (.inl k5)
      obtain ⟨y3, n3⟩ := hb.at x.f3 b1 b2
      obtain ⟨y4, n4⟩ := hb.at x.f4 b3 b4
      rw [if_pos k5, ← y3, ← y4, ← n3, ← n4] at hq
      refine Ev.pos k5 (Ev.pos b1 (Ev.pos (by omega) ?_))
      by_cases a : rdOf false Y x.f3 = true
      · refine Ev.pos a (Ev.pos b3 (Ev.pos (by omega) (Ev.pos (by omega) ?_)))
        by_cases c : rdOf false N x.f3 = true
        · exact Ev.pos c (Ev.pos (by omega) (Ev.pos (by omega) (next _ _ (by rw [hq, a, c]; simp))))
        · exact Ev.neg c (Ev.pos (by omega) (Ev.pos (by omega) (Ev.pos (by omega) (next _ _ (by rw [hq, a]; simp [Bool.eq_false_iff.mpr c])))))
      · refine Ev.neg a (Ev.pos (by omega) ?_)
        by_cases c : rdOf false N x.f3 = true
        · exact Ev.pos c (Ev.pos (by omega) (Ev.pos (by omega) (next _ _ (by rw [hq, c]; simp [Bool.eq_false_iff.mpr a]))))
        · exact Ev.neg c (Ev.pos b3 (Ev.pos (by omega) (Ev.pos (by omega) (Ev.pos (by omega) (next _ _ (by rw [hq]; simp [Bool.eq_false_iff.mpr a, Bool.eq_false_iff.mpr c]))))))
    refine Ev.neg k5 ?_
    rw [if_neg k5] at hq
    by_cases k6 : x.f0 = 6
    · obtain ⟨⟨b1, b2⟩, b3, b4⟩ := cb (.inr k6)
      obtain ⟨y3, n3⟩ := hb.at x.f3 b1 b2
      obtain ⟨y4, n4⟩ := hb.at x.f4 b3 b4
      rw [if_pos k6, ← y3, ← y4, ← n3, ← n4] at hq
      refine Ev.pos k6 (Ev.pos b1 (Ev.pos (by omega) ?_))
      by_cases a : rdOf false Y x.f3 = true
      · refine Ev.pos a (Ev.pos (by omega) ?_)
        by_cases c : rdOf false N x.f3 = true
        · exact Ev.pos c (Ev.pos b3 (Ev.pos (by omega) (Ev.pos (by omega) (Ev.pos (by omega) (next _ _ (by rw [hq, a, c]; simp))))))
        · exact Ev.neg c (Ev.pos (by omega) (Ev.pos (by omega) (next _ _ (by rw [hq, a]; simp [Bool.eq_false_iff.mpr c]))))
      · refine Ev.neg a (Ev.pos b3 (Ev.pos (by omega) (Ev.pos (by omega) ?_)))
        by_cases c : rdOf false N x.f3 = true
        · exact Ev.pos c (Ev.pos (by omega) (Ev.pos (by omega) (Ev.pos (by omega) (next _ _ (by rw [hq, c]; simp [Bool.eq_false_iff.mpr a])))))
        · exact Ev.neg c (Ev.pos (by omega) (Ev.pos (by omega) (next _ _ (by rw [hq]; simp [Bool.eq_false_iff.mpr a, Bool.eq_false_iff.mpr c]))))
    refine Ev.neg k6 ?_
    rw [if_neg k6] at hq
    by_cases k7 : x.f0 = 7
    · obtain ⟨b1, b2⟩ := ca k7
      obtain ⟨y3, n3⟩ := hb.at x.f3 b1 b2
      rw [if_pos k7, ← y3, ← n3] at hq
      exact Ev.pos k7 (Ev.pos b1 (Ev.pos (by omega) (Ev.pos (by omega) (Ev.pos (by omega) (Ev.pos (by omega) (next _ _ hq))))))
    refine Ev.neg k7 ?_
    rw [if_neg k7] at hq
    obtain ⟨l0, l1⟩ := L k5 k6 k7
    refine Ev.bind (impl_LeafOf_ev s M.hs x.f1 hI.1 hI.2) (Ev.pos l0 (Ev.pos l1 ?_))
    have hm : Ev (fun k => impl_may.g k (leafR s x.f1).1 x (rd_T66 kn x.f1)) (leafM s kn x) := by
      unfold impl_may.g leafM
      by_cases hk : (rd_T66 kn x.f1).f0 = true
      · simp only [if_pos hk]; exact impl_leaf_ev _ _ _
      · simp only [if_neg hk]; exact Ev.now _
    exact Ev.bind (a := leafM s kn x) hm (Ev.pos (by omega) (Ev.pos (by omega) (next _ _ hq)))
/-- What both answer. -/
def mayR (s : List S57) (p : List S61) (kn : List S66) : Bool × Bool := if predB s p = true ∧ (kn.length : Int) = ((lvs s s.length).length : Int) then mB s p kn ((p.length : Int) - 1) else (false, false)
theorem mOk_of (s : List S57) (hs : ColsOk s) (p : List S61) (hI : PredI p) (kn : List S66) (h : predB s p = true) (hk : (kn.length : Int) = ((lvs s s.length).length : Int)) : MOk s p kn := by
  unfold predB at h
  simp only [Bool.and_eq_true, decide_eq_true_eq] at h
  obtain ⟨⟨h1, h2, h3⟩, h4, h5⟩ := h
  have hV : ∀ j, 0 ≤ j → j < (p.length : Int) → 0 ≤ frm p j := fun j j0 j1 => frm_all p p.length ((p.length : Int) - 1) (by omega) (by omega) (by omega) (by omega) j (by omega) (by omega)
  refine ⟨hs, h2, h3, hV, hI, fun j j0 j1 n5 n6 n7 => ?_⟩
  have e : rd_T61 p j = p.getD j.toNat z61 := rfl
  have hj : j.toNat < p.length := by omega
  have hm : plB s (rd_T61 p j) = true := by
    rw [e, getD_eq hj]
    exact List.all_eq_true.mp h4 _ (List.getElem_mem _)
  generalize rd_T61 p j = x at *
  unfold plB at hm
  by_cases h14 : 1 ≤ x.f0 ∧ x.f0 ≤ 4
  · rw [if_pos h14] at hm
    unfold cmpB at hm
    simp only [Bool.and_eq_true] at hm
    have hr := hm.1.1.1.1
    unfold leafR at hr
    by_cases hc : 0 ≤ x.f1 ∧ x.f1 < (leaves s).length
    · unfold leaves at hc
      rw [if_pos h1] at hc
      exact ⟨hc.1, by omega⟩
    · rw [if_neg hc] at hr
      exact absurd hr (by decide)
  · rw [if_neg h14, if_neg (by omega), if_neg n7] at hm
    exact absurd hm (by decide)
theorem spec_PredMay_ev (s : List S57) (hs : ColsOk s) (p : List S61) (hp : p.length ≤ 1048576) (hI : PredI p) (kn : List S66) : Ev (fun k => spec_PredMay.f k s p kn) (mayR s p kn) := by
  unfold spec_PredMay.f mayR
  refine Ev.bind (spec_PredOk_ev s hs p hp hI) ?_
  cases h : predB s p with
  | false => rw [if_neg (by simp)]; exact Ev.neg (by decide) (Ev.now _)
  | true =>
    refine Ev.pos rfl (Ev.bind (spec_l5Leaves_ev s hs.1) ?_)
    by_cases hk : (kn.length : Int) = ((lvs s s.length).length : Int)
    · rw [if_pos ⟨rfl, hk⟩]
      have M := mOk_of s hs p hI kn h hk
      have M1 := M.h1
      have Mn := M.hn
      rw [wrap64_id (x := (p.length : Int) - 1) (by omega) (by omega)]
      exact Ev.pos hk (Ev.bind (spec_l20May_ev M p.length ((p.length : Int) - 1) (by omega) (by omega) (by omega)) (Ev.const rfl))
    · rw [if_neg (fun h => hk h.2)]; exact Ev.neg hk (Ev.now _)
theorem impl_PredMay_ev (s : List S57) (hs : ColsOk s) (p : List S61) (hp : p.length ≤ 1048576) (hI : PredI p) (kn : List S66) : Ev (fun k => impl_PredMay.f k s p kn) (mayR s p kn) := by
  have bad : Ev (fun k => impl_PredMay.j0 k s p kn true) (false, false) := Ev.step (fun k => by rw [impl_PredMay.j0]) (Ev.pos rfl (Ev.now _))
  unfold impl_PredMay.f mayR
  refine Ev.bind (impl_PredOk_ev s hs p hp hI) ?_
  cases h : predB s p with
  | false => rw [if_neg (by simp)]; exact Ev.neg (by decide) bad
  | true =>
    refine Ev.pos rfl (Ev.bind (impl_leavesOf_ev s hs.1) ?_)
    by_cases hk : (kn.length : Int) = ((lvs s s.length).length : Int)
    · rw [if_pos ⟨rfl, hk⟩, bne_eq_false_iff_eq.mpr hk]
      have M := mOk_of s hs p hI kn h hk
      have M1 := M.h1
      have Mn := M.hn
      refine Ev.step (fun k => by rw [impl_PredMay.j0]) ?_
      refine Ev.neg (by decide) (Ev.pos (by omega) (Ev.pos (by omega) ?_))
      exact impl_may_loop M p.length 0 _ _ (by omega) ⟨by simp, by simp, fun j hj => absurd hj (by omega)⟩
    · rw [if_neg (fun h => hk h.2), bne_iff_ne.mpr hk]; exact bad
theorem predI_of (l : List S47) (hw : ∀ y ∈ l, w47 y) : PredI (l.map cvPred) := by
  intro i
  have e : rd_T61 (l.map cvPred) i = (l.map cvPred).getD i.toNat z61 := rfl
  rw [e]
  by_cases hi : i.toNat < l.length
  · rw [getD_eq (by simpa using hi), List.getElem_map]
    have := hw (l[i.toNat]) (List.getElem_mem _)
    exact i64_of this.2.1
  · rw [List.getD_eq_getElem?_getD, List.getElem?_eq_none (by simp; omega)]
    exact ⟨by decide, by decide⟩
theorem FnExactPredMay : ∀ (x0 : List (S42)) (x1 : List (S47)) (x2 : List (S52)), (x0.length ≤ maxLen ∧ ∀ y ∈ x0, w42 y) → (x1.length ≤ maxLen ∧ ∀ y ∈ x1, w47 y) → (x2.length ≤ maxLen ∧ ∀ y ∈ x2, w52 y) → ∃ k, laws_FnExactPredMay.f k x0 x1 x2 = some true := by
  intro l q kn hx hq hk
  refine Ev.rounds ?_
  unfold laws_FnExactPredMay.f
  obtain ⟨r1, s1, c1, l1⟩ := szColS_ev l hx.1 hx.2 1048576 (by omega) (by omega)
  refine Ev.bind s1 ?_
  by_cases n1 : r1 < 0
  · exact Ev.pos n1 (Ev.now _)
  refine Ev.neg n1 ?_
  obtain ⟨r2, s2, c2, l2⟩ := szPredS_ev q hq.1 hq.2 r1 (by omega) (by omega)
  refine Ev.bind s2 ?_
  by_cases n2 : r2 < 0
  · exact Ev.pos n2 (Ev.now _)
  refine Ev.neg n2 ?_
  obtain ⟨r3, s3, c3, l3⟩ := szKnownS_ev kn hk.1 hk.2 r2 (by omega) (by omega)
  refine Ev.bind s3 ?_
  by_cases n3 : r3 < 0
  · exact Ev.pos n3 (Ev.now _)
  refine Ev.neg n3 ?_
  have t := toColS_ev l (by omega)
  have u := toPredS_ev q (by omega)
  have v := toKnownS_ev kn (by omega)
  have hs := colsOk_of l (by omega) hx.2
  have hI := predI_of q hq.2
  have es := spec_PredMay_ev (l.map cvCol) hs (q.map cvPred) (by simp; omega) hI (kn.map cvKnown)
  have ei := impl_PredMay_ev (l.map cvCol) hs (q.map cvPred) (by simp; omega) hI (kn.map cvKnown)
  have q1 := eqColS_ev (l.map cvCol) (by simp; omega)
  have q2 := eqPredS_ev (q.map cvPred) (by simp; omega)
  have q3 := eqKnownS_ev (kn.map cvKnown) (by simp; omega)
  have fin : Ev (fun k => laws_FnExactPredMay.j0 k l q kn (l.map cvCol) (q.map cvPred) (kn.map cvKnown) false) true := Ev.step (fun k => by rw [laws_FnExactPredMay.j0]) (Ev.neg (by decide) (Ev.bind t (Ev.bind q1 (Ev.pos rfl (Ev.bind u (Ev.bind q2 (Ev.pos rfl (Ev.bind v (Ev.bind q3 (Ev.pos rfl (Ev.now _)))))))))))
  refine Ev.bind t (Ev.bind u (Ev.bind v (Ev.bind es (Ev.bind t (Ev.bind u (Ev.bind v (Ev.bind ei (Ev.neg (by simp) ?_))))))))
  have e : ((mayR (l.map cvCol) (q.map cvPred) (kn.map cvKnown)).2 != (mayR (l.map cvCol) (q.map cvPred) (kn.map cvKnown)).2) = false := by simp
  rw [e]
  exact fin
end Go.Proofs.Ytlioghbcomdghaa.Pure
