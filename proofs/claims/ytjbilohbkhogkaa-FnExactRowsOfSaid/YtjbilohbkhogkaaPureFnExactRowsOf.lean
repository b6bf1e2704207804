/- The pure statement of FnExactRowsOf: the printed functions answer as the law says, for all arguments. No condition. -/
import Derived.Test.YtjbilohbkhogkaaCore
import Derived.Test.YtjbilohbkhogkaaPFnExactRowsOfx
import Derived.Test.YtjbilohbkhogkaaArgFnExactRowsOf
namespace Go.Proofs.Ytjbilohbkhogkaa.Pure
open Go.RowKit Go.Proofs.Ytjbilohbkhogkaa.PFnExactRowsOf Go.Proofs.Ytjbilohbkhogkaa.Core Go.Proofs.YtjbilohbkhogkaaW.PrintWords Go.Proofs.YtjbilohbkhogkaaW.PrintLast Go.Proofs.YtjbilohbkhogkaaW.PrintMore Go.Proofs.Ytjbilohbkhogkaa.AFnExactRowsOf
set_option linter.unusedVariables false
set_option linter.unusedSimpArgs false
def cvVal (x : S103) : S101 := ⟨x.f0, x.f1⟩
def cvTriple (x : S105) : S107 := ⟨x.f0, x.f1, cvVal x.f2⟩
theorem toTripleS_ev (l : List S105) (hl : l.length ≤ 1048576) : Ev (fun k => laws_toTripleS.f k l) (l.map cvTriple) := by
  unfold laws_toTripleS.f
  refine Ev.pos (by omega) (Ev.pos (by omega) ?_)
  refine copy_loop (fun k out i => laws_toTripleS.l0 k l out i) l cvTriple (fun out i r h ho hr => ?_) (fun out ho => ?_) (List.replicate ((l.length : Int)).toNat z107) (by simp)
  · refine Ev.step (fun k => by rw [laws_toTripleS.l0]) ?_
    refine Ev.pos (by omega) (Ev.pos (by omega) (Ev.here rfl (Ev.pos (by omega) ?_)))
    rw [wrap64_id (by omega) (by omega)]
    have e : rd_T105 l (i : Int) = l[i] := getD_eq (by simpa using h)
    simp only [e]
    simpa [cvVal, cvTriple] using hr
  · exact Ev.step (fun k => by rw [laws_toTripleS.l0]) (by exact Ev.neg (by omega) (Ev.now _))
theorem szTriple_some (x : S105) (hw : w105 x) (c : Int) (h0 : 0 ≤ c) (h1 : c ≤ 1048576) : ∃ r, laws_szTriple.f x.f0 x.f1 x.f2.f0 x.f2.f1 c = some r ∧ r ≤ c := by
  have b0 : (x.f2.f1.size : Int) ≤ 9223372036854775807 := by have := hw.2.2.2; unfold maxLen at this; omega
  unfold laws_szTriple.f laws_szVal.f
  rw [wrap64_id (x := c - (x.f2.f1.size : Int)) (by omega) (by omega)]
  by_cases n0 : c - (x.f2.f1.size : Int) < 0
  · exact ⟨-1, by simp [n0], by omega⟩
  simp only [if_neg n0, Option.bind_some]
  exact ⟨_, rfl, by omega⟩
theorem szTripleS_ev (l : List S105) (hw : l.length ≤ maxLen) (ht : ∀ x ∈ l, w105 x) (c : Int) (h0 : 0 ≤ c) (h1 : c ≤ 1048576) : ∃ r, Ev (fun k => laws_szTripleS.f k l c) r ∧ r ≤ c ∧ (0 ≤ r → r + l.length ≤ c) := by
  have hm : l.length ≤ 9223372036854775807 := by unfold maxLen at hw; omega
  unfold laws_szTripleS.f
  rw [wrap64_id (by omega) (by omega)]
  by_cases hn : c - (l.length : Int) < 0
  · exact ⟨-1, Ev.pos hn (Ev.now _), by omega, by omega⟩
  · obtain ⟨r, hr, hrc⟩ := budget_loop (fun k c i => laws_szTripleS.l0 k l c i) l.length (fun c i hc0 hc1 hi => by
      have e : rd_T105 l (i : Int) = l[i] := getD_eq (by simpa using hi)
      obtain ⟨c', hc', hle⟩ := szTriple_some l[i] (ht l[i] (List.getElem_mem hi)) c hc0 hc1
      refine ⟨c', hle, fun hneg => ?_, fun hpos r hr => ?_⟩
      · exact Ev.step (fun k => by rw [laws_szTripleS.l0]) (by exact Ev.pos (by omega) (Ev.pos (by omega) (Ev.here (by rw [e]; exact hc') (Ev.pos hneg (Ev.now _)))))
      · refine Ev.step (fun k => by rw [laws_szTripleS.l0]) ?_
        refine Ev.pos (by omega) (Ev.pos (by omega) (Ev.here (by rw [e]; exact hc') (Ev.neg (by omega) ?_)))
        rw [wrap64_id (by omega) (by omega)]
        simpa using hr)
      (fun c => Ev.step (fun k => by rw [laws_szTripleS.l0]) (by exact Ev.neg (by omega) (Ev.now _))) (c - l.length) (by omega) (by omega)
    exact ⟨r, Ev.neg hn hr, by omega, by omega⟩
theorem eqTriple_ev (a : S107) : laws_eqTriple.f a.f0 a.f1 a.f2.f0 a.f2.f1 a.f0 a.f1 a.f2.f0 a.f2.f1 = some true := by
  unfold laws_eqTriple.f laws_eqVal.f
  simp
theorem eqTripleS_ev (l : List S107) (hl : l.length ≤ 9223372036854775806) : Ev (fun k => laws_eqTripleS.f k l l) true := by
  unfold laws_eqTripleS.f
  refine Ev.pos rfl ?_
  refine same_loop (fun k i => laws_eqTripleS.l0 k l l i) l.length (fun i r h hr => ?_) ?_
  · refine Ev.step (fun k => by rw [laws_eqTripleS.l0]) ?_
    refine Ev.pos (by omega) (Ev.pos (by omega) (Ev.pos (by omega) (Ev.here (eqTriple_ev _) (Ev.pos rfl ?_))))
    rw [wrap64_id (by omega) (by omega)]
    simpa using hr
  · exact Ev.step (fun k => by rw [laws_eqTripleS.l0]) (by exact Ev.neg (by omega) (Ev.now _))
theorem rowsOf_same : ∀ (k : Nat) (l : List S107) (c i : Int), impl_RowsOf.l0 k c l (l.length : Int) i = spec_RowsOf.l0 k l c i
  | 0, _, _, _ => by rw [impl_RowsOf.l0, spec_RowsOf.l0]
  | k + 1, l, c, i => by
    rw [impl_RowsOf.l0, spec_RowsOf.l0]
    by_cases h : i < (l.length : Int)
    · simp only [if_pos h, rowsOf_same k]
    · simp only [if_neg h]
def rowsN (l : List S107) : Int := ((l.filter fun t => t.f0 = 0).length : Int)
theorem rowsN_le (l : List S107) : 0 ≤ rowsN l ∧ rowsN l ≤ l.length := by
  unfold rowsN
  have := List.length_filter_le (fun t : S107 => decide (t.f0 = 0)) l
  omega
theorem spec_RowsOf_ev (l : List S107) (hl : l.length ≤ 1048576) : Ev (fun k => spec_RowsOf.f k l) (rowsN l) := by
  unfold spec_RowsOf.f
  have key : ∀ (d i : Nat), i + d = l.length → Ev (fun k => spec_RowsOf.l0 k l (rowsN (l.take i)) (i : Int)) (rowsN l) := by
    intro d
    induction d with
    | zero =>
      intro i hi
      obtain rfl : i = l.length := by omega
      rw [List.take_length]
      exact Ev.step (fun k => by rw [spec_RowsOf.l0]) (by exact Ev.neg (by omega) (Ev.now _))
    | succ d ih =>
      intro i hi
      have hlt : i < l.length := by omega
      have e : rd_T107 l (i : Int) = l[i] := getD_eq (by simpa using hlt)
      have hs : rowsN (l.take (i + 1)) = rowsN (l.take i) + (if l[i].f0 = 0 then 1 else 0) := by
        unfold rowsN
        rw [List.take_succ_eq_append_getElem hlt, List.filter_append]
        by_cases h : l[i].f0 = 0 <;> simp [List.filter_cons, h]
      have hb := rowsN_le (l.take i)
      have hb2 : (l.take i).length ≤ l.length := by simp; omega
      have := ih (i + 1) (by omega)
      rw [hs] at this
      refine Ev.step (fun k => by rw [spec_RowsOf.l0]) ?_
      refine Ev.pos (by omega) (Ev.pos (by omega) ?_)
      rw [e, wrap64_id (x := (i : Int) + 1) (by omega) (by omega), wrap64_id (x := rowsN (l.take i) + 1) (by omega) (by omega)]
      by_cases h : l[i].f0 = 0
      · refine Ev.pos h ?_
        rw [if_pos h] at this
        simpa using this
      · refine Ev.neg h ?_
        rw [if_neg h] at this
        simpa using this
  simpa [rowsN] using key l.length 0 (by omega)
theorem impl_RowsOf_ev (l : List S107) (hl : l.length ≤ 1048576) : Ev (fun k => impl_RowsOf.f k l) (rowsN l) :=
  Ev.congr (fun k => by unfold impl_RowsOf.f spec_RowsOf.f; exact rowsOf_same k l 0 0) (spec_RowsOf_ev l hl)
theorem FnExactRowsOf : ∀ (x0 : List (S105)), (x0.length ≤ maxLen ∧ ∀ y ∈ x0, w105 y) → ∃ k, laws_FnExactRowsOf.f k x0 = some true := by
  intro l hx
  refine Ev.rounds ?_
  unfold laws_FnExactRowsOf.f
  obtain ⟨r1, s1, c1, l1⟩ := szTripleS_ev l hx.1 hx.2 1048576 (by omega) (by omega)
  refine Ev.bind s1 ?_
  by_cases n1 : r1 < 0
  · exact Ev.pos n1 (Ev.now _)
  refine Ev.neg n1 ?_
  have t := toTripleS_ev l (by omega)
  have es := spec_RowsOf_ev (l.map cvTriple) (by simp; omega)
  have ei := impl_RowsOf_ev (l.map cvTriple) (by simp; omega)
  have q := eqTripleS_ev (l.map cvTriple) (by simp; omega)
  exact Ev.bind t (Ev.bind es (Ev.bind t (Ev.bind ei (Ev.pos rfl (Ev.bind t (Ev.bind q (Ev.pos rfl (Ev.now _))))))))
end Go.Proofs.Ytjbilohbkhogkaa.Pure
