/- The pure statement of FnExactRecSame: the printed functions answer as the law says, for all arguments. No condition. -/
import Derived.Test.YtjbilohbkhogkaaCore
import Derived.Test.YtjbilohbkhogkaaPFnExactRecSamex
import Derived.Test.YtjbilohbkhogkaaArgFnExactRecSame
namespace Go.Proofs.Ytjbilohbkhogkaa.Pure
open Go.RowKit Go.Proofs.Ytjbilohbkhogkaa.PFnExactRecSame Go.Proofs.Ytjbilohbkhogkaa.Core Go.Proofs.YtjbilohbkhogkaaW.PrintWords Go.Proofs.YtjbilohbkhogkaaW.PrintLast Go.Proofs.YtjbilohbkhogkaaW.PrintMore Go.Proofs.Ytjbilohbkhogkaa.AFnExactRecSame
set_option linter.unusedVariables false
set_option linter.unusedSimpArgs false
def cvVal (x : S103) : S101 := ⟨x.f0, x.f1⟩
theorem toValS_ev (l : List S103) (hl : l.length ≤ 1048576) : Ev (fun k => laws_toValS.f k l) (l.map cvVal) := by
  unfold laws_toValS.f
  refine Ev.pos (by omega) (Ev.pos (by omega) ?_)
  refine copy_loop (fun k out i => laws_toValS.l0 k l out i) l cvVal (fun out i r h ho hr => ?_) (fun out ho => ?_) (List.replicate ((l.length : Int)).toNat z101) (by simp)
  · refine Ev.step (fun k => by rw [laws_toValS.l0]) ?_
    refine Ev.pos (by omega) (Ev.pos (by omega) (Ev.here rfl (Ev.pos (by omega) ?_)))
    rw [wrap64_id (by omega) (by omega)]
    have e : rd_T103 l (i : Int) = l[i] := getD_eq (by simpa using h)
    simp only [e]
    simpa [cvVal] using hr
  · exact Ev.step (fun k => by rw [laws_toValS.l0]) (by exact Ev.neg (by omega) (Ev.now _))
theorem szVal_some (x : S103) (hw : w103 x) (c : Int) (h0 : 0 ≤ c) (h1 : c ≤ 1048576) : ∃ r, laws_szVal.f x.f0 x.f1 c = some r ∧ r ≤ c := by
  have b0 : (x.f1.size : Int) ≤ 9223372036854775807 := by have := hw.2; unfold maxLen at this; omega
  unfold laws_szVal.f
  rw [wrap64_id (x := c - (x.f1.size : Int)) (by omega) (by omega)]
  by_cases n0 : c - (x.f1.size : Int) < 0
  · exact ⟨-1, by simp [n0], by omega⟩
  simp only [if_neg n0, Option.bind_some]
  exact ⟨_, rfl, by omega⟩
theorem szValS_ev (l : List S103) (hw : l.length ≤ maxLen) (ht : ∀ x ∈ l, w103 x) (c : Int) (h0 : 0 ≤ c) (h1 : c ≤ 1048576) : ∃ r, Ev (fun k => laws_szValS.f k l c) r ∧ r ≤ c ∧ (0 ≤ r → r + l.length ≤ c) := by
  have hm : l.length ≤ 9223372036854775807 := by unfold maxLen at hw; omega
  unfold laws_szValS.f
  rw [wrap64_id (by omega) (by omega)]
  by_cases hn : c - (l.length : Int) < 0
  · exact ⟨-1, Ev.pos hn (Ev.now _), by omega, by omega⟩
  · obtain ⟨r, hr, hrc⟩ := budget_loop (fun k c i => laws_szValS.l0 k l c i) l.length (fun c i hc0 hc1 hi => by
      have e : rd_T103 l (i : Int) = l[i] := getD_eq (by simpa using hi)
      obtain ⟨c', hc', hle⟩ := szVal_some l[i] (ht l[i] (List.getElem_mem hi)) c hc0 hc1
      refine ⟨c', hle, fun hneg => ?_, fun hpos r hr => ?_⟩
      · exact Ev.step (fun k => by rw [laws_szValS.l0]) (by exact Ev.pos (by omega) (Ev.pos (by omega) (Ev.here (by rw [e]; exact hc') (Ev.pos hneg (Ev.now _)))))
      · refine Ev.step (fun k => by rw [laws_szValS.l0]) ?_
        refine Ev.pos (by omega) (Ev.pos (by omega) (Ev.here (by rw [e]; exact hc') (Ev.neg (by omega) ?_)))
        rw [wrap64_id (by omega) (by omega)]
        simpa using hr)
      (fun c => Ev.step (fun k => by rw [laws_szValS.l0]) (by exact Ev.neg (by omega) (Ev.now _))) (c - l.length) (by omega) (by omega)
    exact ⟨r, Ev.neg hn hr, by omega, by omega⟩
theorem eqVal_ev (a : S101) : laws_eqVal.f a.f0 a.f1 a.f0 a.f1 = some true := by
  unfold laws_eqVal.f
  simp
theorem eqValS_ev (l : List S101) (hl : l.length ≤ 9223372036854775806) : Ev (fun k => laws_eqValS.f k l l) true := by
  unfold laws_eqValS.f
  refine Ev.pos rfl ?_
  refine same_loop (fun k i => laws_eqValS.l0 k l l i) l.length (fun i r h hr => ?_) ?_
  · refine Ev.step (fun k => by rw [laws_eqValS.l0]) ?_
    refine Ev.pos (by omega) (Ev.pos (by omega) (Ev.pos (by omega) (Ev.here (eqVal_ev _) (Ev.pos rfl ?_))))
    rw [wrap64_id (by omega) (by omega)]
    simpa using hr
  · exact Ev.step (fun k => by rw [laws_eqValS.l0]) (by exact Ev.neg (by omega) (Ev.now _))
theorem recSame_same : ∀ (k : Nat) (a b : List S101) (i : Int), impl_Val.l0 k a b (a.length : Int) i = spec_RecSame.l0 k i a b
  | 0, _, _, _ => by rw [impl_Val.l0, spec_RecSame.l0]
  | k + 1, a, b, i => by
    rw [impl_Val.l0, spec_RecSame.l0]
    by_cases h : i < (a.length : Int)
    · simp only [if_pos h, recSame_same k]
    · simp only [if_neg h]
theorem recSame_ev (a b : List S101) (hl : a.length = b.length) (ha : a.length ≤ 1048576) : ∀ (d : Nat) (i : Int), 0 ≤ i → i + d = a.length → ∃ r, Ev (fun k => spec_RecSame.l0 k i a b) r := by
  intro d
  induction d with
  | zero =>
    intro i h0 hi
    exact ⟨_, Ev.step (fun k => by rw [spec_RecSame.l0]) (by exact Ev.neg (by omega) (Ev.now _))⟩
  | succ d ih =>
    intro i h0 hi
    by_cases h2 : (!(((rd_T101 a i).f0) == ((rd_T101 b i).f0)) || (!((((rd_T101 a i).f1).toList) == (((rd_T101 b i).f1).toList)))) = true
    · exact ⟨_, Ev.step (fun k => by rw [spec_RecSame.l0]) (by exact Ev.pos (by omega) (Ev.pos h0 (Ev.pos (by omega) (Ev.pos h2 (Ev.now _)))))⟩
    · obtain ⟨r, hr⟩ := ih (i + 1) (by omega) (by omega)
      refine ⟨r, Ev.step (fun k => by rw [spec_RecSame.l0]) (Ev.pos (by omega) (Ev.pos h0 (Ev.pos (by omega) (Ev.neg h2 ?_))))⟩
      rw [wrap64_id (by omega) (by omega)]
      exact hr
theorem recSame_both (a b : List S101) (ha : a.length ≤ 1048576) : ∃ r, Ev (fun k => spec_RecSame.f k a b) r ∧ Ev (fun k => impl_RecSame.f k a b) r := by
  unfold spec_RecSame.f impl_RecSame.f impl_Val.f
  by_cases hl : a.length = b.length
  · obtain ⟨r, hr⟩ := recSame_ev a b hl ha a.length 0 (by omega) (by omega)
    exact ⟨r, Ev.pos (by omega) hr, Ev.bind (Ev.pos (by omega) (Ev.congr (fun k => recSame_same k a b 0) hr)) (Ev.now _)⟩
  · exact ⟨false, Ev.neg (by omega) (Ev.now _), Ev.bind (Ev.neg (by omega) (Ev.now _)) (Ev.now _)⟩
theorem eqRec_ev (l : List S101) (hl : l.length ≤ 1048576) : Ev (fun k => laws_eqRec.f k l l) true := by
  unfold laws_eqRec.f
  exact Ev.bind (eqValS_ev l (by omega)) (Ev.pos rfl (Ev.now _))
theorem szRec_ev (l : List S103) (hw : l.length ≤ maxLen) (ht : ∀ x ∈ l, w103 x) (c : Int) (h0 : 0 ≤ c) (h1 : c ≤ 1048576) : ∃ r, Ev (fun k => laws_szRec.f k l c) r ∧ r ≤ c ∧ (0 ≤ r → r + l.length ≤ c) := by
  obtain ⟨r, hr, hc, hl⟩ := szValS_ev l hw ht c h0 h1
  unfold laws_szRec.f
  by_cases hn : r < 0
  · exact ⟨-1, Ev.bind hr (Ev.pos hn (Ev.now _)), by omega, by omega⟩
  · exact ⟨r, Ev.bind hr (Ev.neg hn (Ev.now _)), hc, hl⟩
theorem toRec_ev (l : List S103) (hl : l.length ≤ 1048576) : Ev (fun k => laws_toRec.f k l) (l.map cvVal) := by
  unfold laws_toRec.f
  exact Ev.bind (toValS_ev l hl) (Ev.now _)
theorem FnExactRecSame : ∀ (x0 : S50) (x1 : S50), (w50 x0) → (w50 x1) → ∃ k, laws_FnExactRecSame.f k x0.f0 x1.f0 = some true := by
  intro x y hx hy
  obtain ⟨a⟩ := x
  obtain ⟨b⟩ := y
  refine Ev.rounds ?_
  unfold laws_FnExactRecSame.f
  obtain ⟨r1, s1, c1, l1⟩ := szRec_ev a hx.1 hx.2 1048576 (by omega) (by omega)
  refine Ev.bind s1 ?_
  by_cases n1 : r1 < 0
  · exact Ev.pos n1 (Ev.now _)
  refine Ev.neg n1 ?_
  obtain ⟨r2, s2, c2, l2⟩ := szRec_ev b hy.1 hy.2 r1 (by omega) (by omega)
  refine Ev.bind s2 ?_
  by_cases n2 : r2 < 0
  · exact Ev.pos n2 (Ev.now _)
  refine Ev.neg n2 ?_
  have ta := toRec_ev a (by omega)
  have tb := toRec_ev b (by omega)
  obtain ⟨r, es, ei⟩ := recSame_both (a.map cvVal) (b.map cvVal) (by simp; omega)
  have qa := eqRec_ev (a.map cvVal) (by simp; omega)
  have qb := eqRec_ev (b.map cvVal) (by simp; omega)
  refine Ev.bind ta (Ev.bind tb (Ev.bind es (Ev.bind ta (Ev.bind tb (Ev.bind ei (Ev.neg (by simp) (Ev.bind ta (Ev.bind qa (Ev.pos rfl (Ev.bind tb (Ev.bind qb (Ev.pos rfl (Ev.now _)))))))))))))
end Go.Proofs.Ytjbilohbkhogkaa.Pure
