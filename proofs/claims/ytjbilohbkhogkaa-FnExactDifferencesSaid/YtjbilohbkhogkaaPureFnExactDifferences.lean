/- The pure statement of FnExactDifferences: the printed functions answer as the law says, for all arguments. No condition. -/
import Derived.Test.YtjbilohbkhogkaaCore
import Derived.Test.YtjbilohbkhogkaaPFnExactDifferencesx
import Derived.Test.YtjbilohbkhogkaaArgFnExactDifferences
namespace Go.Proofs.Ytjbilohbkhogkaa.Pure
open Go.RowKit Go.Proofs.Ytjbilohbkhogkaa.PFnExactDifferences Go.Proofs.Ytjbilohbkhogkaa.Core Go.Proofs.YtjbilohbkhogkaaW.PrintWords Go.Proofs.YtjbilohbkhogkaaW.PrintLast Go.Proofs.YtjbilohbkhogkaaW.PrintMore Go.Proofs.Ytjbilohbkhogkaa.AFnExactDifferences
set_option linter.unusedVariables false
set_option linter.unusedSimpArgs false
theorem toIntS_ev (l : List Int) (hl : l.length ≤ 35184372088832) : Ev (fun k => laws_toIntS.f k l) l := by
  unfold laws_toIntS.f
  refine Ev.pos (by omega) (Ev.pos (by omega) ?_)
  have := copy_loop (fun k out i => laws_toIntS.l0 k l out i) l id (fun out i r h ho hr => ?_) (fun out ho => ?_) (List.replicate ((l.length : Int)).toNat 0) (by simp)
  · simpa using this
  · refine Ev.step (fun k => by rw [laws_toIntS.l0]) ?_
    refine Ev.pos (by omega) (Ev.pos (by omega) (Ev.pos (by omega) ?_))
    rw [wrap64_id (by omega) (by omega), rd_eq (by simpa using h)]
    simpa using hr
  · exact Ev.step (fun k => by rw [laws_toIntS.l0]) (by exact Ev.neg (by omega) (Ev.now _))
theorem eqIntS_ev (l : List Int) (hl : l.length ≤ 9223372036854775806) : Ev (fun k => laws_eqIntS.f k l l) true := by
  unfold laws_eqIntS.f
  refine Ev.pos rfl ?_
  refine same_loop (fun k i => laws_eqIntS.l0 k l l i) l.length (fun i r h hr => ?_) ?_
  · refine Ev.step (fun k => by rw [laws_eqIntS.l0]) ?_
    refine Ev.pos (by omega) (Ev.pos (by omega) (Ev.pos (by omega) (Ev.pos rfl ?_)))
    rw [wrap64_id (by omega) (by omega)]
    simpa using hr
  · exact Ev.step (fun k => by rw [laws_eqIntS.l0]) (by exact Ev.neg (by omega) (Ev.now _))
theorem markIntS_ev (l : List Int) (c : Int) (hc : 0 ≤ c) (hl : c + l.length ≤ 9223372036854775806) : ∃ m ys, m = c + l.length ∧ Ev (fun k => laws_markIntS.f k l c) (m, ys) ∧ Ev (fun k => laws_heldIntS.f k ys c) m := by
  obtain ⟨m, ys, _, hm, h1, h2⟩ := marks_held 1 9223372036854775807 (by omega) (fun c (_ : Int) => c) (fun k xs c i => laws_markIntS.l0 k xs c i) (fun k xs c i => laws_heldIntS.l0 k xs c i)
    (fun xs c i r h hb h0 hB hr => by
      refine Ev.step (fun k => by rw [laws_markIntS.l0]) ?_
      refine Ev.pos (by omega) (Ev.pos (by omega) ?_)
      rw [wrap64_id (x := c + 1) (by omega) (by omega), wrap64_id (x := (i : Int) + 1) (by omega) (by omega)]
      simpa using hr)
    (fun xs c => Ev.step (fun k => by rw [laws_markIntS.l0]) (by exact Ev.neg (by omega) (Ev.now _)))
    (fun xs c i r z h hb h0 hB hz hr => by
      refine Ev.step (fun k => by rw [laws_heldIntS.l0]) ?_
      refine Ev.pos (by omega) (Ev.pos (by omega) (Ev.pos (by rw [rd_eq (by simpa using h)]; simpa using hz) ?_))
      rw [wrap64_id (x := c + 1) (by omega) (by omega), wrap64_id (x := (i : Int) + 1) (by omega) (by omega)]
      simpa using hr)
    (fun xs c => Ev.step (fun k => by rw [laws_heldIntS.l0]) (by exact Ev.neg (by omega) (Ev.now _)))
    l c hc (by omega)
  exact ⟨m, ys, by omega, h1, h2⟩
def diffs (l : List Int) : List Int := (List.range (l.length - 1)).map fun (i : Nat) => wrap64 (rd l ((i : Int) + 1) - rd l (i : Int))
theorem diffs_length (l : List Int) : (diffs l).length = l.length - 1 := by simp [diffs]
theorem differences_same : ∀ (k : Nat) (a b : List Int) (i : Int), spec_Differences.l0 k a b i = impl_Differences.l0 k a b i
  | 0, _, _, _ => by rw [spec_Differences.l0, impl_Differences.l0]
  | k + 1, a, b, i => by rw [spec_Differences.l0, impl_Differences.l0]; simp only [differences_same k]
theorem impl_Differences_ev (l : List Int) (hl : l.length ≤ 1048576) : Ev (fun k => impl_Differences.f k l) (diffs l) := by
  unfold impl_Differences.f
  have := append_loop (fun k out i => impl_Differences.l0 k l out (i + 1)) (fun i => wrap64 (rd l ((i : Int) + 1) - rd l (i : Int))) (l.length - 1) (diffs l)
    (fun i s h hs hr => by
      refine Ev.step (fun k => by rw [impl_Differences.l0]) ?_
      refine Ev.pos (by omega) (Ev.pos (by omega) ?_)
      rw [wrap64_id (x := (i : Int) + 1 - 1) (by omega) (by omega)]
      refine Ev.pos (by omega) (Ev.pos (by omega) (Ev.pos (by omega) ?_))
      rw [wrap64_id (x := (i : Int) + 1 + 1) (by omega) (by omega)]
      have e : (i : Int) + 1 - 1 = i := by omega
      rw [e]
      simpa using hr)
    (Ev.step (fun k => by rw [impl_Differences.l0]) (by exact Ev.neg (by omega) (Ev.now _)))
  simpa using this
theorem spec_Differences_ev (l : List Int) (hl : l.length ≤ 1048576) : Ev (fun k => spec_Differences.f k l) (diffs l) :=
  Ev.congr (fun k => by unfold spec_Differences.f impl_Differences.f; exact differences_same k _ _ _) (impl_Differences_ev l hl)
theorem FnExactDifferences : ∀ (x0 : List (Int)), (x0.length ≤ maxLen ∧ ∀ y ∈ x0, (Lit.int .i64 y).wf = true) → ∃ k, laws_FnExactDifferences.f k x0 = some true := by
  intro l hx
  refine Ev.rounds ?_
  unfold laws_FnExactDifferences.f
  by_cases hb : (l.length : Int) > 1048576
  · exact Ev.pos hb (Ev.now _)
  refine Ev.neg hb ?_
  have hd := diffs_length l
  have e1 := toIntS_ev l (by omega)
  have e2 := spec_Differences_ev l (by omega)
  have e3 := impl_Differences_ev l (by omega)
  have e4 := eqIntS_ev l (by omega)
  have e5 := eqIntS_ev (diffs l) (by omega)
  obtain ⟨m1, y1, p1, e6, e7⟩ := markIntS_ev l 1 (by omega) (by omega)
  obtain ⟨m2, y2, p2, e8, e9⟩ := markIntS_ev (diffs l) 1 (by omega) (by omega)
  repeat' (first
    | with_reducible exact Ev.now _
    | with_reducible refine Ev.bind e1 ?_ | with_reducible refine Ev.bind e2 ?_ | with_reducible refine Ev.bind e3 ?_ | with_reducible refine Ev.bind e4 ?_ | with_reducible refine Ev.bind e5 ?_
    | with_reducible refine Ev.bind e6 ?_ | with_reducible refine Ev.bind e7 ?_ | with_reducible refine Ev.bind e8 ?_ | with_reducible refine Ev.bind e9 ?_
    | refine Ev.pos (by first | rfl | omega) ?_
    | refine Ev.neg (by first | omega | decide) ?_
    | refine Ev.step (fun k => by rw [laws_FnExactDifferences.j0]) ?_)
end Go.Proofs.Ytjbilohbkhogkaa.Pure
