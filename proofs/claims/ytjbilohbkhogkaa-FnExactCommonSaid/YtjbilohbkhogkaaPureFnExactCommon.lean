/- The pure statement of FnExactCommon: the printed functions answer as the law says, for all arguments. No condition. -/
import Derived.Test.YtjbilohbkhogkaaCore
import Derived.Test.YtjbilohbkhogkaaPFnExactCommonx
namespace Go.Proofs.Ytjbilohbkhogkaa.Pure
open Go.RowKit Go.Proofs.Ytjbilohbkhogkaa.PFnExactCommon Go.Proofs.Ytjbilohbkhogkaa.Core Go.Proofs.YtjbilohbkhogkaaW.PrintWords Go.Proofs.YtjbilohbkhogkaaW.PrintLast Go.Proofs.YtjbilohbkhogkaaW.PrintMore
set_option linter.unusedVariables false
set_option linter.unusedSimpArgs false
theorem common_same : ∀ (k : Nat) (a b : ByteArray) (i : Int), spec_Common.l0 k a b i = impl_Common.l0 k a b i
  | 0, _, _, _ => by rw [spec_Common.l0, impl_Common.l0]
  | k + 1, a, b, i => by rw [spec_Common.l0, impl_Common.l0]; simp only [common_same k]
theorem common_ev (a b : ByteArray) (ha : a.size ≤ 9223372036854775806) : ∀ (d : Nat) (i : Int), 0 ≤ i → i + d = a.size → ∃ r, Ev (fun k => impl_Common.l0 k a b i) r := by
  intro d
  induction d with
  | zero =>
    intro i h0 hi
    exact ⟨_, Ev.step (fun k => by rw [impl_Common.l0]) (Ev.neg (by omega) (Ev.now _))⟩
  | succ d ih =>
    intro i h0 hi
    by_cases h1 : i < (b.size : Int)
    · by_cases h2 : bt a i = bt b i
      · obtain ⟨r, hr⟩ := ih (i + 1) (by omega) (by omega)
        refine ⟨r, Ev.step (fun k => by rw [impl_Common.l0]) (Ev.pos (by omega) (Ev.pos h1 (Ev.pos h0 (Ev.pos h2 ?_))))⟩
        rw [wrap64_id (by omega) (by omega)]
        exact hr
      · exact ⟨_, Ev.step (fun k => by rw [impl_Common.l0]) (Ev.pos (by omega) (Ev.pos h1 (Ev.pos h0 (Ev.neg h2 (Ev.now _)))))⟩
    · exact ⟨_, Ev.step (fun k => by rw [impl_Common.l0]) (Ev.pos (by omega) (Ev.neg h1 (Ev.now _)))⟩
theorem FnExactCommon : laws_FnExactCommon.Pure := by
  intro a b ha hb
  obtain ⟨r, hr⟩ := common_ev a b (by omega) a.size 0 (by omega) (by omega)
  have hs : Ev (fun k => spec_Common.l0 k a b 0) r := Ev.congr (fun k => common_same k a b 0) hr
  refine Ev.rounds ?_
  unfold laws_FnExactCommon.f spec_Common.f impl_Common.f
  by_cases h1 : (a.size : Int) > 1048576
  · exact Ev.pos h1 (Ev.now _)
  · refine Ev.neg h1 ?_
    by_cases h2 : (b.size : Int) > 1048576
    · exact Ev.pos h2 (Ev.now _)
    · exact Ev.neg h2 (Ev.bind hs (Ev.bind hr (Ev.pos rfl (Ev.now _))))
end Go.Proofs.Ytjbilohbkhogkaa.Pure
