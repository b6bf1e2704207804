/- What the arguments of FnExactChunkCut read as. No condition. -/
import Derived.Test.YtcnfnjfbacmmaaaVFnExactChunkCut
import Derived.KernelRfl
import Derived.Test.YtcnfnjfbacmmaaaPFnExactChunkCutx0
namespace Go.Proofs.Ytcnfnjfbacmmaaa.AFnExactChunkCut
open Go.RowKit Go.Proofs.Ytcnfnjfbacmmaaa.PFnExactChunkCut Go.Proofs.Ytcnfnjfbacmmaaa.Opn Go.Proofs.YtcnfnjfbacmmaaaW.PrintWords Go.Proofs.YtcnfnjfbacmmaaaW.PrintLast
def w35 : S35 → Prop := fun x => ((Lit.int .i64 x.f0).wf = true) ∧ (x.f1.size ≤ maxLen)
theorem o35 : Opens Try.prog 35 k35 w35 :=
  opens_iso (fun x : S35 => (x.f0, x.f1)) (fun a => ⟨a.1, a.2⟩) (fun _ => rfl) (opens_struct Try.underlying35 (by kernel_rfl) (opensF_cons rfl (by kernel_rfl) (opens_int Try.underlying3) rfl (opensF_one rfl (by kernel_rfl) (opens_string Try.underlying9))))
def w37 : S37 → Prop := fun x => ((Lit.int .i64 x.f0).wf = true) ∧ ((Lit.int .i64 x.f1).wf = true) ∧ (w35 x.f2)
theorem o37 : Opens Try.prog 37 k37 w37 :=
  opens_iso (fun x : S37 => (x.f0, x.f1, x.f2)) (fun a => ⟨a.1, a.2.1, a.2.2⟩) (fun _ => rfl) (opens_struct Try.underlying37 (by kernel_rfl) (opensF_cons rfl (by kernel_rfl) (opens_int Try.underlying3) rfl (opensF_cons rfl (by kernel_rfl) (opens_int Try.underlying3) rfl (opensF_one rfl (by kernel_rfl) o35))))
theorem arg0 : Opens Try.prog 22 (Kd.slice 37 k37) (fun x => x.length ≤ maxLen ∧ ∀ y ∈ x, w37 y) := (opens_slice Try.underlying22 (by kernel_rfl) o37)
theorem arg1 : Opens Try.prog 3 (Kd.int .i64) (fun x => (Lit.int .i64 x).wf = true) := (opens_int Try.underlying3)
end Go.Proofs.Ytcnfnjfbacmmaaa.AFnExactChunkCut
