/- What the arguments of FnExactSplitPack read as. No condition. -/
import Derived.Test.YtlohdhkgcfebnaaOpen
import Derived.KernelRfl
import Derived.Test.YtlohdhkgcfebnaaPFnExactSplitPackx0
namespace Go.Proofs.Ytlohdhkgcfebnaa.AFnExactSplitPack
open Go.RowKit Go.Proofs.Ytlohdhkgcfebnaa.PFnExactSplitPack Go.Proofs.Ytlohdhkgcfebnaa.Opn Go.Proofs.YtlohdhkgcfebnaaW.PrintWords Go.Proofs.YtlohdhkgcfebnaaW.PrintLast
def w112 : S112 → Prop := fun x => ((Lit.int .i64 x.f0).wf = true) ∧ (x.f1.size ≤ maxLen)
theorem o112 : Opens Try.prog 112 k112 w112 :=
  opens_iso (fun x : S112 => (x.f0, x.f1)) (fun a => ⟨a.1, a.2⟩) (fun _ => rfl) (opens_struct Try.underlying112 (by kernel_rfl) (opensF_cons rfl (by kernel_rfl) (opens_int Try.underlying3) rfl (opensF_one rfl (by kernel_rfl) (opens_string Try.underlying9))))
theorem arg0 : Opens Try.prog 3 (Kd.int .i64) (fun x => (Lit.int .i64 x).wf = true) := (opens_int Try.underlying3)
theorem arg1 : Opens Try.prog 42 (Kd.slice 112 k112) (fun x => x.length ≤ maxLen ∧ ∀ y ∈ x, w112 y) := (opens_slice Try.underlying42 (by kernel_rfl) o112)
end Go.Proofs.Ytlohdhkgcfebnaa.AFnExactSplitPack
