/- What the arguments of FnExactDeltaPack read as. No condition. -/
import Derived.Test.YtlohdhkgcfebnaaOpen
import Derived.KernelRfl
import Derived.Test.YtlohdhkgcfebnaaPFnExactDeltaPackx0
namespace Go.Proofs.Ytlohdhkgcfebnaa.AFnExactDeltaPack
open Go.RowKit Go.Proofs.Ytlohdhkgcfebnaa.PFnExactDeltaPack Go.Proofs.Ytlohdhkgcfebnaa.Opn Go.Proofs.YtlohdhkgcfebnaaW.PrintWords Go.Proofs.YtlohdhkgcfebnaaW.PrintLast
theorem arg0 : Opens Try.prog 54 (Kd.slice 3 (Kd.int .i64)) (fun x => x.length ≤ maxLen ∧ ∀ y ∈ x, (Lit.int .i64 y).wf = true) := (opens_slice Try.underlying54 (by kernel_rfl) (opens_int Try.underlying3))
end Go.Proofs.Ytlohdhkgcfebnaa.AFnExactDeltaPack
