/- What the arguments of FnSplit read as. No condition. -/
import Derived.Test.YtlohdhkgcfebnaaOpen
import Derived.KernelRfl
import Derived.Test.YtlohdhkgcfebnaaPFnSplitx0
namespace Go.Proofs.Ytlohdhkgcfebnaa.AFnSplit
open Go.RowKit Go.Proofs.Ytlohdhkgcfebnaa.PFnSplit Go.Proofs.Ytlohdhkgcfebnaa.Opn Go.Proofs.YtlohdhkgcfebnaaW.PrintWords Go.Proofs.YtlohdhkgcfebnaaW.PrintLast
theorem arg0 : Opens Try.prog 44 (Kd.slice 5 (Kd.int .u8)) (fun x => x.length ≤ maxLen ∧ ∀ y ∈ x, (Lit.int .u8 y).wf = true) := (opens_slice Try.underlying44 (by kernel_rfl) (opens_int Try.underlying5))
end Go.Proofs.Ytlohdhkgcfebnaa.AFnSplit
