/- What the arguments of FnDelta read as. No condition. -/
import Derived.Test.YtgcanbeckamjeaaVFnDelta
import Derived.KernelRfl
import Derived.Test.YtgcanbeckamjeaaPFnDeltax0
namespace Go.Proofs.Ytgcanbeckamjeaa.AFnDelta
open Go.RowKit Go.Proofs.Ytgcanbeckamjeaa.PFnDelta Go.Proofs.Ytgcanbeckamjeaa.Opn Go.Proofs.YtgcanbeckamjeaaW.PrintWords Go.Proofs.YtgcanbeckamjeaaW.PrintLast
theorem arg0 : Opens Try.prog 22 (Kd.slice 5 (Kd.int .u8)) (fun x => x.length ≤ maxLen ∧ ∀ y ∈ x, (Lit.int .u8 y).wf = true) := (opens_slice Try.underlying22 (by kernel_rfl) (opens_int Try.underlying5))
end Go.Proofs.Ytgcanbeckamjeaa.AFnDelta
