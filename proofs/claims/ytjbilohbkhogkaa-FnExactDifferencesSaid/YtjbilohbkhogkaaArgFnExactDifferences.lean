/- What the arguments of FnExactDifferences read as. No condition. -/
import Derived.Test.YtjbilohbkhogkaaOpen
import Derived.KernelRfl
import Derived.Test.YtjbilohbkhogkaaPFnExactDifferencesx0
namespace Go.Proofs.Ytjbilohbkhogkaa.AFnExactDifferences
open Go.RowKit Go.Proofs.Ytjbilohbkhogkaa.PFnExactDifferences Go.Proofs.Ytjbilohbkhogkaa.Opn Go.Proofs.YtjbilohbkhogkaaW.PrintWords Go.Proofs.YtjbilohbkhogkaaW.PrintLast
theorem arg0 : Opens Try.prog 32 (Kd.slice 3 (Kd.int .i64)) (fun x => x.length ≤ maxLen ∧ ∀ y ∈ x, (Lit.int .i64 y).wf = true) := (opens_slice Try.underlying32 (by kernel_rfl) (opens_int Try.underlying3))
end Go.Proofs.Ytjbilohbkhogkaa.AFnExactDifferences
