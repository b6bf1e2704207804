/- What the arguments of FnCommon read as. No condition. -/
import Derived.Test.YtjbilohbkhogkaaOpen
import Derived.KernelRfl
import Derived.Test.YtjbilohbkhogkaaPFnCommonx0
namespace Go.Proofs.Ytjbilohbkhogkaa.AFnCommon
open Go.RowKit Go.Proofs.Ytjbilohbkhogkaa.PFnCommon Go.Proofs.Ytjbilohbkhogkaa.Opn Go.Proofs.YtjbilohbkhogkaaW.PrintWords Go.Proofs.YtjbilohbkhogkaaW.PrintLast
theorem arg0 : Opens Try.prog 37 (Kd.slice 5 (Kd.int .u8)) (fun x => x.length ≤ maxLen ∧ ∀ y ∈ x, (Lit.int .u8 y).wf = true) := (opens_slice Try.underlying37 (by kernel_rfl) (opens_int Try.underlying5))
end Go.Proofs.Ytjbilohbkhogkaa.AFnCommon
