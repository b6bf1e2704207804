/- What the arguments of FnStats read as. No condition. -/
import Derived.Test.YtnlgodcbnlbdkaaVFnStats
import Derived.KernelRfl
import Derived.Test.YtnlgodcbnlbdkaaPFnStatsx0
namespace Go.Proofs.Ytnlgodcbnlbdkaa.AFnStats
open Go.RowKit Go.Proofs.Ytnlgodcbnlbdkaa.PFnStats Go.Proofs.Ytnlgodcbnlbdkaa.Opn Go.Proofs.YtnlgodcbnlbdkaaW.PrintWords Go.Proofs.YtnlgodcbnlbdkaaW.PrintLast
theorem arg0 : Opens Try.prog 22 (Kd.slice 5 (Kd.int .u8)) (fun x => x.length ≤ maxLen ∧ ∀ y ∈ x, (Lit.int .u8 y).wf = true) := (opens_slice Try.underlying22 (by kernel_rfl) (opens_int Try.underlying5))
end Go.Proofs.Ytnlgodcbnlbdkaa.AFnStats
