/- What the arguments of FnExactTreeRead read as. No condition. -/
import Derived.Test.YtgnelblghdfgiaaVFnExactTreeRead
import Derived.KernelRfl
import Derived.Test.YtgnelblghdfgiaaPFnExactTreeReadx0
namespace Go.Proofs.Ytgnelblghdfgiaa.AFnExactTreeRead
open Go.RowKit Go.Proofs.Ytgnelblghdfgiaa.PFnExactTreeRead Go.Proofs.Ytgnelblghdfgiaa.Opn Go.Proofs.YtgnelblghdfgiaaW.PrintWords Go.Proofs.YtgnelblghdfgiaaW.PrintLast
theorem arg0 : Opens Try.prog 22 (Kd.slice 5 (Kd.int .u8)) (fun x => x.length ≤ maxLen ∧ ∀ y ∈ x, (Lit.int .u8 y).wf = true) := (opens_slice Try.underlying22 (by kernel_rfl) (opens_int Try.underlying5))
theorem arg1 : Opens Try.prog 3 (Kd.int .i64) (fun x => (Lit.int .i64 x).wf = true) := (opens_int Try.underlying3)
end Go.Proofs.Ytgnelblghdfgiaa.AFnExactTreeRead
