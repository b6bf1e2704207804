/- What the arguments of FnDict read as. No condition. -/
import Derived.Test.YtgbhjjhnkiagfaaVFnDict
import Derived.KernelRfl
import Derived.Test.YtgbhjjhnkiagfaaPFnDictx0
namespace Go.Proofs.Ytgbhjjhnkiagfaa.AFnDict
open Go.RowKit Go.Proofs.Ytgbhjjhnkiagfaa.PFnDict Go.Proofs.Ytgbhjjhnkiagfaa.Opn Go.Proofs.YtgbhjjhnkiagfaaW.PrintWords Go.Proofs.YtgbhjjhnkiagfaaW.PrintLast
theorem arg0 : Opens Try.prog 22 (Kd.slice 5 (Kd.int .u8)) (fun x => x.length ≤ maxLen ∧ ∀ y ∈ x, (Lit.int .u8 y).wf = true) := (opens_slice Try.underlying22 (by kernel_rfl) (opens_int Try.underlying5))
end Go.Proofs.Ytgbhjjhnkiagfaa.AFnDict
