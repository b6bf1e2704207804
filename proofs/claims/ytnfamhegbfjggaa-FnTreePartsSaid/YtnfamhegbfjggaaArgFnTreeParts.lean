/- What the arguments of FnTreeParts read as. No condition. -/
import Derived.Test.YtnfamhegbfjggaaVFnTreeParts
import Derived.KernelRfl
import Derived.Test.YtnfamhegbfjggaaPFnTreePartsx0
namespace Go.Proofs.Ytnfamhegbfjggaa.AFnTreeParts
open Go.RowKit Go.Proofs.Ytnfamhegbfjggaa.PFnTreeParts Go.Proofs.Ytnfamhegbfjggaa.Opn Go.Proofs.YtnfamhegbfjggaaW.PrintWords Go.Proofs.YtnfamhegbfjggaaW.PrintLast
theorem arg0 : Opens Try.prog 22 (Kd.slice 5 (Kd.int .u8)) (fun x => x.length ≤ maxLen ∧ ∀ y ∈ x, (Lit.int .u8 y).wf = true) := (opens_slice Try.underlying22 (by kernel_rfl) (opens_int Try.underlying5))
end Go.Proofs.Ytnfamhegbfjggaa.AFnTreeParts
