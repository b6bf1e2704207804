/- What the arguments of FnExactPlacesPack read as. No condition. -/
import Derived.Test.YtnfamhegbfjggaaOpen
import Derived.KernelRfl
import Derived.Test.YtnfamhegbfjggaaPFnExactPlacesPackx0
namespace Go.Proofs.Ytnfamhegbfjggaa.AFnExactPlacesPack
open Go.RowKit Go.Proofs.Ytnfamhegbfjggaa.PFnExactPlacesPack Go.Proofs.Ytnfamhegbfjggaa.Opn Go.Proofs.YtnfamhegbfjggaaW.PrintWords Go.Proofs.YtnfamhegbfjggaaW.PrintLast
theorem arg0 : Opens Try.prog 32 (Kd.slice 3 (Kd.int .i64)) (fun x => x.length ≤ maxLen ∧ ∀ y ∈ x, (Lit.int .i64 y).wf = true) := (opens_slice Try.underlying32 (by kernel_rfl) (opens_int Try.underlying3))
theorem arg1 : Opens Try.prog 3 (Kd.int .i64) (fun x => (Lit.int .i64 x).wf = true) := (opens_int Try.underlying3)
end Go.Proofs.Ytnfamhegbfjggaa.AFnExactPlacesPack
