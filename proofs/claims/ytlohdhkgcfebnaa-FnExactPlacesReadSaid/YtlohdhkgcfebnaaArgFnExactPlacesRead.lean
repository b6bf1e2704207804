/- What the arguments of FnExactPlacesRead read as. No condition. -/
import Derived.Test.YtlohdhkgcfebnaaOpen
import Derived.KernelRfl
import Derived.Test.YtlohdhkgcfebnaaPFnExactPlacesReadx0
namespace Go.Proofs.Ytlohdhkgcfebnaa.AFnExactPlacesRead
open Go.RowKit Go.Proofs.Ytlohdhkgcfebnaa.PFnExactPlacesRead Go.Proofs.Ytlohdhkgcfebnaa.Opn Go.Proofs.YtlohdhkgcfebnaaW.PrintWords Go.Proofs.YtlohdhkgcfebnaaW.PrintLast
theorem arg0 : Opens Try.prog 44 (Kd.slice 5 (Kd.int .u8)) (fun x => x.length ≤ maxLen ∧ ∀ y ∈ x, (Lit.int .u8 y).wf = true) := (opens_slice Try.underlying44 (by kernel_rfl) (opens_int Try.underlying5))
theorem arg1 : Opens Try.prog 3 (Kd.int .i64) (fun x => (Lit.int .i64 x).wf = true) := (opens_int Try.underlying3)
theorem arg2 : Opens Try.prog 3 (Kd.int .i64) (fun x => (Lit.int .i64 x).wf = true) := (opens_int Try.underlying3)
theorem arg3 : Opens Try.prog 3 (Kd.int .i64) (fun x => (Lit.int .i64 x).wf = true) := (opens_int Try.underlying3)
end Go.Proofs.Ytlohdhkgcfebnaa.AFnExactPlacesRead
