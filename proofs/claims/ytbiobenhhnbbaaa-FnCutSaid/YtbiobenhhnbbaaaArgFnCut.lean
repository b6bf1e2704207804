/- What the arguments of FnCut read as. No condition. -/
import Derived.Test.YtbiobenhhnbbaaaVFnCut
import Derived.KernelRfl
import Derived.Test.YtbiobenhhnbbaaaPFnCutx0
namespace Go.Proofs.Ytbiobenhhnbbaaa.AFnCut
open Go.RowKit Go.Proofs.Ytbiobenhhnbbaaa.PFnCut Go.Proofs.Ytbiobenhhnbbaaa.Opn Go.Proofs.YtbiobenhhnbbaaaW.PrintWords Go.Proofs.YtbiobenhhnbbaaaW.PrintLast
theorem arg0 : Opens Try.prog 22 (Kd.slice 5 (Kd.int .u8)) (fun x => x.length ≤ maxLen ∧ ∀ y ∈ x, (Lit.int .u8 y).wf = true) := (opens_slice Try.underlying22 (by kernel_rfl) (opens_int Try.underlying5))
end Go.Proofs.Ytbiobenhhnbbaaa.AFnCut
