/- What the arguments of FnExactLengthPack read as. No condition. -/
import Derived.Test.YtnfamhegbfjggaaOpen
import Derived.KernelRfl
import Derived.Test.YtnfamhegbfjggaaPFnExactLengthPackx0
namespace Go.Proofs.Ytnfamhegbfjggaa.AFnExactLengthPack
open Go.RowKit Go.Proofs.Ytnfamhegbfjggaa.PFnExactLengthPack Go.Proofs.Ytnfamhegbfjggaa.Opn Go.Proofs.YtnfamhegbfjggaaW.PrintWords Go.Proofs.YtnfamhegbfjggaaW.PrintLast
def w81 : S81 → Prop := fun x => ((Lit.int .i64 x.f0).wf = true) ∧ (x.f1.size ≤ maxLen)
theorem o81 : Opens Try.prog 81 k81 w81 :=
  opens_iso (fun x : S81 => (x.f0, x.f1)) (fun a => ⟨a.1, a.2⟩) (fun _ => rfl) (opens_struct Try.underlying81 (by kernel_rfl) (opensF_cons rfl (by kernel_rfl) (opens_int Try.underlying3) rfl (opensF_one rfl (by kernel_rfl) (opens_string Try.underlying9))))
theorem arg0 : Opens Try.prog 64 (Kd.slice 81 k81) (fun x => x.length ≤ maxLen ∧ ∀ y ∈ x, w81 y) := (opens_slice Try.underlying64 (by kernel_rfl) o81)
end Go.Proofs.Ytnfamhegbfjggaa.AFnExactLengthPack
