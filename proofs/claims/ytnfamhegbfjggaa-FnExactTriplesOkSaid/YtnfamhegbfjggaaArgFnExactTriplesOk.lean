/- What the arguments of FnExactTriplesOk read as. No condition. -/
import Derived.Test.YtnfamhegbfjggaaVFnExactTriplesOk
import Derived.KernelRfl
import Derived.Test.YtnfamhegbfjggaaPFnExactTriplesOkx0
namespace Go.Proofs.Ytnfamhegbfjggaa.AFnExactTriplesOk
open Go.RowKit Go.Proofs.Ytnfamhegbfjggaa.PFnExactTriplesOk Go.Proofs.Ytnfamhegbfjggaa.Opn Go.Proofs.YtnfamhegbfjggaaW.PrintWords Go.Proofs.YtnfamhegbfjggaaW.PrintLast
def w122 : S122 → Prop := fun x => (x.f0.size ≤ maxLen) ∧ ((Lit.int .i64 x.f1).wf = true) ∧ ((Lit.int .i64 x.f2).wf = true) ∧ ((Lit.int .i64 x.f3).wf = true)
theorem o122 : Opens Try.prog 122 k122 w122 :=
  opens_iso (fun x : S122 => (x.f0, x.f1, x.f2, x.f3)) (fun a => ⟨a.1, a.2.1, a.2.2.1, a.2.2.2⟩) (fun _ => rfl) (opens_struct Try.underlying122 (by kernel_rfl) (opensF_cons rfl (by kernel_rfl) (opens_string Try.underlying9) rfl (opensF_cons rfl (by kernel_rfl) (opens_int Try.underlying3) rfl (opensF_cons rfl (by kernel_rfl) (opens_int Try.underlying3) rfl (opensF_one rfl (by kernel_rfl) (opens_int Try.underlying3))))))
def w81 : S81 → Prop := fun x => ((Lit.int .i64 x.f0).wf = true) ∧ (x.f1.size ≤ maxLen)
theorem o81 : Opens Try.prog 81 k81 w81 :=
  opens_iso (fun x : S81 => (x.f0, x.f1)) (fun a => ⟨a.1, a.2⟩) (fun _ => rfl) (opens_struct Try.underlying81 (by kernel_rfl) (opensF_cons rfl (by kernel_rfl) (opens_int Try.underlying3) rfl (opensF_one rfl (by kernel_rfl) (opens_string Try.underlying9))))
def w157 : S157 → Prop := fun x => ((Lit.int .i64 x.f0).wf = true) ∧ ((Lit.int .i64 x.f1).wf = true) ∧ (w81 x.f2)
theorem o157 : Opens Try.prog 157 k157 w157 :=
  opens_iso (fun x : S157 => (x.f0, x.f1, x.f2)) (fun a => ⟨a.1, a.2.1, a.2.2⟩) (fun _ => rfl) (opens_struct Try.underlying157 (by kernel_rfl) (opensF_cons rfl (by kernel_rfl) (opens_int Try.underlying3) rfl (opensF_cons rfl (by kernel_rfl) (opens_int Try.underlying3) rfl (opensF_one rfl (by kernel_rfl) o81))))
theorem arg0 : Opens Try.prog 39 (Kd.slice 122 k122) (fun x => x.length ≤ maxLen ∧ ∀ y ∈ x, w122 y) := (opens_slice Try.underlying39 (by kernel_rfl) o122)
theorem arg1 : Opens Try.prog 3 (Kd.int .i64) (fun x => (Lit.int .i64 x).wf = true) := (opens_int Try.underlying3)
theorem arg2 : Opens Try.prog 95 (Kd.slice 157 k157) (fun x => x.length ≤ maxLen ∧ ∀ y ∈ x, w157 y) := (opens_slice Try.underlying95 (by kernel_rfl) o157)
end Go.Proofs.Ytnfamhegbfjggaa.AFnExactTriplesOk
