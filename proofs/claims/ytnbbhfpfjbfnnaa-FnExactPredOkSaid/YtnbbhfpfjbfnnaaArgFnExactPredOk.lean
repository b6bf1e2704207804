/- What the arguments of FnExactPredOk read as. No condition. -/
import Derived.Test.YtnbbhfpfjbfnnaaVFnExactPredOk
import Derived.KernelRfl
import Derived.Test.YtnbbhfpfjbfnnaaPFnExactPredOkx0
namespace Go.Proofs.Ytnbbhfpfjbfnnaa.AFnExactPredOk
open Go.RowKit Go.Proofs.Ytnbbhfpfjbfnnaa.PFnExactPredOk Go.Proofs.Ytnbbhfpfjbfnnaa.Opn Go.Proofs.YtnbbhfpfjbfnnaaW.PrintWords Go.Proofs.YtnbbhfpfjbfnnaaW.PrintLast
def w63 : S63 → Prop := fun x => (x.f0.size ≤ maxLen) ∧ ((Lit.int .i64 x.f1).wf = true) ∧ ((Lit.int .i64 x.f2).wf = true) ∧ ((Lit.int .i64 x.f3).wf = true)
theorem o63 : Opens Try.prog 63 k63 w63 :=
  opens_iso (fun x : S63 => (x.f0, x.f1, x.f2, x.f3)) (fun a => ⟨a.1, a.2.1, a.2.2.1, a.2.2.2⟩) (fun _ => rfl) (opens_struct Try.underlying63 (by kernel_rfl) (opensF_cons rfl (by kernel_rfl) (opens_string Try.underlying9) rfl (opensF_cons rfl (by kernel_rfl) (opens_int Try.underlying3) rfl (opensF_cons rfl (by kernel_rfl) (opens_int Try.underlying3) rfl (opensF_one rfl (by kernel_rfl) (opens_int Try.underlying3))))))
def w50 : S50 → Prop := fun x => ((Lit.int .i64 x.f0).wf = true) ∧ (x.f1.size ≤ maxLen)
theorem o50 : Opens Try.prog 50 k50 w50 :=
  opens_iso (fun x : S50 => (x.f0, x.f1)) (fun a => ⟨a.1, a.2⟩) (fun _ => rfl) (opens_struct Try.underlying50 (by kernel_rfl) (opensF_cons rfl (by kernel_rfl) (opens_int Try.underlying3) rfl (opensF_one rfl (by kernel_rfl) (opens_string Try.underlying9))))
def w66 : S66 → Prop := fun x => ((Lit.int .i64 x.f0).wf = true) ∧ ((Lit.int .i64 x.f1).wf = true) ∧ (w50 x.f2) ∧ ((Lit.int .i64 x.f3).wf = true) ∧ ((Lit.int .i64 x.f4).wf = true)
theorem o66 : Opens Try.prog 66 k66 w66 :=
  opens_iso (fun x : S66 => (x.f0, x.f1, x.f2, x.f3, x.f4)) (fun a => ⟨a.1, a.2.1, a.2.2.1, a.2.2.2.1, a.2.2.2.2⟩) (fun _ => rfl) (opens_struct Try.underlying66 (by kernel_rfl) (opensF_cons rfl (by kernel_rfl) (opens_int Try.underlying3) rfl (opensF_cons rfl (by kernel_rfl) (opens_int Try.underlying3) rfl (opensF_cons rfl (by kernel_rfl) o50 rfl (opensF_cons rfl (by kernel_rfl) (opens_int Try.underlying3) rfl (opensF_one rfl (by kernel_rfl) (opens_int Try.underlying3)))))))
theorem arg0 : Opens Try.prog 34 (Kd.slice 63 k63) (fun x => x.length ≤ maxLen ∧ ∀ y ∈ x, w63 y) := (opens_slice Try.underlying34 (by kernel_rfl) o63)
theorem arg1 : Opens Try.prog 35 (Kd.slice 66 k66) (fun x => x.length ≤ maxLen ∧ ∀ y ∈ x, w66 y) := (opens_slice Try.underlying35 (by kernel_rfl) o66)
end Go.Proofs.Ytnbbhfpfjbfnnaa.AFnExactPredOk
