/- What the arguments of FnExactDictPack read as. No condition. -/
import Derived.Test.YtgiljoeekpfpmaaVFnExactDictPack
import Derived.KernelRfl
import Derived.Test.YtgiljoeekpfpmaaPFnExactDictPackx0
namespace Go.Proofs.Ytgiljoeekpfpmaa.AFnExactDictPack
open Go.RowKit Go.Proofs.Ytgiljoeekpfpmaa.PFnExactDictPack Go.Proofs.Ytgiljoeekpfpmaa.Opn Go.Proofs.YtgiljoeekpfpmaaW.PrintWords Go.Proofs.YtgiljoeekpfpmaaW.PrintLast
def w66 : S66 → Prop := fun x => ((Lit.int .i64 x.f0).wf = true) ∧ (x.f1.size ≤ maxLen)
theorem o66 : Opens Try.prog 66 k66 w66 :=
  opens_iso (fun x : S66 => (x.f0, x.f1)) (fun a => ⟨a.1, a.2⟩) (fun _ => rfl) (opens_struct Try.underlying66 (by kernel_rfl) (opensF_cons rfl (by kernel_rfl) (opens_int Try.underlying3) rfl (opensF_one rfl (by kernel_rfl) (opens_string Try.underlying9))))
theorem arg0 : Opens Try.prog 3 (Kd.int .i64) (fun x => (Lit.int .i64 x).wf = true) := (opens_int Try.underlying3)
theorem arg1 : Opens Try.prog 39 (Kd.slice 66 k66) (fun x => x.length ≤ maxLen ∧ ∀ y ∈ x, w66 y) := (opens_slice Try.underlying39 (by kernel_rfl) o66)
theorem arg2 : Opens Try.prog 4 Kd.bool (fun _ => True) := (opens_bool Try.underlying4)
end Go.Proofs.Ytgiljoeekpfpmaa.AFnExactDictPack
