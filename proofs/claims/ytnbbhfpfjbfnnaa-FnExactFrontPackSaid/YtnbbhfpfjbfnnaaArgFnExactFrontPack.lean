/- What the arguments of FnExactFrontPack read as. No condition. -/
import Derived.Test.YtnbbhfpfjbfnnaaVFnExactFrontPack
import Derived.KernelRfl
import Derived.Test.YtnbbhfpfjbfnnaaPFnExactFrontPackx0
namespace Go.Proofs.Ytnbbhfpfjbfnnaa.AFnExactFrontPack
open Go.RowKit Go.Proofs.Ytnbbhfpfjbfnnaa.PFnExactFrontPack Go.Proofs.Ytnbbhfpfjbfnnaa.Opn Go.Proofs.YtnbbhfpfjbfnnaaW.PrintWords Go.Proofs.YtnbbhfpfjbfnnaaW.PrintLast
def w50 : S50 → Prop := fun x => ((Lit.int .i64 x.f0).wf = true) ∧ (x.f1.size ≤ maxLen)
theorem o50 : Opens Try.prog 50 k50 w50 :=
  opens_iso (fun x : S50 => (x.f0, x.f1)) (fun a => ⟨a.1, a.2⟩) (fun _ => rfl) (opens_struct Try.underlying50 (by kernel_rfl) (opensF_cons rfl (by kernel_rfl) (opens_int Try.underlying3) rfl (opensF_one rfl (by kernel_rfl) (opens_string Try.underlying9))))
theorem arg0 : Opens Try.prog 22 (Kd.slice 50 k50) (fun x => x.length ≤ maxLen ∧ ∀ y ∈ x, w50 y) := (opens_slice Try.underlying22 (by kernel_rfl) o50)
end Go.Proofs.Ytnbbhfpfjbfnnaa.AFnExactFrontPack
