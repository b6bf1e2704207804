/- What the arguments of FnExactDictOf read as. No condition. -/
import Derived.Test.YtgbhjjhnkiagfaaOpen
import Derived.KernelRfl
import Derived.Test.YtgbhjjhnkiagfaaPFnExactDictOfx0
namespace Go.Proofs.Ytgbhjjhnkiagfaa.AFnExactDictOf
open Go.RowKit Go.Proofs.Ytgbhjjhnkiagfaa.PFnExactDictOf Go.Proofs.Ytgbhjjhnkiagfaa.Opn Go.Proofs.YtgbhjjhnkiagfaaW.PrintWords Go.Proofs.YtgbhjjhnkiagfaaW.PrintLast
def w60 : S60 → Prop := fun x => ((Lit.int .i64 x.f0).wf = true) ∧ (x.f1.size ≤ maxLen)
theorem o60 : Opens Try.prog 60 k60 w60 :=
  opens_iso (fun x : S60 => (x.f0, x.f1)) (fun a => ⟨a.1, a.2⟩) (fun _ => rfl) (opens_struct Try.underlying60 (by kernel_rfl) (opensF_cons rfl (by kernel_rfl) (opens_int Try.underlying3) rfl (opensF_one rfl (by kernel_rfl) (opens_string Try.underlying9))))
theorem arg0 : Opens Try.prog 3 (Kd.int .i64) (fun x => (Lit.int .i64 x).wf = true) := (opens_int Try.underlying3)
theorem arg1 : Opens Try.prog 39 (Kd.slice 60 k60) (fun x => x.length ≤ maxLen ∧ ∀ y ∈ x, w60 y) := (opens_slice Try.underlying39 (by kernel_rfl) o60)
end Go.Proofs.Ytgbhjjhnkiagfaa.AFnExactDictOf
