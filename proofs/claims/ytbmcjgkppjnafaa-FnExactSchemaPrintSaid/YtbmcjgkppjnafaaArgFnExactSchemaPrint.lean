/- What the arguments of FnExactSchemaPrint read as. No condition. -/
import Derived.Test.YtbmcjgkppjnafaaOpen
import Derived.KernelRfl
import Derived.Test.YtbmcjgkppjnafaaPFnExactSchemaPrintx0
namespace Go.Proofs.Ytbmcjgkppjnafaa.AFnExactSchemaPrint
open Go.RowKit Go.Proofs.Ytbmcjgkppjnafaa.PFnExactSchemaPrint Go.Proofs.Ytbmcjgkppjnafaa.Opn Go.Proofs.YtbmcjgkppjnafaaW.PrintWords Go.Proofs.YtbmcjgkppjnafaaW.PrintLast
def w31 : S31 → Prop := fun x => (x.f0.size ≤ maxLen) ∧ ((Lit.int .i64 x.f1).wf = true) ∧ ((Lit.int .i64 x.f2).wf = true) ∧ ((Lit.int .i64 x.f3).wf = true)
theorem o31 : Opens Try.prog 31 k31 w31 :=
  opens_iso (fun x : S31 => (x.f0, x.f1, x.f2, x.f3)) (fun a => ⟨a.1, a.2.1, a.2.2.1, a.2.2.2⟩) (fun _ => rfl) (opens_struct Try.underlying31 (by kernel_rfl) (opensF_cons rfl (by kernel_rfl) (opens_string Try.underlying9) rfl (opensF_cons rfl (by kernel_rfl) (opens_int Try.underlying3) rfl (opensF_cons rfl (by kernel_rfl) (opens_int Try.underlying3) rfl (opensF_one rfl (by kernel_rfl) (opens_int Try.underlying3))))))
theorem arg0 : Opens Try.prog 22 (Kd.slice 31 k31) (fun x => x.length ≤ maxLen ∧ ∀ y ∈ x, w31 y) := (opens_slice Try.underlying22 (by kernel_rfl) o31)
end Go.Proofs.Ytbmcjgkppjnafaa.AFnExactSchemaPrint
