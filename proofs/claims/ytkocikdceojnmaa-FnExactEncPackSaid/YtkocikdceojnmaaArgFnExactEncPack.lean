/- What the arguments of FnExactEncPack read as. No condition. -/
import Derived.Test.YtkocikdceojnmaaVFnExactEncPack
import Derived.KernelRfl
import Derived.Test.YtkocikdceojnmaaPFnExactEncPackx0
namespace Go.Proofs.Ytkocikdceojnmaa.AFnExactEncPack
open Go.RowKit Go.Proofs.Ytkocikdceojnmaa.PFnExactEncPack Go.Proofs.Ytkocikdceojnmaa.Opn Go.Proofs.YtkocikdceojnmaaW.PrintWords Go.Proofs.YtkocikdceojnmaaW.PrintLast
def w36 : S36 → Prop := fun x => ((Lit.int .i64 x.f0).wf = true) ∧ (x.f1.size ≤ maxLen)
theorem o36 : Opens Try.prog 36 k36 w36 :=
  opens_iso (fun x : S36 => (x.f0, x.f1)) (fun a => ⟨a.1, a.2⟩) (fun _ => rfl) (opens_struct Try.underlying36 (by kernel_rfl) (opensF_cons rfl (by kernel_rfl) (opens_int Try.underlying3) rfl (opensF_one rfl (by kernel_rfl) (opens_string Try.underlying9))))
theorem arg0 : Opens Try.prog 3 (Kd.int .i64) (fun x => (Lit.int .i64 x).wf = true) := (opens_int Try.underlying3)
theorem arg1 : Opens Try.prog 3 (Kd.int .i64) (fun x => (Lit.int .i64 x).wf = true) := (opens_int Try.underlying3)
theorem arg2 : Opens Try.prog 22 (Kd.slice 36 k36) (fun x => x.length ≤ maxLen ∧ ∀ y ∈ x, w36 y) := (opens_slice Try.underlying22 (by kernel_rfl) o36)
theorem arg3 : Opens Try.prog 22 (Kd.slice 36 k36) (fun x => x.length ≤ maxLen ∧ ∀ y ∈ x, w36 y) := (opens_slice Try.underlying22 (by kernel_rfl) o36)
end Go.Proofs.Ytkocikdceojnmaa.AFnExactEncPack
