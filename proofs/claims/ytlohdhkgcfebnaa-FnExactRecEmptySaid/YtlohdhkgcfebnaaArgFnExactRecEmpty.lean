/- What the arguments of FnExactRecEmpty read as. No condition. -/
import Derived.Test.YtlohdhkgcfebnaaOpen
import Derived.KernelRfl
import Derived.Test.YtlohdhkgcfebnaaPFnExactRecEmptyx0
namespace Go.Proofs.Ytlohdhkgcfebnaa.AFnExactRecEmpty
open Go.RowKit Go.Proofs.Ytlohdhkgcfebnaa.PFnExactRecEmpty Go.Proofs.Ytlohdhkgcfebnaa.Opn Go.Proofs.YtlohdhkgcfebnaaW.PrintWords Go.Proofs.YtlohdhkgcfebnaaW.PrintLast
def w169 : S169 → Prop := fun x => (x.f0.size ≤ maxLen) ∧ ((Lit.int .i64 x.f1).wf = true) ∧ ((Lit.int .i64 x.f2).wf = true) ∧ ((Lit.int .i64 x.f3).wf = true)
theorem o169 : Opens Try.prog 169 k169 w169 :=
  opens_iso (fun x : S169 => (x.f0, x.f1, x.f2, x.f3)) (fun a => ⟨a.1, a.2.1, a.2.2.1, a.2.2.2⟩) (fun _ => rfl) (opens_struct Try.underlying169 (by kernel_rfl) (opensF_cons rfl (by kernel_rfl) (opens_string Try.underlying9) rfl (opensF_cons rfl (by kernel_rfl) (opens_int Try.underlying3) rfl (opensF_cons rfl (by kernel_rfl) (opens_int Try.underlying3) rfl (opensF_one rfl (by kernel_rfl) (opens_int Try.underlying3))))))
theorem arg0 : Opens Try.prog 94 (Kd.slice 169 k169) (fun x => x.length ≤ maxLen ∧ ∀ y ∈ x, w169 y) := (opens_slice Try.underlying94 (by kernel_rfl) o169)
end Go.Proofs.Ytlohdhkgcfebnaa.AFnExactRecEmpty
