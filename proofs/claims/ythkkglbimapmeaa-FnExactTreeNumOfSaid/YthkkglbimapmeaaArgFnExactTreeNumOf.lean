/- What the arguments of FnExactTreeNumOf read as. No condition. -/
import Derived.Test.YthkkglbimapmeaaOpen
import Derived.KernelRfl
import Derived.Test.YthkkglbimapmeaaPFnExactTreeNumOfx0
namespace Go.Proofs.Ythkkglbimapmeaa.AFnExactTreeNumOf
open Go.RowKit Go.Proofs.Ythkkglbimapmeaa.PFnExactTreeNumOf Go.Proofs.Ythkkglbimapmeaa.Opn Go.Proofs.YthkkglbimapmeaaW.PrintWords Go.Proofs.YthkkglbimapmeaaW.PrintLast
def w70 : S70 → Prop := fun x => ((Lit.int .i64 x.f0).wf = true) ∧ ((Lit.int .i64 x.f1).wf = true) ∧ ((Lit.int .i64 x.f2).wf = true) ∧ (x.f3.size ≤ maxLen) ∧ ((Lit.int .i64 x.f4).wf = true)
theorem o70 : Opens Try.prog 70 k70 w70 :=
  opens_iso (fun x : S70 => (x.f0, x.f1, x.f2, x.f3, x.f4)) (fun a => ⟨a.1, a.2.1, a.2.2.1, a.2.2.2.1, a.2.2.2.2⟩) (fun _ => rfl) (opens_struct Try.underlying70 (by kernel_rfl) (opensF_cons rfl (by kernel_rfl) (opens_int Try.underlying3) rfl (opensF_cons rfl (by kernel_rfl) (opens_int Try.underlying3) rfl (opensF_cons rfl (by kernel_rfl) (opens_int Try.underlying3) rfl (opensF_cons rfl (by kernel_rfl) (opens_string Try.underlying9) rfl (opensF_one rfl (by kernel_rfl) (opens_int Try.underlying3)))))))
theorem arg0 : Opens Try.prog 41 (Kd.slice 70 k70) (fun x => x.length ≤ maxLen ∧ ∀ y ∈ x, w70 y) := (opens_slice Try.underlying41 (by kernel_rfl) o70)
theorem arg1 : Opens Try.prog 3 (Kd.int .i64) (fun x => (Lit.int .i64 x).wf = true) := (opens_int Try.underlying3)
theorem arg2 : Opens Try.prog 3 (Kd.int .i64) (fun x => (Lit.int .i64 x).wf = true) := (opens_int Try.underlying3)
end Go.Proofs.Ythkkglbimapmeaa.AFnExactTreeNumOf
