/- What the arguments of FnExactRowsOf read as. No condition. -/
import Derived.Test.YtjbilohbkhogkaaOpen
import Derived.KernelRfl
import Derived.Test.YtjbilohbkhogkaaPFnExactRowsOfx0
namespace Go.Proofs.Ytjbilohbkhogkaa.AFnExactRowsOf
open Go.RowKit Go.Proofs.Ytjbilohbkhogkaa.PFnExactRowsOf Go.Proofs.Ytjbilohbkhogkaa.Opn Go.Proofs.YtjbilohbkhogkaaW.PrintWords Go.Proofs.YtjbilohbkhogkaaW.PrintLast
def w103 : S103 → Prop := fun x => ((Lit.int .i64 x.f0).wf = true) ∧ (x.f1.size ≤ maxLen)
theorem o103 : Opens Try.prog 103 k103 w103 :=
  opens_iso (fun x : S103 => (x.f0, x.f1)) (fun a => ⟨a.1, a.2⟩) (fun _ => rfl) (opens_struct Try.underlying103 (by kernel_rfl) (opensF_cons rfl (by kernel_rfl) (opens_int Try.underlying3) rfl (opensF_one rfl (by kernel_rfl) (opens_string Try.underlying9))))
def w105 : S105 → Prop := fun x => ((Lit.int .i64 x.f0).wf = true) ∧ ((Lit.int .i64 x.f1).wf = true) ∧ (w103 x.f2)
theorem o105 : Opens Try.prog 105 k105 w105 :=
  opens_iso (fun x : S105 => (x.f0, x.f1, x.f2)) (fun a => ⟨a.1, a.2.1, a.2.2⟩) (fun _ => rfl) (opens_struct Try.underlying105 (by kernel_rfl) (opensF_cons rfl (by kernel_rfl) (opens_int Try.underlying3) rfl (opensF_cons rfl (by kernel_rfl) (opens_int Try.underlying3) rfl (opensF_one rfl (by kernel_rfl) o103))))
theorem arg0 : Opens Try.prog 58 (Kd.slice 105 k105) (fun x => x.length ≤ maxLen ∧ ∀ y ∈ x, w105 y) := (opens_slice Try.underlying58 (by kernel_rfl) o105)
end Go.Proofs.Ytjbilohbkhogkaa.AFnExactRowsOf
