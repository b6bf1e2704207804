/- What the arguments of FnExactPredNot read as. No condition. -/
import Derived.Test.YtjbilohbkhogkaaOpen
import Derived.KernelRfl
import Derived.Test.YtjbilohbkhogkaaPFnExactPredNotx0
namespace Go.Proofs.Ytjbilohbkhogkaa.AFnExactPredNot
open Go.RowKit Go.Proofs.Ytjbilohbkhogkaa.PFnExactPredNot Go.Proofs.Ytjbilohbkhogkaa.Opn Go.Proofs.YtjbilohbkhogkaaW.PrintWords Go.Proofs.YtjbilohbkhogkaaW.PrintLast
def w103 : S103 → Prop := fun x => ((Lit.int .i64 x.f0).wf = true) ∧ (x.f1.size ≤ maxLen)
theorem o103 : Opens Try.prog 103 k103 w103 :=
  opens_iso (fun x : S103 => (x.f0, x.f1)) (fun a => ⟨a.1, a.2⟩) (fun _ => rfl) (opens_struct Try.underlying103 (by kernel_rfl) (opensF_cons rfl (by kernel_rfl) (opens_int Try.underlying3) rfl (opensF_one rfl (by kernel_rfl) (opens_string Try.underlying9))))
def w116 : S116 → Prop := fun x => ((Lit.int .i64 x.f0).wf = true) ∧ ((Lit.int .i64 x.f1).wf = true) ∧ (w103 x.f2) ∧ ((Lit.int .i64 x.f3).wf = true) ∧ ((Lit.int .i64 x.f4).wf = true)
theorem o116 : Opens Try.prog 116 k116 w116 :=
  opens_iso (fun x : S116 => (x.f0, x.f1, x.f2, x.f3, x.f4)) (fun a => ⟨a.1, a.2.1, a.2.2.1, a.2.2.2.1, a.2.2.2.2⟩) (fun _ => rfl) (opens_struct Try.underlying116 (by kernel_rfl) (opensF_cons rfl (by kernel_rfl) (opens_int Try.underlying3) rfl (opensF_cons rfl (by kernel_rfl) (opens_int Try.underlying3) rfl (opensF_cons rfl (by kernel_rfl) o103 rfl (opensF_cons rfl (by kernel_rfl) (opens_int Try.underlying3) rfl (opensF_one rfl (by kernel_rfl) (opens_int Try.underlying3)))))))
theorem arg0 : Opens Try.prog 77 (Kd.slice 116 k116) (fun x => x.length ≤ maxLen ∧ ∀ y ∈ x, w116 y) := (opens_slice Try.underlying77 (by kernel_rfl) o116)
end Go.Proofs.Ytjbilohbkhogkaa.AFnExactPredNot
