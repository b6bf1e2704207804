/- What the arguments of FnExactDictAt read as. No condition. -/
import Derived.Test.YtjbilohbkhogkaaOpen
import Derived.KernelRfl
import Derived.Test.YtjbilohbkhogkaaPFnExactDictAtx0
namespace Go.Proofs.Ytjbilohbkhogkaa.AFnExactDictAt
open Go.RowKit Go.Proofs.Ytjbilohbkhogkaa.PFnExactDictAt Go.Proofs.Ytjbilohbkhogkaa.Opn Go.Proofs.YtjbilohbkhogkaaW.PrintWords Go.Proofs.YtjbilohbkhogkaaW.PrintLast
def w103 : S103 → Prop := fun x => ((Lit.int .i64 x.f0).wf = true) ∧ (x.f1.size ≤ maxLen)
theorem o103 : Opens Try.prog 103 k103 w103 :=
  opens_iso (fun x : S103 => (x.f0, x.f1)) (fun a => ⟨a.1, a.2⟩) (fun _ => rfl) (opens_struct Try.underlying103 (by kernel_rfl) (opensF_cons rfl (by kernel_rfl) (opens_int Try.underlying3) rfl (opensF_one rfl (by kernel_rfl) (opens_string Try.underlying9))))
theorem arg0 : Opens Try.prog 48 (Kd.slice 103 k103) (fun x => x.length ≤ maxLen ∧ ∀ y ∈ x, w103 y) := (opens_slice Try.underlying48 (by kernel_rfl) o103)
theorem arg1 : Opens Try.prog 32 (Kd.slice 3 (Kd.int .i64)) (fun x => x.length ≤ maxLen ∧ ∀ y ∈ x, (Lit.int .i64 y).wf = true) := (opens_slice Try.underlying32 (by kernel_rfl) (opens_int Try.underlying3))
end Go.Proofs.Ytjbilohbkhogkaa.AFnExactDictAt
