/- What the arguments of FnExactPredMay read as. No condition. -/
import Derived.Test.YtlioghbcomdghaaVFnExactPredMay
import Derived.KernelRfl
import Derived.Test.YtlioghbcomdghaaPFnExactPredMayx0
namespace Go.Proofs.Ytlioghbcomdghaa.AFnExactPredMay
open Go.RowKit Go.Proofs.Ytlioghbcomdghaa.PFnExactPredMay Go.Proofs.Ytlioghbcomdghaa.Opn Go.Proofs.YtlioghbcomdghaaW.PrintWords Go.Proofs.YtlioghbcomdghaaW.PrintLast
def w42 : S42 → Prop := fun x => (x.f0.size ≤ maxLen) ∧ ((Lit.int .i64 x.f1).wf = true) ∧ ((Lit.int .i64 x.f2).wf = true) ∧ ((Lit.int .i64 x.f3).wf = true)
theorem o42 : Opens Try.prog 42 k42 w42 :=
  opens_iso (fun x : S42 => (x.f0, x.f1, x.f2, x.f3)) (fun a => ⟨a.1, a.2.1, a.2.2.1, a.2.2.2⟩) (fun _ => rfl) (opens_struct Try.underlying42 (by kernel_rfl) (opensF_cons rfl (by kernel_rfl) (opens_string Try.underlying9) rfl (opensF_cons rfl (by kernel_rfl) (opens_int Try.underlying3) rfl (opensF_cons rfl (by kernel_rfl) (opens_int Try.underlying3) rfl (opensF_one rfl (by kernel_rfl) (opens_int Try.underlying3))))))
def w45 : S45 → Prop := fun x => ((Lit.int .i64 x.f0).wf = true) ∧ (x.f1.size ≤ maxLen)
theorem o45 : Opens Try.prog 45 k45 w45 :=
  opens_iso (fun x : S45 => (x.f0, x.f1)) (fun a => ⟨a.1, a.2⟩) (fun _ => rfl) (opens_struct Try.underlying45 (by kernel_rfl) (opensF_cons rfl (by kernel_rfl) (opens_int Try.underlying3) rfl (opensF_one rfl (by kernel_rfl) (opens_string Try.underlying9))))
def w47 : S47 → Prop := fun x => ((Lit.int .i64 x.f0).wf = true) ∧ ((Lit.int .i64 x.f1).wf = true) ∧ (w45 x.f2) ∧ ((Lit.int .i64 x.f3).wf = true) ∧ ((Lit.int .i64 x.f4).wf = true)
theorem o47 : Opens Try.prog 47 k47 w47 :=
  opens_iso (fun x : S47 => (x.f0, x.f1, x.f2, x.f3, x.f4)) (fun a => ⟨a.1, a.2.1, a.2.2.1, a.2.2.2.1, a.2.2.2.2⟩) (fun _ => rfl) (opens_struct Try.underlying47 (by kernel_rfl) (opensF_cons rfl (by kernel_rfl) (opens_int Try.underlying3) rfl (opensF_cons rfl (by kernel_rfl) (opens_int Try.underlying3) rfl (opensF_cons rfl (by kernel_rfl) o45 rfl (opensF_cons rfl (by kernel_rfl) (opens_int Try.underlying3) rfl (opensF_one rfl (by kernel_rfl) (opens_int Try.underlying3)))))))
def w50 : S50 → Prop := fun x => ((Lit.int .i64 x.f0).wf = true) ∧ (True) ∧ (w45 x.f2) ∧ (w45 x.f3)
theorem o50 : Opens Try.prog 50 k50 w50 :=
  opens_iso (fun x : S50 => (x.f0, x.f1, x.f2, x.f3)) (fun a => ⟨a.1, a.2.1, a.2.2.1, a.2.2.2⟩) (fun _ => rfl) (opens_struct Try.underlying50 (by kernel_rfl) (opensF_cons rfl (by kernel_rfl) (opens_int Try.underlying3) rfl (opensF_cons rfl (by kernel_rfl) (opens_bool Try.underlying4) rfl (opensF_cons rfl (by kernel_rfl) o45 rfl (opensF_one rfl (by kernel_rfl) o45)))))
def w52 : S52 → Prop := fun x => (True) ∧ (w50 x.f1)
theorem o52 : Opens Try.prog 52 k52 w52 :=
  opens_iso (fun x : S52 => (x.f0, x.f1)) (fun a => ⟨a.1, a.2⟩) (fun _ => rfl) (opens_struct Try.underlying52 (by kernel_rfl) (opensF_cons rfl (by kernel_rfl) (opens_bool Try.underlying4) rfl (opensF_one rfl (by kernel_rfl) o50)))
theorem arg0 : Opens Try.prog 22 (Kd.slice 42 k42) (fun x => x.length ≤ maxLen ∧ ∀ y ∈ x, w42 y) := (opens_slice Try.underlying22 (by kernel_rfl) o42)
theorem arg1 : Opens Try.prog 23 (Kd.slice 47 k47) (fun x => x.length ≤ maxLen ∧ ∀ y ∈ x, w47 y) := (opens_slice Try.underlying23 (by kernel_rfl) o47)
theorem arg2 : Opens Try.prog 24 (Kd.slice 52 k52) (fun x => x.length ≤ maxLen ∧ ∀ y ∈ x, w52 y) := (opens_slice Try.underlying24 (by kernel_rfl) o52)
end Go.Proofs.Ytlioghbcomdghaa.AFnExactPredMay
