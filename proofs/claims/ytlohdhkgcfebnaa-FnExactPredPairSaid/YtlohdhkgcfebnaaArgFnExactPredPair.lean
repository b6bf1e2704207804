/- What the arguments of FnExactPredPair read as. No condition. -/
import Derived.Test.YtlohdhkgcfebnaaOpen
import Derived.KernelRfl
import Derived.Test.YtlohdhkgcfebnaaPFnExactPredPairx0
namespace Go.Proofs.Ytlohdhkgcfebnaa.AFnExactPredPair
open Go.RowKit Go.Proofs.Ytlohdhkgcfebnaa.PFnExactPredPair Go.Proofs.Ytlohdhkgcfebnaa.Opn Go.Proofs.YtlohdhkgcfebnaaW.PrintWords Go.Proofs.YtlohdhkgcfebnaaW.PrintLast
def w112 : S112 → Prop := fun x => ((Lit.int .i64 x.f0).wf = true) ∧ (x.f1.size ≤ maxLen)
theorem o112 : Opens Try.prog 112 k112 w112 :=
  opens_iso (fun x : S112 => (x.f0, x.f1)) (fun a => ⟨a.1, a.2⟩) (fun _ => rfl) (opens_struct Try.underlying112 (by kernel_rfl) (opensF_cons rfl (by kernel_rfl) (opens_int Try.underlying3) rfl (opensF_one rfl (by kernel_rfl) (opens_string Try.underlying9))))
def w114 : S114 → Prop := fun x => ((Lit.int .i64 x.f0).wf = true) ∧ ((Lit.int .i64 x.f1).wf = true) ∧ (w112 x.f2) ∧ ((Lit.int .i64 x.f3).wf = true) ∧ ((Lit.int .i64 x.f4).wf = true)
theorem o114 : Opens Try.prog 114 k114 w114 :=
  opens_iso (fun x : S114 => (x.f0, x.f1, x.f2, x.f3, x.f4)) (fun a => ⟨a.1, a.2.1, a.2.2.1, a.2.2.2.1, a.2.2.2.2⟩) (fun _ => rfl) (opens_struct Try.underlying114 (by kernel_rfl) (opensF_cons rfl (by kernel_rfl) (opens_int Try.underlying3) rfl (opensF_cons rfl (by kernel_rfl) (opens_int Try.underlying3) rfl (opensF_cons rfl (by kernel_rfl) o112 rfl (opensF_cons rfl (by kernel_rfl) (opens_int Try.underlying3) rfl (opensF_one rfl (by kernel_rfl) (opens_int Try.underlying3)))))))
theorem arg0 : Opens Try.prog 3 (Kd.int .i64) (fun x => (Lit.int .i64 x).wf = true) := (opens_int Try.underlying3)
theorem arg1 : Opens Try.prog 22 (Kd.slice 114 k114) (fun x => x.length ≤ maxLen ∧ ∀ y ∈ x, w114 y) := (opens_slice Try.underlying22 (by kernel_rfl) o114)
theorem arg2 : Opens Try.prog 22 (Kd.slice 114 k114) (fun x => x.length ≤ maxLen ∧ ∀ y ∈ x, w114 y) := (opens_slice Try.underlying22 (by kernel_rfl) o114)
end Go.Proofs.Ytlohdhkgcfebnaa.AFnExactPredPair
