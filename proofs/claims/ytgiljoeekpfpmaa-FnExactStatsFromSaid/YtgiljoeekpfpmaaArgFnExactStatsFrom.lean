/- What the arguments of FnExactStatsFrom read as. No condition. -/
import Derived.Test.YtgiljoeekpfpmaaVFnExactStatsFrom
import Derived.KernelRfl
import Derived.Test.YtgiljoeekpfpmaaPFnExactStatsFromx0
namespace Go.Proofs.Ytgiljoeekpfpmaa.AFnExactStatsFrom
open Go.RowKit Go.Proofs.Ytgiljoeekpfpmaa.PFnExactStatsFrom Go.Proofs.Ytgiljoeekpfpmaa.Opn Go.Proofs.YtgiljoeekpfpmaaW.PrintWords Go.Proofs.YtgiljoeekpfpmaaW.PrintLast
structure S23 where
  f0 : Int
  f1 : Int
  f2 : Int
def k23 : Kd S23 := Kd.iso (Kd.pair (Kd.int .i64) (Kd.pair (Kd.int .i64) (Kd.int .i64))) (fun x : S23 => (x.f0, x.f1, x.f2))
theorem k23_open {w : World} {x : S23} {cs : List Value} (h : k23.K w x cs) : cs = [.int .i64 x.f0, .int .i64 x.f1, .int .i64 x.f2] := by
  obtain ⟨_, _, rfl, rfl, ⟨_, _, rfl, rfl, rfl⟩⟩ := h
  exact rfl
def w23 : S23 → Prop := fun x => ((Lit.int .i64 x.f0).wf = true) ∧ ((Lit.int .i64 x.f1).wf = true) ∧ ((Lit.int .i64 x.f2).wf = true)
theorem o23 : Opens Try.prog 23 k23 w23 :=
  opens_iso (fun x : S23 => (x.f0, x.f1, x.f2)) (fun a => ⟨a.1, a.2.1, a.2.2⟩) (fun _ => rfl) (opens_struct Try.underlying23 (by kernel_rfl) (opensF_cons rfl (by kernel_rfl) (opens_int Try.underlying3) rfl (opensF_cons rfl (by kernel_rfl) (opens_int Try.underlying3) rfl (opensF_one rfl (by kernel_rfl) (opens_int Try.underlying3)))))
def w53 : S53 → Prop := fun x => ((Lit.int .i64 x.f0).wf = true) ∧ ((Lit.int .i64 x.f1).wf = true) ∧ ((Lit.int .i64 x.f2).wf = true) ∧ (x.f3.size ≤ maxLen) ∧ ((Lit.int .i64 x.f4).wf = true)
theorem o53 : Opens Try.prog 53 k53 w53 :=
  opens_iso (fun x : S53 => (x.f0, x.f1, x.f2, x.f3, x.f4)) (fun a => ⟨a.1, a.2.1, a.2.2.1, a.2.2.2.1, a.2.2.2.2⟩) (fun _ => rfl) (opens_struct Try.underlying53 (by kernel_rfl) (opensF_cons rfl (by kernel_rfl) (opens_int Try.underlying3) rfl (opensF_cons rfl (by kernel_rfl) (opens_int Try.underlying3) rfl (opensF_cons rfl (by kernel_rfl) (opens_int Try.underlying3) rfl (opensF_cons rfl (by kernel_rfl) (opens_string Try.underlying9) rfl (opensF_one rfl (by kernel_rfl) (opens_int Try.underlying3)))))))
theorem arg0 : Opens Try.prog 23 k23 (fun x => w23 x) := o23
theorem arg1 : Opens Try.prog 24 (Kd.slice 53 k53) (fun x => x.length ≤ maxLen ∧ ∀ y ∈ x, w53 y) := (opens_slice Try.underlying24 (by kernel_rfl) o53)
theorem arg2 : Opens Try.prog 3 (Kd.int .i64) (fun x => (Lit.int .i64 x).wf = true) := (opens_int Try.underlying3)
end Go.Proofs.Ytgiljoeekpfpmaa.AFnExactStatsFrom
