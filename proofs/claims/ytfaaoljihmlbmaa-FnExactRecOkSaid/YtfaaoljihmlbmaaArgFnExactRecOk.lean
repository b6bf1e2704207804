/- What the arguments of FnExactRecOk read as. No condition. -/
import Derived.Test.YtfaaoljihmlbmaaVFnExactRecOk
import Derived.KernelRfl
import Derived.Test.YtfaaoljihmlbmaaPFnExactRecOkx0
namespace Go.Proofs.Ytfaaoljihmlbmaa.AFnExactRecOk
open Go.RowKit Go.Proofs.Ytfaaoljihmlbmaa.PFnExactRecOk Go.Proofs.Ytfaaoljihmlbmaa.Opn Go.Proofs.YtfaaoljihmlbmaaW.PrintWords Go.Proofs.YtfaaoljihmlbmaaW.PrintLast
def w40 : S40 → Prop := fun x => (x.f0.size ≤ maxLen) ∧ ((Lit.int .i64 x.f1).wf = true) ∧ ((Lit.int .i64 x.f2).wf = true) ∧ ((Lit.int .i64 x.f3).wf = true)
theorem o40 : Opens Try.prog 40 k40 w40 :=
  opens_iso (fun x : S40 => (x.f0, x.f1, x.f2, x.f3)) (fun a => ⟨a.1, a.2.1, a.2.2.1, a.2.2.2⟩) (fun _ => rfl) (opens_struct Try.underlying40 (by kernel_rfl) (opensF_cons rfl (by kernel_rfl) (opens_string Try.underlying9) rfl (opensF_cons rfl (by kernel_rfl) (opens_int Try.underlying3) rfl (opensF_cons rfl (by kernel_rfl) (opens_int Try.underlying3) rfl (opensF_one rfl (by kernel_rfl) (opens_int Try.underlying3))))))
def w55 : S55 → Prop := fun x => ((Lit.int .i64 x.f0).wf = true) ∧ (x.f1.size ≤ maxLen)
theorem o55 : Opens Try.prog 55 k55 w55 :=
  opens_iso (fun x : S55 => (x.f0, x.f1)) (fun a => ⟨a.1, a.2⟩) (fun _ => rfl) (opens_struct Try.underlying55 (by kernel_rfl) (opensF_cons rfl (by kernel_rfl) (opens_int Try.underlying3) rfl (opensF_one rfl (by kernel_rfl) (opens_string Try.underlying9))))
structure S25 where
  f0 : List (S55)
def k25 : Kd S25 := Kd.iso (Kd.slice 55 k55) (fun x : S25 => x.f0)
theorem k25_open {w : World} {x : S25} {cs : List Value} (h : k25.K w x cs) : ∃ A0 c0, cs = [.slice A0 x.f0.length c0] ∧ x.f0.length ≤ c0 ∧ Kd.C k55 w A0 x.f0.length x.f0 := by
  obtain ⟨A0, c0, rfl, l0, r0⟩ := (show (Kd.slice 55 k55).K w x.f0 cs from h)
  exact ⟨A0, c0, rfl, l0, r0⟩
def w25 : S25 → Prop := fun x => (x.f0.length ≤ maxLen ∧ ∀ y ∈ x.f0, w55 y)
theorem o25 : Opens Try.prog 25 k25 w25 :=
  opens_iso (fun x : S25 => x.f0) (fun a => ⟨a⟩) (fun _ => rfl) (opens_struct Try.underlying25 (by kernel_rfl) (opensF_one rfl (by kernel_rfl) (opens_slice Try.underlying23 (by kernel_rfl) o55)))
theorem arg0 : Opens Try.prog 22 (Kd.slice 40 k40) (fun x => x.length ≤ maxLen ∧ ∀ y ∈ x, w40 y) := (opens_slice Try.underlying22 (by kernel_rfl) o40)
theorem arg1 : Opens Try.prog 25 k25 (fun x => w25 x) := o25
end Go.Proofs.Ytfaaoljihmlbmaa.AFnExactRecOk
