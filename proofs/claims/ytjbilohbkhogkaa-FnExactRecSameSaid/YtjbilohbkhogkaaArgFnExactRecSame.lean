/- What the arguments of FnExactRecSame read as. No condition. -/
import Derived.Test.YtjbilohbkhogkaaOpen
import Derived.KernelRfl
import Derived.Test.YtjbilohbkhogkaaPFnExactRecSamex0
namespace Go.Proofs.Ytjbilohbkhogkaa.AFnExactRecSame
open Go.RowKit Go.Proofs.Ytjbilohbkhogkaa.PFnExactRecSame Go.Proofs.Ytjbilohbkhogkaa.Opn Go.Proofs.YtjbilohbkhogkaaW.PrintWords Go.Proofs.YtjbilohbkhogkaaW.PrintLast
def w103 : S103 → Prop := fun x => ((Lit.int .i64 x.f0).wf = true) ∧ (x.f1.size ≤ maxLen)
theorem o103 : Opens Try.prog 103 k103 w103 :=
  opens_iso (fun x : S103 => (x.f0, x.f1)) (fun a => ⟨a.1, a.2⟩) (fun _ => rfl) (opens_struct Try.underlying103 (by kernel_rfl) (opensF_cons rfl (by kernel_rfl) (opens_int Try.underlying3) rfl (opensF_one rfl (by kernel_rfl) (opens_string Try.underlying9))))
structure S50 where
  f0 : List (S103)
def k50 : Kd S50 := Kd.iso (Kd.slice 103 k103) (fun x : S50 => x.f0)
theorem k50_open {w : World} {x : S50} {cs : List Value} (h : k50.K w x cs) : ∃ A0 c0, cs = [.slice A0 x.f0.length c0] ∧ x.f0.length ≤ c0 ∧ Kd.C k103 w A0 x.f0.length x.f0 := by
  obtain ⟨A0, c0, rfl, l0, r0⟩ := (show (Kd.slice 103 k103).K w x.f0 cs from h)
  exact ⟨A0, c0, rfl, l0, r0⟩
def w50 : S50 → Prop := fun x => (x.f0.length ≤ maxLen ∧ ∀ y ∈ x.f0, w103 y)
theorem o50 : Opens Try.prog 50 k50 w50 :=
  opens_iso (fun x : S50 => x.f0) (fun a => ⟨a⟩) (fun _ => rfl) (opens_struct Try.underlying50 (by kernel_rfl) (opensF_one rfl (by kernel_rfl) (opens_slice Try.underlying48 (by kernel_rfl) o103)))
theorem arg0 : Opens Try.prog 50 k50 (fun x => w50 x) := o50
theorem arg1 : Opens Try.prog 50 k50 (fun x => w50 x) := o50
end Go.Proofs.Ytjbilohbkhogkaa.AFnExactRecSame
