/- What the arguments of FnExactRecPrint read as. No condition. -/
import Derived.Test.YtfaaoljihmlbmaaDoorOpen
import Derived.KernelRfl
import Derived.Test.YtfaaoljihmlbmaaDoorPFnExactRecPrintx0
namespace Go.Proofs.YtfaaoljihmlbmaaDoor.AFnExactRecPrint
open Go.RowKit Go.Proofs.YtfaaoljihmlbmaaDoor.PFnExactRecPrint Go.Proofs.YtfaaoljihmlbmaaDoor.Opn Go.Proofs.YtfaaoljihmlbmaaDoorW.PrintWords Go.Proofs.YtfaaoljihmlbmaaDoorW.PrintLast
def w45 : S45 → Prop := fun x => ((Lit.int .i64 x.f0).wf = true) ∧ (x.f1.size ≤ maxLen)
theorem o45 : Opens Tryd.prog 45 k45 w45 :=
  opens_iso (fun x : S45 => (x.f0, x.f1)) (fun a => ⟨a.1, a.2⟩) (fun _ => rfl) (opens_struct Tryd.underlying45 (by kernel_rfl) (opensF_cons rfl (by kernel_rfl) (opens_int Tryd.underlying3) rfl (opensF_one rfl (by kernel_rfl) (opens_string Tryd.underlying9))))
structure S24 where
  f0 : List (S45)
def k24 : Kd S24 := Kd.iso (Kd.slice 45 k45) (fun x : S24 => x.f0)
theorem k24_open {w : World} {x : S24} {cs : List Value} (h : k24.K w x cs) : ∃ A0 c0, cs = [.slice A0 x.f0.length c0] ∧ x.f0.length ≤ c0 ∧ Kd.C k45 w A0 x.f0.length x.f0 := by
  obtain ⟨A0, c0, rfl, l0, r0⟩ := (show (Kd.slice 45 k45).K w x.f0 cs from h)
  exact ⟨A0, c0, rfl, l0, r0⟩
def w24 : S24 → Prop := fun x => (x.f0.length ≤ maxLen ∧ ∀ y ∈ x.f0, w45 y)
theorem o24 : Opens Tryd.prog 24 k24 w24 :=
  opens_iso (fun x : S24 => x.f0) (fun a => ⟨a⟩) (fun _ => rfl) (opens_struct Tryd.underlying24 (by kernel_rfl) (opensF_one rfl (by kernel_rfl) (opens_slice Tryd.underlying22 (by kernel_rfl) o45)))
theorem arg0 : Opens Tryd.prog 24 k24 (fun x => w24 x) := o24
end Go.Proofs.YtfaaoljihmlbmaaDoor.AFnExactRecPrint
