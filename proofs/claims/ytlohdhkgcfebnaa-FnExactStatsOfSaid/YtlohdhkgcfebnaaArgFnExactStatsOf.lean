/- What the arguments of FnExactStatsOf read as. No condition. -/
import Derived.Test.YtlohdhkgcfebnaaVFnExactStatsOf
import Derived.KernelRfl
import Derived.Test.YtlohdhkgcfebnaaPFnExactStatsOfx0
namespace Go.Proofs.Ytlohdhkgcfebnaa.AFnExactStatsOf
open Go.RowKit Go.Proofs.Ytlohdhkgcfebnaa.PFnExactStatsOf Go.Proofs.Ytlohdhkgcfebnaa.Opn Go.Proofs.YtlohdhkgcfebnaaW.PrintWords Go.Proofs.YtlohdhkgcfebnaaW.PrintLast
structure S81 where
  f0 : Int
  f1 : Int
  f2 : Int
def k81 : Kd S81 := Kd.iso (Kd.pair (Kd.int .i64) (Kd.pair (Kd.int .i64) (Kd.int .i64))) (fun x : S81 => (x.f0, x.f1, x.f2))
theorem k81_open {w : World} {x : S81} {cs : List Value} (h : k81.K w x cs) : cs = [.int .i64 x.f0, .int .i64 x.f1, .int .i64 x.f2] := by
  obtain ⟨_, _, rfl, rfl, ⟨_, _, rfl, rfl, rfl⟩⟩ := h
  exact rfl
def w81 : S81 → Prop := fun x => ((Lit.int .i64 x.f0).wf = true) ∧ ((Lit.int .i64 x.f1).wf = true) ∧ ((Lit.int .i64 x.f2).wf = true)
theorem o81 : Opens Try.prog 81 k81 w81 :=
  opens_iso (fun x : S81 => (x.f0, x.f1, x.f2)) (fun a => ⟨a.1, a.2.1, a.2.2⟩) (fun _ => rfl) (opens_struct Try.underlying81 (by kernel_rfl) (opensF_cons rfl (by kernel_rfl) (opens_int Try.underlying3) rfl (opensF_cons rfl (by kernel_rfl) (opens_int Try.underlying3) rfl (opensF_one rfl (by kernel_rfl) (opens_int Try.underlying3)))))
def w112 : S112 → Prop := fun x => ((Lit.int .i64 x.f0).wf = true) ∧ (x.f1.size ≤ maxLen)
theorem o112 : Opens Try.prog 112 k112 w112 :=
  opens_iso (fun x : S112 => (x.f0, x.f1)) (fun a => ⟨a.1, a.2⟩) (fun _ => rfl) (opens_struct Try.underlying112 (by kernel_rfl) (opensF_cons rfl (by kernel_rfl) (opens_int Try.underlying3) rfl (opensF_one rfl (by kernel_rfl) (opens_string Try.underlying9))))
def w124 : S124 → Prop := fun x => ((Lit.int .i64 x.f0).wf = true) ∧ ((Lit.int .i64 x.f1).wf = true) ∧ (w112 x.f2)
theorem o124 : Opens Try.prog 124 k124 w124 :=
  opens_iso (fun x : S124 => (x.f0, x.f1, x.f2)) (fun a => ⟨a.1, a.2.1, a.2.2⟩) (fun _ => rfl) (opens_struct Try.underlying124 (by kernel_rfl) (opensF_cons rfl (by kernel_rfl) (opens_int Try.underlying3) rfl (opensF_cons rfl (by kernel_rfl) (opens_int Try.underlying3) rfl (opensF_one rfl (by kernel_rfl) o112))))
theorem arg0 : Opens Try.prog 81 k81 (fun x => w81 x) := o81
theorem arg1 : Opens Try.prog 31 (Kd.slice 124 k124) (fun x => x.length ≤ maxLen ∧ ∀ y ∈ x, w124 y) := (opens_slice Try.underlying31 (by kernel_rfl) o124)
end Go.Proofs.Ytlohdhkgcfebnaa.AFnExactStatsOf
