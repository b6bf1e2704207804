/- What the arguments of FnExactStatsTree read as. No condition. -/
import Derived.Test.YtnfamhegbfjggaaVFnExactStatsTree
import Derived.KernelRfl
import Derived.Test.YtnfamhegbfjggaaPFnExactStatsTreex0
namespace Go.Proofs.Ytnfamhegbfjggaa.AFnExactStatsTree
open Go.RowKit Go.Proofs.Ytnfamhegbfjggaa.PFnExactStatsTree Go.Proofs.Ytnfamhegbfjggaa.Opn Go.Proofs.YtnfamhegbfjggaaW.PrintWords Go.Proofs.YtnfamhegbfjggaaW.PrintLast
structure S79 where
  f0 : Int
  f1 : Int
  f2 : Int
def k79 : Kd S79 := Kd.iso (Kd.pair (Kd.int .i64) (Kd.pair (Kd.int .i64) (Kd.int .i64))) (fun x : S79 => (x.f0, x.f1, x.f2))
theorem k79_open {w : World} {x : S79} {cs : List Value} (h : k79.K w x cs) : cs = [.int .i64 x.f0, .int .i64 x.f1, .int .i64 x.f2] := by
  obtain ⟨_, _, rfl, rfl, ⟨_, _, rfl, rfl, rfl⟩⟩ := h
  exact rfl
def w79 : S79 → Prop := fun x => ((Lit.int .i64 x.f0).wf = true) ∧ ((Lit.int .i64 x.f1).wf = true) ∧ ((Lit.int .i64 x.f2).wf = true)
theorem o79 : Opens Try.prog 79 k79 w79 :=
  opens_iso (fun x : S79 => (x.f0, x.f1, x.f2)) (fun a => ⟨a.1, a.2.1, a.2.2⟩) (fun _ => rfl) (opens_struct Try.underlying79 (by kernel_rfl) (opensF_cons rfl (by kernel_rfl) (opens_int Try.underlying3) rfl (opensF_cons rfl (by kernel_rfl) (opens_int Try.underlying3) rfl (opensF_one rfl (by kernel_rfl) (opens_int Try.underlying3)))))
structure S81 where
  f0 : Int
  f1 : ByteArray
def k81 : Kd S81 := Kd.iso (Kd.pair (Kd.int .i64) Kd.string) (fun x : S81 => (x.f0, x.f1))
theorem k81_open {w : World} {x : S81} {cs : List Value} (h : k81.K w x cs) : cs = [.int .i64 x.f0, .string x.f1] := by
  obtain ⟨_, _, rfl, rfl, rfl⟩ := h
  exact rfl
def w81 : S81 → Prop := fun x => ((Lit.int .i64 x.f0).wf = true) ∧ (x.f1.size ≤ maxLen)
theorem o81 : Opens Try.prog 81 k81 w81 :=
  opens_iso (fun x : S81 => (x.f0, x.f1)) (fun a => ⟨a.1, a.2⟩) (fun _ => rfl) (opens_struct Try.underlying81 (by kernel_rfl) (opensF_cons rfl (by kernel_rfl) (opens_int Try.underlying3) rfl (opensF_one rfl (by kernel_rfl) (opens_string Try.underlying9))))
structure S83 where
  f0 : Int
  f1 : Bool
  f2 : S81
  f3 : S81
def k83 : Kd S83 := Kd.iso (Kd.pair (Kd.int .i64) (Kd.pair Kd.bool (Kd.pair k81 k81))) (fun x : S83 => (x.f0, x.f1, x.f2, x.f3))
theorem k83_open {w : World} {x : S83} {cs : List Value} (h : k83.K w x cs) : cs = [.int .i64 x.f0, .bool x.f1, .int .i64 x.f2.f0, .string x.f2.f1, .int .i64 x.f3.f0, .string x.f3.f1] := by
  obtain ⟨_, _, rfl, rfl, ⟨_, _, rfl, rfl, ⟨_, _, rfl, h_2, h_3⟩⟩⟩ := h
  obtain rfl := k81_open h_2
  obtain rfl := k81_open h_3
  exact rfl
def w83 : S83 → Prop := fun x => ((Lit.int .i64 x.f0).wf = true) ∧ (True) ∧ (w81 x.f2) ∧ (w81 x.f3)
theorem o83 : Opens Try.prog 83 k83 w83 :=
  opens_iso (fun x : S83 => (x.f0, x.f1, x.f2, x.f3)) (fun a => ⟨a.1, a.2.1, a.2.2.1, a.2.2.2⟩) (fun _ => rfl) (opens_struct Try.underlying83 (by kernel_rfl) (opensF_cons rfl (by kernel_rfl) (opens_int Try.underlying3) rfl (opensF_cons rfl (by kernel_rfl) (opens_bool Try.underlying4) rfl (opensF_cons rfl (by kernel_rfl) o81 rfl (opensF_one rfl (by kernel_rfl) o81)))))
theorem arg0 : Opens Try.prog 79 k79 (fun x => w79 x) := o79
theorem arg1 : Opens Try.prog 83 k83 (fun x => w83 x) := o83
end Go.Proofs.Ytnfamhegbfjggaa.AFnExactStatsTree
