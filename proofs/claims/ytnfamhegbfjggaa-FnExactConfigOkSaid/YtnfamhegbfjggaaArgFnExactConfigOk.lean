/- What the arguments of FnExactConfigOk read as. No condition. -/
import Derived.Test.YtnfamhegbfjggaaVFnExactConfigOk
import Derived.KernelRfl
import Derived.Test.YtnfamhegbfjggaaPFnExactConfigOkx0
namespace Go.Proofs.Ytnfamhegbfjggaa.AFnExactConfigOk
open Go.RowKit Go.Proofs.Ytnfamhegbfjggaa.PFnExactConfigOk Go.Proofs.Ytnfamhegbfjggaa.Opn Go.Proofs.YtnfamhegbfjggaaW.PrintWords Go.Proofs.YtnfamhegbfjggaaW.PrintLast
def w122 : S122 → Prop := fun x => (x.f0.size ≤ maxLen) ∧ ((Lit.int .i64 x.f1).wf = true) ∧ ((Lit.int .i64 x.f2).wf = true) ∧ ((Lit.int .i64 x.f3).wf = true)
theorem o122 : Opens Try.prog 122 k122 w122 :=
  opens_iso (fun x : S122 => (x.f0, x.f1, x.f2, x.f3)) (fun a => ⟨a.1, a.2.1, a.2.2.1, a.2.2.2⟩) (fun _ => rfl) (opens_struct Try.underlying122 (by kernel_rfl) (opensF_cons rfl (by kernel_rfl) (opens_string Try.underlying9) rfl (opensF_cons rfl (by kernel_rfl) (opens_int Try.underlying3) rfl (opensF_cons rfl (by kernel_rfl) (opens_int Try.underlying3) rfl (opensF_one rfl (by kernel_rfl) (opens_int Try.underlying3))))))
structure S57 where
  f0 : Int
  f1 : Bool
  f2 : Int
  f3 : Int
  f4 : Int
  f5 : List (Int)
def k57 : Kd S57 := Kd.iso (Kd.pair (Kd.int .i64) (Kd.pair Kd.bool (Kd.pair (Kd.int .i64) (Kd.pair (Kd.int .i64) (Kd.pair (Kd.int .i64) (Kd.slice 3 (Kd.int .i64))))))) (fun x : S57 => (x.f0, x.f1, x.f2, x.f3, x.f4, x.f5))
theorem k57_open {w : World} {x : S57} {cs : List Value} (h : k57.K w x cs) : ∃ A5 c5, cs = [.int .i64 x.f0, .bool x.f1, .int .i64 x.f2, .int .i64 x.f3, .int .i64 x.f4, .slice A5 x.f5.length c5] ∧ x.f5.length ≤ c5 ∧ Kd.C (Kd.int .i64) w A5 x.f5.length x.f5 := by
  obtain ⟨_, _, rfl, rfl, ⟨_, _, rfl, rfl, ⟨_, _, rfl, rfl, ⟨_, _, rfl, rfl, ⟨_, _, rfl, rfl, ⟨A5, c5, rfl, l5, r5⟩⟩⟩⟩⟩⟩ := h
  exact ⟨A5, c5, rfl, l5, r5⟩
def w57 : S57 → Prop := fun x => ((Lit.int .i64 x.f0).wf = true) ∧ (True) ∧ ((Lit.int .i64 x.f2).wf = true) ∧ ((Lit.int .i64 x.f3).wf = true) ∧ ((Lit.int .i64 x.f4).wf = true) ∧ (x.f5.length ≤ maxLen ∧ ∀ y ∈ x.f5, (Lit.int .i64 y).wf = true)
theorem o57 : Opens Try.prog 57 k57 w57 :=
  opens_iso (fun x : S57 => (x.f0, x.f1, x.f2, x.f3, x.f4, x.f5)) (fun a => ⟨a.1, a.2.1, a.2.2.1, a.2.2.2.1, a.2.2.2.2.1, a.2.2.2.2.2⟩) (fun _ => rfl) (opens_struct Try.underlying57 (by kernel_rfl) (opensF_cons rfl (by kernel_rfl) (opens_int Try.underlying3) rfl (opensF_cons rfl (by kernel_rfl) (opens_bool Try.underlying4) rfl (opensF_cons rfl (by kernel_rfl) (opens_int Try.underlying3) rfl (opensF_cons rfl (by kernel_rfl) (opens_int Try.underlying3) rfl (opensF_cons rfl (by kernel_rfl) (opens_int Try.underlying3) rfl (opensF_one rfl (by kernel_rfl) (opens_slice Try.underlying32 (by kernel_rfl) (opens_int Try.underlying3)))))))))
theorem arg0 : Opens Try.prog 39 (Kd.slice 122 k122) (fun x => x.length ≤ maxLen ∧ ∀ y ∈ x, w122 y) := (opens_slice Try.underlying39 (by kernel_rfl) o122)
theorem arg1 : Opens Try.prog 57 k57 (fun x => w57 x) := o57
end Go.Proofs.Ytnfamhegbfjggaa.AFnExactConfigOk
