/- What the arguments of FnExactMetaOk read as. No condition. -/
import Derived.Test.YtnfamhegbfjggaaVFnExactMetaOk
import Derived.KernelRfl
import Derived.Test.YtnfamhegbfjggaaPFnExactMetaOkx0
namespace Go.Proofs.Ytnfamhegbfjggaa.AFnExactMetaOk
open Go.RowKit Go.Proofs.Ytnfamhegbfjggaa.PFnExactMetaOk Go.Proofs.Ytnfamhegbfjggaa.Opn Go.Proofs.YtnfamhegbfjggaaW.PrintWords Go.Proofs.YtnfamhegbfjggaaW.PrintLast
def w122 : S122 → Prop := fun x => (x.f0.size ≤ maxLen) ∧ ((Lit.int .i64 x.f1).wf = true) ∧ ((Lit.int .i64 x.f2).wf = true) ∧ ((Lit.int .i64 x.f3).wf = true)
theorem o122 : Opens Try.prog 122 k122 w122 :=
  opens_iso (fun x : S122 => (x.f0, x.f1, x.f2, x.f3)) (fun a => ⟨a.1, a.2.1, a.2.2.1, a.2.2.2⟩) (fun _ => rfl) (opens_struct Try.underlying122 (by kernel_rfl) (opensF_cons rfl (by kernel_rfl) (opens_string Try.underlying9) rfl (opensF_cons rfl (by kernel_rfl) (opens_int Try.underlying3) rfl (opensF_cons rfl (by kernel_rfl) (opens_int Try.underlying3) rfl (opensF_one rfl (by kernel_rfl) (opens_int Try.underlying3))))))
def w250 : S250 → Prop := fun x => ((Lit.int .i64 x.f0).wf = true) ∧ ((Lit.int .i64 x.f1).wf = true) ∧ ((Lit.int .i64 x.f2).wf = true) ∧ ((Lit.int .i64 x.f3).wf = true) ∧ ((Lit.int .i64 x.f4).wf = true) ∧ (x.f5.length ≤ maxLen ∧ ∀ y ∈ x.f5, (Lit.int .i64 y).wf = true)
theorem o250 : Opens Try.prog 250 k250 w250 :=
  opens_iso (fun x : S250 => (x.f0, x.f1, x.f2, x.f3, x.f4, x.f5)) (fun a => ⟨a.1, a.2.1, a.2.2.1, a.2.2.2.1, a.2.2.2.2.1, a.2.2.2.2.2⟩) (fun _ => rfl) (opens_struct Try.underlying250 (by kernel_rfl) (opensF_cons rfl (by kernel_rfl) (opens_int Try.underlying3) rfl (opensF_cons rfl (by kernel_rfl) (opens_int Try.underlying3) rfl (opensF_cons rfl (by kernel_rfl) (opens_int Try.underlying3) rfl (opensF_cons rfl (by kernel_rfl) (opens_int Try.underlying3) rfl (opensF_cons rfl (by kernel_rfl) (opens_int Try.underlying3) rfl (opensF_one rfl (by kernel_rfl) (opens_slice Try.underlying32 (by kernel_rfl) (opens_int Try.underlying3)))))))))
def w212 : S212 → Prop := fun x => ((Lit.int .i64 x.f0).wf = true) ∧ (x.f1.length ≤ maxLen ∧ ∀ y ∈ x.f1, w250 y)
theorem o212 : Opens Try.prog 212 k212 w212 :=
  opens_iso (fun x : S212 => (x.f0, x.f1)) (fun a => ⟨a.1, a.2⟩) (fun _ => rfl) (opens_struct Try.underlying212 (by kernel_rfl) (opensF_cons rfl (by kernel_rfl) (opens_int Try.underlying3) rfl (opensF_one rfl (by kernel_rfl) (opens_slice Try.underlying210 (by kernel_rfl) o250))))
structure S104 where
  f0 : List (S122)
  f1 : Int
  f2 : List (S212)
def k104 : Kd S104 := Kd.iso (Kd.pair (Kd.slice 122 k122) (Kd.pair (Kd.int .i64) (Kd.slice 212 k212))) (fun x : S104 => (x.f0, x.f1, x.f2))
theorem k104_open {w : World} {x : S104} {cs : List Value} (h : k104.K w x cs) : ∃ A0 c0, ∃ A2 c2, cs = [.slice A0 x.f0.length c0, .int .i64 x.f1, .slice A2 x.f2.length c2] ∧ x.f0.length ≤ c0 ∧ Kd.C k122 w A0 x.f0.length x.f0 ∧ x.f2.length ≤ c2 ∧ Kd.C k212 w A2 x.f2.length x.f2 := by
  obtain ⟨_, _, rfl, ⟨A0, c0, rfl, l0, r0⟩, ⟨_, _, rfl, rfl, ⟨A2, c2, rfl, l2, r2⟩⟩⟩ := h
  exact ⟨A0, c0, A2, c2, rfl, l0, r0, l2, r2⟩
def w104 : S104 → Prop := fun x => (x.f0.length ≤ maxLen ∧ ∀ y ∈ x.f0, w122 y) ∧ ((Lit.int .i64 x.f1).wf = true) ∧ (x.f2.length ≤ maxLen ∧ ∀ y ∈ x.f2, w212 y)
theorem o104 : Opens Try.prog 104 k104 w104 :=
  opens_iso (fun x : S104 => (x.f0, x.f1, x.f2)) (fun a => ⟨a.1, a.2.1, a.2.2⟩) (fun _ => rfl) (opens_struct Try.underlying104 (by kernel_rfl) (opensF_cons rfl (by kernel_rfl) (opens_slice Try.underlying39 (by kernel_rfl) o122) rfl (opensF_cons rfl (by kernel_rfl) (opens_int Try.underlying3) rfl (opensF_one rfl (by kernel_rfl) (opens_slice Try.underlying102 (by kernel_rfl) o212)))))
theorem arg0 : Opens Try.prog 104 k104 (fun x => w104 x) := o104
end Go.Proofs.Ytnfamhegbfjggaa.AFnExactMetaOk
