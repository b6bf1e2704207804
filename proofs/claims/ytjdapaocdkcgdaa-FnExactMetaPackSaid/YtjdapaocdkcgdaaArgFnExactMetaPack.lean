/- What the arguments of FnExactMetaPack read as. No condition. -/
import Derived.Test.YtjdapaocdkcgdaaVFnExactMetaPack
import Derived.KernelRfl
import Derived.Test.YtjdapaocdkcgdaaPFnExactMetaPackx0
namespace Go.Proofs.Ytjdapaocdkcgdaa.AFnExactMetaPack
open Go.RowKit Go.Proofs.Ytjdapaocdkcgdaa.PFnExactMetaPack Go.Proofs.Ytjdapaocdkcgdaa.Opn Go.Proofs.YtjdapaocdkcgdaaW.PrintWords Go.Proofs.YtjdapaocdkcgdaaW.PrintLast
def w75 : S75 → Prop := fun x => (x.f0.size ≤ maxLen) ∧ ((Lit.int .i64 x.f1).wf = true) ∧ ((Lit.int .i64 x.f2).wf = true) ∧ ((Lit.int .i64 x.f3).wf = true)
theorem o75 : Opens Try.prog 75 k75 w75 :=
  opens_iso (fun x : S75 => (x.f0, x.f1, x.f2, x.f3)) (fun a => ⟨a.1, a.2.1, a.2.2.1, a.2.2.2⟩) (fun _ => rfl) (opens_struct Try.underlying75 (by kernel_rfl) (opensF_cons rfl (by kernel_rfl) (opens_string Try.underlying9) rfl (opensF_cons rfl (by kernel_rfl) (opens_int Try.underlying3) rfl (opensF_cons rfl (by kernel_rfl) (opens_int Try.underlying3) rfl (opensF_one rfl (by kernel_rfl) (opens_int Try.underlying3))))))
def w119 : S119 → Prop := fun x => ((Lit.int .i64 x.f0).wf = true) ∧ ((Lit.int .i64 x.f1).wf = true) ∧ ((Lit.int .i64 x.f2).wf = true) ∧ ((Lit.int .i64 x.f3).wf = true) ∧ ((Lit.int .i64 x.f4).wf = true) ∧ (x.f5.length ≤ maxLen ∧ ∀ y ∈ x.f5, (Lit.int .i64 y).wf = true)
theorem o119 : Opens Try.prog 119 k119 w119 :=
  opens_iso (fun x : S119 => (x.f0, x.f1, x.f2, x.f3, x.f4, x.f5)) (fun a => ⟨a.1, a.2.1, a.2.2.1, a.2.2.2.1, a.2.2.2.2.1, a.2.2.2.2.2⟩) (fun _ => rfl) (opens_struct Try.underlying119 (by kernel_rfl) (opensF_cons rfl (by kernel_rfl) (opens_int Try.underlying3) rfl (opensF_cons rfl (by kernel_rfl) (opens_int Try.underlying3) rfl (opensF_cons rfl (by kernel_rfl) (opens_int Try.underlying3) rfl (opensF_cons rfl (by kernel_rfl) (opens_int Try.underlying3) rfl (opensF_cons rfl (by kernel_rfl) (opens_int Try.underlying3) rfl (opensF_one rfl (by kernel_rfl) (opens_slice Try.underlying56 (by kernel_rfl) (opens_int Try.underlying3)))))))))
def w79 : S79 → Prop := fun x => ((Lit.int .i64 x.f0).wf = true) ∧ (x.f1.length ≤ maxLen ∧ ∀ y ∈ x.f1, w119 y)
theorem o79 : Opens Try.prog 79 k79 w79 :=
  opens_iso (fun x : S79 => (x.f0, x.f1)) (fun a => ⟨a.1, a.2⟩) (fun _ => rfl) (opens_struct Try.underlying79 (by kernel_rfl) (opensF_cons rfl (by kernel_rfl) (opens_int Try.underlying3) rfl (opensF_one rfl (by kernel_rfl) (opens_slice Try.underlying77 (by kernel_rfl) o119))))
structure S25 where
  f0 : List (S75)
  f1 : Int
  f2 : List (S79)
def k25 : Kd S25 := Kd.iso (Kd.pair (Kd.slice 75 k75) (Kd.pair (Kd.int .i64) (Kd.slice 79 k79))) (fun x : S25 => (x.f0, x.f1, x.f2))
theorem k25_open {w : World} {x : S25} {cs : List Value} (h : k25.K w x cs) : ∃ A0 c0, ∃ A2 c2, cs = [.slice A0 x.f0.length c0, .int .i64 x.f1, .slice A2 x.f2.length c2] ∧ x.f0.length ≤ c0 ∧ Kd.C k75 w A0 x.f0.length x.f0 ∧ x.f2.length ≤ c2 ∧ Kd.C k79 w A2 x.f2.length x.f2 := by
  obtain ⟨_, _, rfl, ⟨A0, c0, rfl, l0, r0⟩, ⟨_, _, rfl, rfl, ⟨A2, c2, rfl, l2, r2⟩⟩⟩ := h
  exact ⟨A0, c0, A2, c2, rfl, l0, r0, l2, r2⟩
def w25 : S25 → Prop := fun x => (x.f0.length ≤ maxLen ∧ ∀ y ∈ x.f0, w75 y) ∧ ((Lit.int .i64 x.f1).wf = true) ∧ (x.f2.length ≤ maxLen ∧ ∀ y ∈ x.f2, w79 y)
theorem o25 : Opens Try.prog 25 k25 w25 :=
  opens_iso (fun x : S25 => (x.f0, x.f1, x.f2)) (fun a => ⟨a.1, a.2.1, a.2.2⟩) (fun _ => rfl) (opens_struct Try.underlying25 (by kernel_rfl) (opensF_cons rfl (by kernel_rfl) (opens_slice Try.underlying22 (by kernel_rfl) o75) rfl (opensF_cons rfl (by kernel_rfl) (opens_int Try.underlying3) rfl (opensF_one rfl (by kernel_rfl) (opens_slice Try.underlying23 (by kernel_rfl) o79)))))
theorem arg0 : Opens Try.prog 25 k25 (fun x => w25 x) := o25
end Go.Proofs.Ytjdapaocdkcgdaa.AFnExactMetaPack
