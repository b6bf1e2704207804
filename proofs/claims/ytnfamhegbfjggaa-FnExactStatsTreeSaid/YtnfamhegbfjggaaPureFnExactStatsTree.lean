/- The pure statement of FnExactStatsTree: the printed functions answer as the law says, for all arguments. No condition. -/
import Derived.Test.YtnfamhegbfjggaaVFnExactStatsTree
import Derived.Test.YtnfamhegbfjggaaPFnExactStatsTreex
import Derived.Test.YtnfamhegbfjggaaArgFnExactStatsTree
namespace Go.Proofs.Ytnfamhegbfjggaa.Pure
open Go.RowKit Go.Proofs.Ytnfamhegbfjggaa.PFnExactStatsTree Go.Proofs.Ytnfamhegbfjggaa.Core Go.Proofs.YtnfamhegbfjggaaW.PrintWords Go.Proofs.YtnfamhegbfjggaaW.PrintLast Go.Proofs.YtnfamhegbfjggaaW.PrintMore Go.Proofs.YtnfamhegbfjggaaW.PrintMore2 Go.Proofs.Ytnfamhegbfjggaa.AFnExactStatsTree
set_option linter.unusedVariables false
set_option linter.unusedSimpArgs false
theorem szVal_some (x : S81) (hw : w81 x) (c : Int) (h0 : 0 ≤ c) (h1 : c ≤ 1048576) : ∃ r, laws_szVal.f x.f0 x.f1 c = some r ∧ r ≤ c := by
  have b0 : (x.f1.size : Int) ≤ 9223372036854775807 := by have := hw.2; unfold maxLen at this; omega
  unfold laws_szVal.f
  rw [wrap64_id (x := c - (x.f1.size : Int)) (by omega) (by omega)]
  by_cases n0 : c - (x.f1.size : Int) < 0
  · exact ⟨-1, by simp [n0], by omega⟩
  simp only [if_neg n0, Option.bind_some]
  exact ⟨_, rfl, by omega⟩
theorem eqNode_ev (a : S53) : laws_eqNode.f a.f0 a.f1 a.f2 a.f3 a.f4 a.f0 a.f1 a.f2 a.f3 a.f4 = some true := by
  unfold laws_eqNode.f
  simp
theorem eqNodeS_ev (l : List S53) (hl : l.length ≤ 9223372036854775806) : Ev (fun k => laws_eqNodeS.f k l l) true := by
  unfold laws_eqNodeS.f
  refine Ev.pos rfl ?_
  refine same_loop (fun k i => laws_eqNodeS.l0 k l l i) l.length (fun i r h hr => ?_) ?_
  · refine Ev.step (fun k => by rw [laws_eqNodeS.l0]) ?_
    refine Ev.pos (by omega) (Ev.pos (by omega) (Ev.pos (by omega) (Ev.here (eqNode_ev _) (Ev.pos rfl ?_))))
    rw [wrap64_id (by omega) (by omega)]
    simpa using hr
  · exact Ev.step (fun k => by rw [laws_eqNodeS.l0]) (by exact Ev.neg (by omega) (Ev.now _))
theorem markText_l0_ev : ∀ (n : Nat) (c : Int) (out : ByteArray), 0 ≤ c → c < 10 ^ n → c ≤ 9223372036854775807 → out.size + n + 1 ≤ 1000 → ∃ t, Ev (fun k => laws_markText.l0 k c out) t := by
  intro n
  induction n with
  | zero =>
    intro c out h0 h1 hb hs
    obtain rfl : c = 0 := by simp at h1; omega
    exact ⟨_, Ev.step (fun k => by rw [laws_markText.l0]) (by exact Ev.neg (by omega) (Ev.pos (by omega) (Ev.now _)))⟩
  | succ n ih =>
    intro c out h0 h1 hb hs
    by_cases hc : c > 0
    · have h2 : c / 10 < 10 ^ n := by
        rw [Int.pow_succ] at h1
        exact Int.ediv_lt_of_lt_mul (by omega) h1
      obtain ⟨t, ht⟩ := ih (c / 10) (strOfNums [(wrap64 (48 + (Int.tmod c 10))) % 256] ++ out) (by omega) h2 (by omega) (by
        rw [ByteArray.size_append, strOfNums_size]; simp; omega)
      refine ⟨t, Ev.step (fun k => by rw [laws_markText.l0]) ?_⟩
      refine Ev.pos hc (Ev.here rfl (Ev.pos (by rw [strOfNums_size]; simp; omega) ?_))
      rw [Int.tdiv_eq_ediv_of_nonneg h0, wrap64_id (x := c / 10) (by omega) (by omega)]
      exact ht
    · obtain rfl : c = 0 := by omega
      exact ⟨_, Ev.step (fun k => by rw [laws_markText.l0]) (by exact Ev.neg (by omega) (Ev.pos (by omega) (Ev.now _)))⟩
theorem markText_ev (c : Int) (h : c ≤ 9223372036854775807) : ∃ t, Ev (fun k => laws_markText.f k c) t := by
  unfold laws_markText.f
  by_cases hc : c ≤ 0
  · exact ⟨_, Ev.pos hc (Ev.now _)⟩
  · obtain ⟨t, ht⟩ := markText_l0_ev 19 c (⟨#[]⟩ : ByteArray) (by omega) (by omega) h (by decide)
    exact ⟨t, Ev.neg hc ht⟩
noncomputable def mtxt (c : Int) : ByteArray := if h : c ≤ 9223372036854775807 then (markText_ev c h).choose else ByteArray.empty
theorem mtxt_ev {c : Int} (h : c ≤ 9223372036854775807) : Ev (fun k => laws_markText.f k c) (mtxt c) := by
  unfold mtxt
  rw [dif_pos h]
  exact (markText_ev c h).choose_spec
theorem markNodeS_ev (l : List S53) (c : Int) (hc : 0 ≤ c) (hl : c + 5 * l.length ≤ 9223372036854775806) : ∃ m ys, m = c + 5 * l.length ∧ Ev (fun k => laws_markNodeS.f k l c) (m, ys) ∧ Ev (fun k => laws_heldNodeS.f k ys c) m := by
  obtain ⟨m, ys, _, hm, h1, h2⟩ := marks_held 5 9223372036854775807 (by omega) (fun c (_ : S53) => (⟨c, c + 1, c + 1 + 1, mtxt (c + 1 + 1 + 1), c + 1 + 1 + 1 + 1⟩ : S53)) (fun k xs c i => laws_markNodeS.l0 k xs c i) (fun k xs c i => laws_heldNodeS.l0 k xs c i)
    (fun xs c i r h hb h0 hB hr => by
      refine Ev.step (fun k => by rw [laws_markNodeS.l0]) ?_
      refine Ev.pos (by omega) (Ev.pos (by omega) ?_)
      rw [wrap64_id (x := c + 1) (by omega) (by omega), wrap64_id (x := c + 1 + 1) (by omega) (by omega), wrap64_id (x := c + 1 + 1 + 1) (by omega) (by omega), wrap64_id (x := c + 1 + 1 + 1 + 1) (by omega) (by omega), wrap64_id (x := c + 1 + 1 + 1 + 1 + 1) (by omega) (by omega), wrap64_id (x := (i : Int) + 1) (by omega) (by omega)]
      refine Ev.here rfl ?_
      refine Ev.here rfl ?_
      refine Ev.here rfl ?_
      refine Ev.bind (mtxt_ev (by omega)) ?_
      refine Ev.here rfl ?_
      have e : c + 1 + 1 + 1 + 1 + 1 = c + 5 := by omega
      simpa [rd_T53, h, e] using hr)
    (fun xs c => Ev.step (fun k => by rw [laws_markNodeS.l0]) (by exact Ev.neg (by omega) (Ev.now _)))
    (fun xs c i r z h hb h0 hB hz hr => by
      have e : rd_T53 xs (i : Int) = xs[i] := getD_eq (by simpa using h)
      refine Ev.step (fun k => by rw [laws_heldNodeS.l0]) ?_
      refine Ev.pos (by omega) (Ev.pos (by omega) ?_)
      rw [wrap64_id (x := c + 1) (by omega) (by omega), wrap64_id (x := c + 1 + 1) (by omega) (by omega), wrap64_id (x := c + 1 + 1 + 1) (by omega) (by omega), wrap64_id (x := c + 1 + 1 + 1 + 1) (by omega) (by omega), wrap64_id (x := c + 1 + 1 + 1 + 1 + 1) (by omega) (by omega), wrap64_id (x := (i : Int) + 1) (by omega) (by omega)]
      refine Ev.pos (by rw [e, hz]) ?_
      refine Ev.pos (by rw [e, hz]) ?_
      refine Ev.pos (by rw [e, hz]) ?_
      refine Ev.bind (mtxt_ev (by omega)) (Ev.pos (by rw [e, hz]) ?_)
      refine Ev.pos (by rw [e, hz]) ?_
      have e : c + 1 + 1 + 1 + 1 + 1 = c + 5 := by omega
      simpa [e] using hr)
    (fun xs c => Ev.step (fun k => by rw [laws_heldNodeS.l0]) (by exact Ev.neg (by omega) (Ev.now _)))
    l c hc (by omega)
  exact ⟨m, ys, by omega, h1, h2⟩
def tOk (t : Int) : Bool := decide (t = 0 ∨ t = 1 ∨ t = 2 ∨ t = 5 ∨ t = 6)
theorem l5Type_some (t : Int) : spec_l5Type.f t = some (tOk t) := by
  unfold spec_l5Type.f
  (repeat' split) <;> simp_all [tOk]
theorem l1In_same (x lo hi : Int) : (if x ≥ lo then some (decide (x ≤ hi)) else some false) = some (decide (lo ≤ x ∧ x ≤ hi)) := by
  by_cases h : x ≥ lo
  · rw [if_pos h]; congr 1; simp; omega
  · rw [if_neg h]; congr 1; symm; simp; omega
theorem within_some (x lo hi : Int) : impl_within.f x lo hi = some (decide (lo ≤ x ∧ x ≤ hi)) := by unfold impl_within.f; exact l1In_same x lo hi
theorem typeOk_some (t : Int) : impl_TypeOk.f t = some (tOk t) := by
  unfold impl_TypeOk.f
  rw [within_some]
  simp only [Option.bind_some]
  by_cases h : 0 ≤ t ∧ t ≤ 2
  · rw [if_pos (by simpa using h)]
    have : t = 0 ∨ t = 1 ∨ t = 2 := by omega
    rcases this with rfl | rfl | rfl <;> rfl
  · rw [if_neg (by simpa using h)]
    by_cases h5 : t = 5
    · subst h5; rfl
    · rw [if_neg h5]
      by_cases h6 : t = 6
      · subst h6; rfl
      · have h0 : t ≠ 0 := by omega
        have h1 : t ≠ 1 := by omega
        have h2 : t ≠ 2 := by omega
        simp [tOk, h0, h1, h2, h5, h6]
def wideB (t : Int) : Int := if t = 1 then 4 else if t = 2 then 8 else if t = 5 then 8 else 0
theorem wideOf_some (t : Int) : impl_wideOf.f t = some (wideB t) := by unfold impl_wideOf.f wideB; (repeat' split) <;> rfl
def noText (s : ByteArray) : Bool := s.toList == ([] : List UInt8)
def vOk (t : Int) (v : S89) : Bool :=
  if t = 0 then decide (0 ≤ v.f0 ∧ v.f0 ≤ 1) && noText v.f1
  else if t = 1 then decide (-2147483648 ≤ v.f0 ∧ v.f0 ≤ 2147483647) && noText v.f1
  else if t = 2 ∨ t = 5 then noText v.f1
  else if t = 6 then decide (v.f0 = 0) && decide ((v.f1.size : Int) ≤ 40) else false
theorem l1In_some (x lo hi : Int) : spec_l1In.f x lo hi = some (decide (lo ≤ x ∧ x ≤ hi)) := by unfold spec_l1In.f; exact l1In_same x lo hi
theorem impl_ValOk_some (t : Int) (v : S89) : impl_ValOk.f t v.f0 v.f1 = some (vOk t v) := by
  unfold impl_ValOk.f impl_isInt32.f vOk noText
  simp only [within_some, Option.bind_some]
  by_cases h0 : t = 0
  · rw [if_pos h0, if_pos h0]; by_cases h : 0 ≤ v.f0 ∧ v.f0 ≤ 1 <;> simp [h]
  rw [if_neg h0, if_neg h0]
  by_cases h1 : t = 1
  · rw [if_pos h1, if_pos h1]; by_cases h : -2147483648 ≤ v.f0 ∧ v.f0 ≤ 2147483647 <;> simp [h]
  rw [if_neg h1, if_neg h1]
  by_cases h2 : t = 2
  · rw [if_pos h2, if_pos (show t = 2 ∨ t = 5 from .inl h2)]
  rw [if_neg h2]
  by_cases h5 : t = 5
  · rw [if_pos h5, if_pos (show t = 2 ∨ t = 5 from .inr h5)]
  rw [if_neg h5, if_neg (show ¬ (t = 2 ∨ t = 5) by omega)]
  by_cases h6 : t = 6
  · rw [if_pos h6, if_pos h6]; by_cases h : v.f0 = 0 <;> simp [h]
  · rw [if_neg h6, if_neg h6]
theorem spec_ValOk_ev (t : Int) (v : S89) : Ev (fun k => spec_ValOk.f k t v.f0 v.f1) (vOk t v) := by
  refine ⟨2, fun k hk => ?_⟩
  obtain ⟨m, rfl⟩ : ∃ m, k = m + 2 := ⟨k - 2, by omega⟩
  unfold spec_ValOk.f spec_l4Int.f vOk noText
  simp only [l1In_some, Option.bind_some, spec_ValOk.j0]
  by_cases h0 : t = 0
  · rw [if_pos h0, if_pos h0]; by_cases h : 0 ≤ v.f0 ∧ v.f0 ≤ 1 <;> simp [h]
  rw [if_neg h0, if_neg h0]
  by_cases h1 : t = 1
  · rw [if_pos h1, if_pos h1]; by_cases h : -2147483648 ≤ v.f0 ∧ v.f0 ≤ 2147483647 <;> simp [h]
  rw [if_neg h1, if_neg h1]
  by_cases h2 : t = 2
  · rw [if_pos (show t = 2 ∨ t = 5 from .inl h2)]; simp [h2]
  rw [if_neg h2]
  by_cases h5 : t = 5
  · rw [if_pos (show t = 2 ∨ t = 5 from .inr h5)]; simp [h5]
  rw [if_neg (show ¬ (t = 2 ∨ t = 5) by omega)]
  by_cases h6 : t = 6
  · rw [if_pos h6]; by_cases h : v.f0 = 0 <;> simp [h, h6]
  · rw [if_neg h6]; simp [h5, h6]
def vsOk (t : Int) (l : List S89) : Bool := decide ((l.length : Int) ≤ 2000) && tOk t && l.all (vOk t)
theorem impl_valsOk_ev (t : Int) (l : List S89) (hl : l.length ≤ 1048576) : Ev (fun k => impl_valsOk.f k t l) (vsOk t l) := by
  unfold impl_valsOk.f
  have key := all_loop (fun k i => impl_valsOk.l0 k t l l (l.length : Int) i) (fun i => vOk t (l.getD i z89)) l.length false (decide ((l.length : Int) ≤ 2000) && tOk t)
    (fun i r hi hp hr => by
      have e : rd_T89 l (i : Int) = l.getD i z89 := rfl
      refine Ev.step (fun k => by rw [impl_valsOk.l0]) ?_
      refine Ev.pos (by omega) (Ev.pos (by omega) (Ev.pos (by omega) (Ev.here (impl_ValOk_some t _) ?_)))
      rw [e, hp]
      refine Ev.pos rfl ?_
      rw [wrap64_id (by omega) (by omega)]
      simpa using hr)
    (fun i hi hp => by
      have e : rd_T89 l (i : Int) = l.getD i z89 := rfl
      refine Ev.step (fun k => by rw [impl_valsOk.l0]) ?_
      refine Ev.pos (by omega) (Ev.pos (by omega) (Ev.pos (by omega) (Ev.here (impl_ValOk_some t _) ?_)))
      rw [e, hp]
      exact Ev.neg (by decide) (Ev.now _))
    (by
      refine Ev.step (fun k => by rw [impl_valsOk.l0]) ?_
      refine Ev.neg (by omega) ?_
      by_cases h : (l.length : Int) ≤ 2000
      · refine Ev.pos h (Ev.here (typeOk_some t) (Ev.const ?_))
        simp [h]
      · refine Ev.neg h (Ev.const ?_)
        simp [h])
  refine Ev.cast key ?_
  rw [all_range]
  unfold vsOk
  cases l.all (vOk t) <;> simp
theorem spec_l6Vals_ev (t : Int) (l : List S89) (hl : l.length ≤ 1048576) : Ev (fun k => spec_l6Vals.f k t l) (vsOk t l) := by
  have bad : vsOk t l = false → Ev (fun k => spec_l6Vals.j0 k t l true) (vsOk t l) := fun h => by
    rw [h]
    exact Ev.step (fun k => by rw [spec_l6Vals.j0]) (by exact Ev.pos rfl (Ev.now _))
  unfold spec_l6Vals.f
  by_cases h : (l.length : Int) > 2000
  · exact Ev.pos h (bad (by simp [vsOk]; omega))
  refine Ev.neg h (Ev.here (l5Type_some t) ?_)
  cases ht : tOk t with
  | false => exact bad (by simp [vsOk, ht])
  | true =>
    refine Ev.step (fun k => by rw [spec_l6Vals.j0]) ?_
    refine Ev.neg (by decide) ?_
    have key := all_loop (fun k i => spec_l6Vals.l0 k t l i) (fun i => vOk t (l.getD i z89)) l.length false true
      (fun i r hi hp hr => by
        have e : rd_T89 l (i : Int) = l.getD i z89 := rfl
        refine Ev.step (fun k => by rw [spec_l6Vals.l0]) ?_
        refine Ev.pos (by omega) (Ev.pos (by omega) (Ev.bind (spec_ValOk_ev t _) ?_))
        rw [e, hp]
        refine Ev.pos rfl ?_
        rw [wrap64_id (by omega) (by omega)]
        simpa using hr)
      (fun i hi hp => by
        have e : rd_T89 l (i : Int) = l.getD i z89 := rfl
        refine Ev.step (fun k => by rw [spec_l6Vals.l0]) ?_
        refine Ev.pos (by omega) (Ev.pos (by omega) (Ev.bind (spec_ValOk_ev t _) ?_))
        rw [e, hp]
        exact Ev.neg (by decide) (Ev.now _))
      (by exact Ev.step (fun k => by rw [spec_l6Vals.l0]) (by exact Ev.neg (by omega) (Ev.now _)))
    refine Ev.cast key ?_
    rw [all_range]
    have h2 : (l.length : Int) ≤ 2000 := by omega
    cases ha : l.all (vOk t) <;> simp [vsOk, ht, ha, h2]
def lOk (a b c : Int) : Bool := tOk a && decide (0 ≤ b ∧ b ≤ c ∧ c ≤ 6)
theorem spec_LeafOk_some (a b c : Int) : spec_LeafOk.f a b c = some (lOk a b c) := by
  unfold spec_LeafOk.f lOk
  rw [l5Type_some]
  simp only [Option.bind_some, l1In_some]
  cases tOk a with
  | false => rfl
  | true =>
    rw [if_pos rfl]
    by_cases h : 0 ≤ b ∧ b ≤ 6
    · rw [if_pos (by simpa using h)]; congr 1; rw [Bool.true_and]; apply decide_eq_decide.2; constructor <;> intro h' <;> omega
    · rw [if_neg (by simpa using h)]; congr 1; symm; rw [Bool.true_and]; apply decide_eq_false; omega
theorem impl_LeafOk_some (a b c : Int) : impl_LeafOk.f a b c = some (lOk a b c) := by
  unfold impl_LeafOk.f lOk
  rw [typeOk_some]
  simp only [Option.bind_some, within_some]
  cases tOk a with
  | false => rfl
  | true =>
    rw [if_pos rfl]
    by_cases h : 0 ≤ c ∧ c ≤ 6
    · rw [if_pos (by simpa using h)]; congr 1; rw [Bool.true_and]; apply decide_eq_decide.2; constructor <;> intro h' <;> omega
    · rw [if_neg (by simpa using h)]; congr 1; symm; rw [Bool.true_and]; apply decide_eq_false; omega
def fk (x : Int) : Int := if x < 0 then Go.bits .xor .i64 x 9223372036854775807 else x
theorem spec_fk (x : Int) : spec_FloatKey.f x = some (fk x) := by unfold spec_FloatKey.f fk; split <;> rfl
theorem impl_fk (x : Int) : impl_FloatKey.f x = some (fk x) := by unfold impl_FloatKey.f fk; split <;> rfl
def vLess (t : Int) (a b : S89) : Bool := vOk t a && vOk t b && (if t = 5 then decide (fk a.f0 < fk b.f0) else if t = 6 then Op.bytesLess a.f1.toList b.f1.toList else decide (a.f0 < b.f0))
theorem toList_at (a : ByteArray) : a.toList.length = a.size := by rw [ByteArray.toList_eq]; rw [Array.length_toList]; rfl
theorem bt_at (a : ByteArray) (i : Nat) (h : i < a.size) : ∃ u : UInt8, a.toList.drop i = u :: a.toList.drop (i + 1) ∧ bt a (i : Int) = u.toNat := by
  have hl := toList_at a
  refine ⟨a.toList[i]'(by omega), List.drop_eq_getElem_cons (by omega), ?_⟩
  unfold bt
  have hd : a.data.size = a.size := rfl
  rw [dif_pos (by simp; omega)]
  simp only [ByteArray.toList_eq]
  simp
  rfl
theorem spec_less_text (a b : ByteArray) (ha : a.size ≤ 1000000) (hb : b.size ≤ 1000000) (n0 n1 : Int) : ∀ (d i : Nat), i ≤ a.size → i ≤ b.size → i + d = a.size → Ev (fun k => spec_ValLess.l0 k (i : Int) n0 a n1 b) (Op.bytesLess (a.toList.drop i) (b.toList.drop i)) := by
  have la := toList_at a
  have lb := toList_at b
  intro d
  induction d with
  | zero =>
    intro i h1 h2 hi
    refine Ev.step (fun k => by rw [spec_ValLess.l0]) ?_
    refine Ev.neg (by omega) ?_
    refine Ev.step (fun k => by rw [spec_ValLess.j2]) ?_
    refine Ev.neg (by decide) (Ev.const ?_)
    congr 1
    rw [show a.toList.drop i = [] from List.drop_eq_nil_of_le (by omega)]
    by_cases hb2 : i < b.size
    · obtain ⟨u, hu, _⟩ := bt_at b i hb2
      rw [hu]; simp [Op.bytesLess]; omega
    · rw [show b.toList.drop i = [] from List.drop_eq_nil_of_le (by omega)]; simp [Op.bytesLess]; omega
  | succ d ih =>
    intro i h1 h2 hi
    obtain ⟨u, hu, eu⟩ := bt_at a i (by omega)
    refine Ev.step (fun k => by rw [spec_ValLess.l0]) ?_
    refine Ev.pos (by omega) ?_
    refine Ev.step (fun k => by rw [spec_ValLess.j2]) ?_
    by_cases hb2 : i < b.size
    · obtain ⟨v, hv, ev⟩ := bt_at b i hb2
      refine Ev.pos (by simp; omega) (Ev.pos (by omega) (Ev.pos (by omega) (Ev.pos (by omega) ?_)))
      rw [eu, ev, hu, hv]
      by_cases he : u = v
      · subst he
        refine Ev.pos rfl ?_
        rw [wrap64_id (by omega) (by omega)]
        have := ih (i + 1) (by omega) (by omega) (by omega)
        have e2 : Op.bytesLess (u :: a.toList.drop (i + 1)) (u :: b.toList.drop (i + 1)) = Op.bytesLess (a.toList.drop (i + 1)) (b.toList.drop (i + 1)) := by simp [Op.bytesLess]
        rw [e2]
        simpa using this
      · have hn : ¬ ((u.toNat : Int) = (v.toNat : Int)) := fun h => he (UInt8.toNat_inj.1 (by exact_mod_cast h))
        refine Ev.neg hn (Ev.const ?_)
        congr 1
        have e2 : Op.bytesLess (u :: a.toList.drop (i + 1)) (v :: b.toList.drop (i + 1)) = decide (u < v) := by simp [Op.bytesLess, he]
        rw [e2]
        simp [UInt8.lt_iff_toNat_lt]
    · refine Ev.neg (by simp; omega) (Ev.const ?_)
      congr 1
      rw [show b.toList.drop i = [] from List.drop_eq_nil_of_le (by omega), hu]; simp [Op.bytesLess]; omega
theorem vOk_text {t : Int} {v : S89} (h : vOk t v = true) (h6 : t = 6) : v.f1.size ≤ 40 := by
  subst h6
  unfold vOk at h
  simp at h; omega
theorem spec_ValLess_ev (t : Int) (a b : S89) : Ev (fun k => spec_ValLess.f k t a.f0 a.f1 b.f0 b.f1) (vLess t a b) := by
  have bad : ∀ {x}, x = true → vLess t a b = false → Ev (fun k => spec_ValLess.j0 k t x a.f0 a.f1 b.f0 b.f1) (vLess t a b) := fun hx h => by
    rw [h, hx]; exact Ev.step (fun k => by rw [spec_ValLess.j0]) (by exact Ev.pos rfl (Ev.now _))
  unfold spec_ValLess.f
  refine Ev.bind (spec_ValOk_ev t a) ?_
  cases ha : vOk t a with
  | false => exact Ev.neg (by decide) (bad rfl (by simp [vLess, ha]))
  | true =>
    refine Ev.pos rfl (Ev.bind (spec_ValOk_ev t b) ?_)
    cases hb : vOk t b with
    | false => exact bad rfl (by simp [vLess, hb])
    | true =>
      refine Ev.step (fun k => by rw [spec_ValLess.j0]) ?_
      refine Ev.neg (by decide) ?_
      by_cases h5 : t = 5
      · refine Ev.pos h5 (Ev.here (spec_fk _) (Ev.here (spec_fk _) (Ev.const ?_)))
        unfold vLess; rw [ha, hb, if_pos h5]; rfl
      refine Ev.neg h5 ?_
      by_cases h6 : t = 6
      · refine Ev.pos h6 ?_
        have := spec_less_text a.f1 b.f1 (by have := vOk_text ha h6; omega) (by have := vOk_text hb h6; omega) a.f0 b.f0 a.f1.size 0 (by omega) (by omega) (by omega)
        refine Ev.cast this ?_
        unfold vLess; rw [ha, hb, if_neg h5, if_pos h6]; rfl
      · refine Ev.neg h6 (Ev.const ?_)
        unfold vLess; rw [ha, hb, if_neg h5, if_neg h6]; rfl
theorem impl_ValLess_ev (t : Int) (a b : S89) : Ev (fun k => impl_ValLess.f k t a.f0 a.f1 b.f0 b.f1) (vLess t a b) := by
  have bad : ∀ {x}, x = true → vLess t a b = false → Ev (fun k => impl_ValLess.j0 k t x a.f0 a.f1 b.f0 b.f1) (vLess t a b) := fun hx h => by
    rw [h, hx]; exact Ev.step (fun k => by rw [impl_ValLess.j0]) (by exact Ev.pos rfl (Ev.now _))
  unfold impl_ValLess.f
  refine Ev.here (impl_ValOk_some t a) ?_
  cases ha : vOk t a with
  | false => exact Ev.neg (by decide) (bad rfl (by simp [vLess, ha]))
  | true =>
    refine Ev.pos rfl (Ev.here (impl_ValOk_some t b) ?_)
    cases hb : vOk t b with
    | false => exact bad rfl (by simp [vLess, hb])
    | true =>
      refine Ev.step (fun k => by rw [impl_ValLess.j0]) ?_
      refine Ev.neg (by decide) ?_
      by_cases h5 : t = 5
      · refine Ev.pos h5 (Ev.here (impl_fk _) (Ev.here (impl_fk _) (Ev.const ?_)))
        unfold vLess; rw [ha, hb, if_pos h5]; rfl
      refine Ev.neg h5 ?_
      by_cases h6 : t = 6
      · refine Ev.pos h6 (Ev.const ?_)
        unfold vLess; rw [ha, hb, if_neg h5, if_pos h6]; rfl
      · refine Ev.neg h6 (Ev.const ?_)
        unfold vLess; rw [ha, hb, if_neg h5, if_neg h6]; rfl
theorem bv_ofInt_wrap (x : Int) : BitVec.ofInt 64 (wrap64 x) = BitVec.ofInt 64 x := by
  apply BitVec.eq_of_toNat_eq
  rw [BitVec.toNat_ofInt, BitVec.toNat_ofInt]
  congr 1
  unfold wrap64; omega
theorem or_wrap (a c : Nat) (ha : a < 2 ^ 64) (hc : c < 2 ^ 64) : Go.bits .or .i64 (wrap64 (a : Int)) (wrap64 (c : Int)) = wrap64 ((a ||| c : Nat) : Int) := by
  have e : Go.bits .or .i64 (wrap64 (a : Int)) (wrap64 (c : Int)) = IntKind.i64.wrap (((BitVec.ofInt 64 (wrap64 (a : Int)) ||| BitVec.ofInt 64 (wrap64 (c : Int))).toNat : Nat) : Int) := rfl
  rw [e, bv_ofInt_wrap, bv_ofInt_wrap, BitVec.ofInt_natCast, BitVec.ofInt_natCast, BitVec.toNat_or, BitVec.toNat_ofNat, BitVec.toNat_ofNat, Nat.mod_eq_of_lt ha, Nat.mod_eq_of_lt hc, IntKind.wrap_i64]
  unfold wrap64; omega
theorem or_digit (m a d : Nat) (ha : a < 2 ^ m) : a ||| d * 2 ^ m = a + d * 2 ^ m := by
  have := Nat.shiftLeft_add_eq_or_of_lt ha d
  rw [Nat.shiftLeft_eq] at this
  rw [Nat.or_comm, ← this, Nat.add_comm]
theorem emod_digit (x p : Int) (hp : 0 < p) : x % (p * 256) = x % p + (x / p) % 256 * p := by
  have h1 := Int.mul_ediv_add_emod x p
  have h2 := Int.mul_ediv_add_emod (x / p) 256
  have a0 := Int.emod_nonneg x (show p ≠ 0 by omega)
  have a1 := Int.emod_lt_of_pos x hp
  have b0 := Int.emod_nonneg (x / p) (show (256 : Int) ≠ 0 by omega)
  have b1 := Int.emod_lt_of_pos (x / p) (show (0 : Int) < 256 by omega)
  have e : x = (x % p + (x / p) % 256 * p) + (p * 256) * (x / p / 256) := by
    have e3 : p * (x / p) = p * (256 * (x / p / 256) + x / p % 256) := by rw [h2]
    rw [Int.mul_add] at e3
    have e4 : p * (256 * (x / p / 256)) = (p * 256) * (x / p / 256) := by rw [Int.mul_assoc]
    have e5 : p * (x / p % 256) = x / p % 256 * p := Int.mul_comm _ _
    omega
  have m0 : 0 ≤ (x / p) % 256 * p := Int.mul_nonneg b0 (by omega)
  have m1 : (x / p) % 256 * p ≤ 255 * p := Int.mul_le_mul_of_nonneg_right (by omega) (by omega)
  generalize hr : x % p + (x / p) % 256 * p = r at *
  conv => lhs; rw [e]
  rw [Int.add_mul_emod_self_left, Int.emod_eq_of_lt (by omega) (by omega)]
theorem bits_and_mask (x m : Int) (k : Nat) (hk : k ≤ 63) (hm : m = 2 ^ k - 1) : Go.bits .and .i64 x m = x % 2 ^ k := by
  have p0 : (0 : Int) < 2 ^ k := Int.pow_pos (by omega)
  have eP : (2 : Int) ^ k = ((2 ^ k : Nat) : Int) := by push_cast; rfl
  have h63 : 2 ^ k ≤ 2 ^ 63 := Nat.pow_le_pow_right (by omega) hk
  have n0 : 0 < 2 ^ k := Nat.pow_pos (by omega)
  have e : Go.bits .and .i64 x m = IntKind.i64.wrap ((((BitVec.ofInt 64 x) &&& (BitVec.ofInt 64 m)).toNat : Nat) : Int) := rfl
  rw [e, BitVec.toNat_and, BitVec.toNat_ofInt, BitVec.toNat_ofInt]
  have em : (m % ((2 ^ 64 : Nat) : Int)).toNat = 2 ^ k - 1 := by
    rw [hm, eP, Int.emod_eq_of_lt (by omega) (by omega)]; omega
  rw [em, Nat.and_two_pow_sub_one_eq_mod]
  have hlt : (x % ((2 ^ 64 : Nat) : Int)).toNat % 2 ^ k < 2 ^ k := Nat.mod_lt _ n0
  rw [wraps_i64 _ (by omega) (by omega), eP, Int.natCast_emod]
  rw [Int.toNat_of_nonneg (Int.emod_nonneg _ (by omega))]
  apply Int.emod_emod_of_dvd
  refine Int.natCast_dvd_natCast.2 (Nat.pow_dvd_pow 2 (by omega))
theorem u64_id {x : Int} (h0 : 0 ≤ x) (h1 : x < 18446744073709551616) : IntKind.u64.wrap x = x := by rw [IntKind.wrap_u64]; omega
theorem bits_and_mask_u (x m : Int) (k : Nat) (hk : k ≤ 63) (hm : m = 2 ^ k - 1) : Go.bits .and .u64 x m = x % 2 ^ k := by
  have p0 : (0 : Int) < 2 ^ k := Int.pow_pos (by omega)
  have eP : (2 : Int) ^ k = ((2 ^ k : Nat) : Int) := by push_cast; rfl
  have h63 : 2 ^ k ≤ 2 ^ 63 := Nat.pow_le_pow_right (by omega) hk
  have n0 : 0 < 2 ^ k := Nat.pow_pos (by omega)
  have e : Go.bits .and .u64 x m = IntKind.u64.wrap ((((BitVec.ofInt 64 x) &&& (BitVec.ofInt 64 m)).toNat : Nat) : Int) := rfl
  rw [e, BitVec.toNat_and, BitVec.toNat_ofInt, BitVec.toNat_ofInt]
  have em : (m % ((2 ^ 64 : Nat) : Int)).toNat = 2 ^ k - 1 := by
    rw [hm, eP, Int.emod_eq_of_lt (by omega) (by omega)]; omega
  rw [em, Nat.and_two_pow_sub_one_eq_mod]
  have hlt : (x % ((2 ^ 64 : Nat) : Int)).toNat % 2 ^ k < 2 ^ k := Nat.mod_lt _ n0
  rw [u64_id (by omega) (by omega), eP, Int.natCast_emod]
  rw [Int.toNat_of_nonneg (Int.emod_nonneg _ (by omega))]
  apply Int.emod_emod_of_dvd
  refine Int.natCast_dvd_natCast.2 (Nat.pow_dvd_pow 2 (by omega))
theorem or_u8_range (a b : Int) : 0 ≤ Go.bits .or .u8 a b ∧ Go.bits .or .u8 a b ≤ 255 := by
  have e : Go.bits .or .u8 a b = IntKind.u8.wrap (((BitVec.ofInt 8 a ||| BitVec.ofInt 8 b).toNat : Nat) : Int) := rfl
  rw [e, IntKind.wrap_u8]; omega
theorem or_u8_zero (a : Int) (h0 : 0 ≤ a) (h1 : a ≤ 255) : Go.bits .or .u8 a 0 = a := by
  have e : Go.bits .or .u8 a 0 = IntKind.u8.wrap (((BitVec.ofInt 8 a ||| BitVec.ofInt 8 0).toNat : Nat) : Int) := rfl
  have z : BitVec.ofInt 8 0 = 0#8 := rfl
  rw [e, z, BitVec.or_zero, BitVec.toNat_ofInt, IntKind.wrap_u8]; omega
theorem and_one (x : Int) : Go.bits .and .i64 x 1 = x % 2 := bits_and_mask x 1 1 (by omega) rfl
/-- Bit k of number i is put into its place. -/
def bput (l : List Int) (w i k : Nat) (out : List Int) : List Int :=
  out.set ((i * w + k) / 8) (Go.bits .or .u8 (rd out (((i * w + k) / 8 : Nat) : Int)) (shl .u8 ((shr .i64 (rd l (i : Int)) (k : Int)) % 2) (((i * w + k) % 8 : Nat) : Int)))
def brow (l : List Int) (w i : Nat) (out : List Int) : List Int := (List.range w).foldl (fun o k => bput l w i k o) out
def bitsR (l : List Int) (w : Nat) : List Int := (List.range l.length).foldl (fun o i => brow l w i o) (List.replicate ((l.length * w + 7) / 8) 0)
def BOk (n : Nat) (out : List Int) : Prop := out.length = n ∧ ∀ x ∈ out, 0 ≤ x ∧ x ≤ 255
theorem bput_ok {n : Nat} {l : List Int} {w i k : Nat} {out : List Int} (h : BOk n out) : BOk n (bput l w i k out) := by
  refine ⟨by simpa [bput] using h.1, fun x hx => ?_⟩
  unfold bput at hx
  rcases List.mem_or_eq_of_mem_set hx with h' | rfl
  · exact h.2 x h'
  · exact or_u8_range _ _
theorem brow_ok {n : Nat} {l : List Int} {w i : Nat} : ∀ (m : Nat) {out : List Int}, BOk n out → BOk n ((List.range m).foldl (fun o k => bput l w i k o) out) := by
  intro m
  induction m with
  | zero => intro out h; exact h
  | succ m ih => intro out h; rw [List.range_succ, List.foldl_append]; exact bput_ok (ih h)
theorem bput_skip {n : Nat} {l : List Int} {w i k : Nat} {out : List Int} (h : BOk n out) (hb : (shr .i64 (rd l (i : Int)) (k : Int)) % 2 = 0) (hi : (i * w + k) / 8 < n) : bput l w i k out = out := by
  unfold bput
  rw [hb]
  have e : shl .u8 0 (((i * w + k) % 8 : Nat) : Int) = 0 := by unfold shl; rw [Int.zero_mul, IntKind.wrap_u8]; rfl
  have hl : (i * w + k) / 8 < out.length := by rw [h.1]; exact hi
  have er : rd out (((i * w + k) / 8 : Nat) : Int) = out[(i * w + k) / 8] := rd_eq (by omega)
  have hm := h.2 _ (List.getElem_mem hl)
  rw [e, er, or_u8_zero _ hm.1 hm.2, List.set_getElem_self]
theorem bitsR_ok (l : List Int) (w : Nat) : BOk ((l.length * w + 7) / 8) (bitsR l w) := by
  unfold bitsR
  have : ∀ m, BOk ((l.length * w + 7) / 8) ((List.range m).foldl (fun o i => brow l w i o) (List.replicate ((l.length * w + 7) / 8) 0)) := by
    intro m
    induction m with
    | zero => exact ⟨by simp, fun x hx => by obtain rfl := List.eq_of_mem_replicate hx; omega⟩
    | succ m ih => rw [List.range_succ, List.foldl_append]; exact brow_ok w ih
  exact this _
theorem pos_facts (l : List Int) (hl : l.length ≤ 4000) (w : Nat) (hw : w ≤ 64) (i k : Nat) (hi : i < l.length) (hk : k < w) :
    (wrap64 ((i : Int) * (w : Int)) + (k : Int)) = ((i * w + k : Nat) : Int) ∧ i * w + k < l.length * w ∧ l.length * w ≤ 256000 := by
  have h1 : (i + 1) * w ≤ l.length * w := Nat.mul_le_mul_right _ hi
  rw [Nat.add_mul, Nat.one_mul] at h1
  have h2 : l.length * w ≤ 4000 * 64 := Nat.mul_le_mul hl hw
  have hc : ((i : Int) * (w : Int)) = ((i * w : Nat) : Int) := by push_cast; rfl
  rw [hc, wrap64_id (by omega) (by omega)]
  exact ⟨by push_cast; rfl, by omega, by omega⟩
theorem impl_packed_ev (l : List Int) (hl : l.length ≤ 4000) (w : Nat) (hw : w ≤ 64) : Ev (fun k => impl_packed.f k l (w : Int)) (bitsR l w) := by
  have h2 : l.length * w ≤ 4000 * 64 := Nat.mul_le_mul hl hw
  have hc : ((l.length : Int) * (w : Int)) = ((l.length * w : Nat) : Int) := by push_cast; rfl
  have hN : wrap64 (Int.tdiv (wrap64 (wrap64 ((l.length : Int) * (w : Int)) + 7)) 8) = (((l.length * w + 7) / 8 : Nat) : Int) := by
    rw [hc, wrap64_id (x := ((l.length * w : Nat) : Int)) (by omega) (by omega), wrap64_id (x := ((l.length * w : Nat) : Int) + 7) (by omega) (by omega), Int.tdiv_eq_ediv_of_nonneg (by omega), wrap64_id (by omega) (by omega)]
    omega
  unfold impl_packed.f
  rw [hN]
  refine Ev.pos (by omega) (Ev.pos (by omega) ?_)
  rw [Int.toNat_natCast]
  refine loop_inv (fun k out i => impl_packed.l0 k (w : Int) out l (l.length : Int) i) (fun i out => brow l w i out) l.length _ (fun _ out => BOk ((l.length * w + 7) / 8) out) _ ⟨by simp, fun x hx => by obtain rfl := List.eq_of_mem_replicate hx; omega⟩ (fun i out hi ho => brow_ok w ho) (fun i out hi ho hr => ?_) (fun out ho he => ?_)
  · refine Ev.step (fun k => by rw [impl_packed.l0]) ?_
    refine Ev.pos (by omega) (Ev.pos (by omega) (Ev.pos (by omega) ?_))
    refine loop_inv (fun n o k => impl_packed.l1 n (w : Int) o (i : Int) (rd l (i : Int)) l (l.length : Int) (i : Int) (w : Int) k) (fun k o => bput l w i k o) w _ (fun _ o => BOk ((l.length * w + 7) / 8) o) out ho (fun k o _ h => bput_ok h) (fun k o hk hok hr2 => ?_) (fun o hok he => ?_)
    · obtain ⟨p1, p2, p3⟩ := pos_facts l hl w hw i k hi hk
      refine Ev.step (fun k => by rw [impl_packed.l1]) ?_
      rw [wrap64_id (x := (k : Int) + 1) (by omega) (by omega), p1, and_one]
      have hr3 : Ev (fun n => impl_packed.l1 n (w : Int) (bput l w i k o) (i : Int) (rd l (i : Int)) l (l.length : Int) (i : Int) (w : Int) ((k : Int) + 1)) (bitsR l w) := by simpa using hr2
      rw [wrap64_id (x := ((i * w + k : Nat) : Int)) (by omega) (by omega), Int.tdiv_eq_ediv_of_nonneg (by omega), Int.tmod_eq_emod_of_nonneg (by omega)]
      have e1 : wrap64 (((i * w + k : Nat) : Int) / 8) = (((i * w + k) / 8 : Nat) : Int) := by rw [wrap64_id (by omega) (by omega)]; omega
      have e2 : ((i * w + k : Nat) : Int) % 8 = (((i * w + k) % 8 : Nat) : Int) := by omega
      have e3 : (shr .i64 (rd l (i : Int)) (k : Int)) % 2 % 256 = (shr .i64 (rd l (i : Int)) (k : Int)) % 2 := by omega
      rw [e1, e2, e3]
      have hlen := hok.1
      refine Ev.pos (by omega) (Ev.pos (by omega) (Ev.pos (by omega) (Ev.pos (by omega) (Ev.pos (by omega) ?_))))
      unfold bput at hr3
      rw [Int.toNat_natCast]
      exact hr3
    · refine Ev.step (fun k => by rw [impl_packed.l1]) ?_
      refine Ev.neg (by omega) ?_
      rw [wrap64_id (x := (i : Int) + 1) (by omega) (by omega), he]
      have : (List.range w).foldl (fun o k => bput l w i k o) out = brow l w i out := rfl
      rw [this]
      simpa using hr
  · refine Ev.step (fun k => by rw [impl_packed.l0]) ?_
    refine Ev.neg (by omega) (Ev.const ?_)
    rw [he]; rfl
theorem spec_BitsPack_ok (l : List Int) (hl : l.length ≤ 2000) (w : Nat) (hw : w ≤ 62) (hb : ∀ x ∈ l, 0 ≤ x ∧ shr .i64 x (w : Int) = 0) : Ev (fun k => spec_BitsPack.f k l (w : Int)) (bitsR l w, true) := by
  have h2 : l.length * w ≤ 2000 * 64 := Nat.mul_le_mul hl (by omega)
  have hc : ((l.length : Int) * (w : Int)) = ((l.length * w : Nat) : Int) := by push_cast; rfl
  have hN : spec_BitsSize.f (l.length : Int) (w : Int) = some (((l.length * w + 7) / 8 : Nat) : Int) := by
    unfold spec_BitsSize.f
    simp only [l1In_some, Option.bind_some]
    rw [decide_eq_true (show (0 : Int) ≤ (l.length : Int) ∧ (l.length : Int) ≤ 2000 by omega), decide_eq_true (show (0 : Int) ≤ (w : Int) ∧ (w : Int) ≤ 62 by omega), if_pos rfl, if_pos rfl]
    rw [hc, wrap64_id (x := ((l.length * w : Nat) : Int)) (by omega) (by omega), wrap64_id (x := ((l.length * w : Nat) : Int) + 7) (by omega) (by omega), Int.tdiv_eq_ediv_of_nonneg (by omega), wrap64_id (by omega) (by omega)]
    congr 1
  unfold spec_BitsPack.f
  refine Ev.here hN (Ev.neg (by omega) (Ev.pos (by omega) (Ev.pos (by omega) ?_)))
  rw [Int.toNat_natCast]
  refine loop_inv (fun k out i => spec_BitsPack.l0 k l (w : Int) out i) (fun i out => brow l w i out) l.length _ (fun _ out => BOk ((l.length * w + 7) / 8) out) _ ⟨by simp, fun x hx => by obtain rfl := List.eq_of_mem_replicate hx; omega⟩ (fun i out hi ho => brow_ok w ho) (fun i out hi ho hr => ?_) (fun out ho he => ?_)
  · refine Ev.step (fun k => by rw [spec_BitsPack.l0]) ?_
    have hbi : 0 ≤ rd l (i : Int) ∧ shr .i64 (rd l (i : Int)) (w : Int) = 0 := by rw [rd_eq (by simpa using hi)]; exact hb _ (List.getElem_mem _)
    refine Ev.pos (by omega) (Ev.pos (by omega) (Ev.neg (by omega) (Ev.pos (by omega) ?_)))
    refine Ev.step (fun k => by rw [spec_BitsPack.j1]) ?_
    refine Ev.neg (by rw [hbi.2]; decide) ?_
    refine loop_inv (fun n o k => spec_BitsPack.l1 n l (w : Int) o (i : Int) k) (fun k o => bput l w i k o) w _ (fun _ o => BOk ((l.length * w + 7) / 8) o) out ho (fun k o _ h => bput_ok h) (fun k o hk hok hr2 => ?_) (fun o hok he => ?_)
    · obtain ⟨p1, p2, p3⟩ := pos_facts l (by omega) w (by omega) i k hi hk
      refine Ev.step (fun k => by rw [spec_BitsPack.l1]) ?_
      refine Ev.pos (by omega) (Ev.pos (by omega) (Ev.pos (by omega) (Ev.pos (by omega) ?_)))
      rw [wrap64_id (x := (k : Int) + 1) (by omega) (by omega), p1, and_one]
      have hr3 : Ev (fun n => spec_BitsPack.l1 n l (w : Int) (bput l w i k o) (i : Int) ((k : Int) + 1)) (bitsR l w, true) := by simpa using hr2
      by_cases hb : (shr .i64 (rd l (i : Int)) (k : Int)) % 2 = 0
      · refine Ev.neg (by omega) ?_
        rw [bput_skip hok hb (by omega)] at hr3
        exact hr3
      · have hb1 : (shr .i64 (rd l (i : Int)) (k : Int)) % 2 = 1 := by omega
        rw [wrap64_id (x := ((i * w + k : Nat) : Int)) (by omega) (by omega), Int.tdiv_eq_ediv_of_nonneg (by omega), Int.tmod_eq_emod_of_nonneg (by omega)]
        have e1 : wrap64 (((i * w + k : Nat) : Int) / 8) = (((i * w + k) / 8 : Nat) : Int) := by rw [wrap64_id (by omega) (by omega)]; omega
        have e2 : ((i * w + k : Nat) : Int) % 8 = (((i * w + k) % 8 : Nat) : Int) := by omega
        rw [e1, e2]
        have hlen := hok.1
        refine Ev.pos hb1 (Ev.pos (by omega) (Ev.pos (by omega) (Ev.pos (by omega) ?_)))
        unfold bput at hr3
        rw [hb1] at hr3
        rw [Int.toNat_natCast]
        exact hr3
    · refine Ev.step (fun k => by rw [spec_BitsPack.l1]) ?_
      refine Ev.neg (by omega) ?_
      rw [wrap64_id (x := (i : Int) + 1) (by omega) (by omega), he]
      have : (List.range w).foldl (fun o k => bput l w i k o) out = brow l w i out := rfl
      rw [this]
      simpa using hr
  · refine Ev.step (fun k => by rw [spec_BitsPack.l0]) ?_
    refine Ev.neg (by omega) (Ev.const ?_)
    rw [he]; rfl
/-- The bytes of a number, the low ones first. -/
def wbytes (x : Int) (n : Nat) : List Int := (List.range n).map fun (k : Nat) => (shr .i64 x (8 * (k : Int))) % 256
theorem wbytes_length (x : Int) (n : Nat) : (wbytes x n).length = n := by simp [wbytes]
theorem spec_WordPut_ev (x : Int) (n : Nat) (hn : n ≤ 8) : Ev (fun k => spec_WordPut.f k x (n : Int)) (wbytes x n) := by
  unfold spec_WordPut.f
  refine append_loop (fun k s i => spec_WordPut.l0 k x (n : Int) s i) (fun (i : Nat) => (shr .i64 x (8 * (i : Int))) % 256) n _ (fun i s hi hl hr => ?_) ?_
  · refine Ev.step (fun k => by rw [spec_WordPut.l0]) ?_
    refine Ev.pos (by omega) (Ev.here (l1In_some _ _ _) (Ev.pos (by simp; omega) ?_))
    rw [wrap64_id (x := 8 * (i : Int)) (by omega) (by omega), wrap64_id (x := (i : Int) + 1) (by omega) (by omega)]
    refine Ev.pos (by omega) (Ev.pos (by omega) ?_)
    simpa using hr
  · exact Ev.step (fun k => by rw [spec_WordPut.l0]) (by exact Ev.neg (by omega) (Ev.now _))
theorem impl_WordPut_ev (x : Int) (n : Nat) (hn : n ≤ 8) : Ev (fun k => impl_WordPut.f k x (n : Int)) (wbytes x n) := by
  unfold impl_WordPut.f
  refine Ev.here (within_some _ _ _) ?_
  by_cases h0 : n = 0
  · subst h0
    exact Ev.neg (by simp) (Ev.now _)
  refine Ev.pos (by simp; omega) ?_
  refine append_loop (fun k s i => impl_WordPut.l0 k x s (n : Int) i) (fun (i : Nat) => (shr .i64 x (8 * (i : Int))) % 256) n _ (fun i s hi hl hr => ?_) ?_
  · refine Ev.step (fun k => by rw [impl_WordPut.l0]) ?_
    rw [wrap64_id (x := 8 * (i : Int)) (by omega) (by omega), wrap64_id (x := (i : Int) + 1) (by omega) (by omega)]
    refine Ev.pos (by omega) (Ev.pos (by omega) (Ev.pos (by omega) ?_))
    simpa using hr
  · exact Ev.step (fun k => by rw [impl_WordPut.l0]) (by exact Ev.neg (by omega) (Ev.now _))
theorem flat_snoc_ {α β : Type} (g : α → List β) (T : List α) (i : Nat) (h : i < T.length) : (T.take (i + 1)).flatMap g = (T.take i).flatMap g ++ g T[i] := by
  rw [List.take_succ_eq_append_getElem h, List.flatMap_append]; congr 1; simp
theorem flat_le_ {α β : Type} (g : α → List β) (c : Nat) (T : List α) (hc : ∀ x ∈ T, (g x).length ≤ c) : (T.flatMap g).length ≤ c * T.length := by
  induction T with
  | nil => simp
  | cons s T ih =>
    have h1 := ih (fun x hx => hc x (List.mem_cons_of_mem _ hx))
    have h2 := hc s (List.mem_cons_self)
    rw [List.flatMap_cons, List.length_append, List.length_cons, Nat.mul_add]
    omega
/-- A loop that appends some rows, one behind the other. -/
theorem flat_loop {α β γ : Type} (L : Nat → List β → Int → Option γ) (g : α → List β) (c : Nat) (T : List α) (hc : ∀ x ∈ T, (g x).length ≤ c) (r : γ) (s0 : List β)
    (hL : ∀ (i : Nat) (s : List β) (h : i < T.length), s.length ≤ s0.length + c * i → (g T[i]).length ≤ c → Ev (fun k => L k (s ++ g T[i]) (i + 1 : Nat)) r → Ev (fun k => L k s (i : Int)) r)
    (h : Ev (fun k => L k (s0 ++ T.flatMap g) (T.length : Int)) r) : Ev (fun k => L k s0 0) r := by
  have key : ∀ (d i : Nat), i + d = T.length → Ev (fun k => L k (s0 ++ (T.take i).flatMap g) (i : Int)) r := by
    intro d
    induction d with
    | zero =>
      intro i hi
      obtain rfl : i = T.length := by omega
      rw [List.take_length]; exact h
    | succ d ih =>
      intro i hi
      have h1 := ih (i + 1) (by omega)
      rw [flat_snoc_ g T i (by omega), ← List.append_assoc] at h1
      refine hL i _ (by omega) ?_ (hc _ (List.getElem_mem _)) h1
      have h2 := flat_le_ g c (T.take i) (fun s hs => hc s (List.mem_of_mem_take hs))
      rw [List.length_take] at h2
      have e : min i T.length = i := by omega
      rw [e] at h2
      rw [List.length_append]; omega
  have := key T.length 0 (by omega)
  simpa using this
def pbytes (t : Int) (v : S89) : List Int := if t = 6 then wbytes (v.f1.size : Int) 4 ++ bytesOf v.f1 else wbytes v.f0 (wideB t).toNat
def numsB (l : List S89) : List Int := l.map fun v => v.f0
def plainR (t : Int) (l : List S89) : List Int × Bool := if vsOk t l = true then (if t = 0 then (bitsR (numsB l) 1, true) else (l.flatMap (pbytes t), true)) else ([], false)
theorem pbytes_le (t : Int) (l : List S89) (h : vsOk t l = true) : ∀ v ∈ l, (pbytes t v).length ≤ 44 := by
  intro v hv
  simp only [vsOk, Bool.and_eq_true, decide_eq_true_eq] at h
  have h1 := List.all_eq_true.1 h.2 v hv
  unfold pbytes
  by_cases h6 : t = 6
  · rw [if_pos h6, List.length_append, wbytes_length, bytesOf_length]
    subst h6
    simp [vOk] at h1
    omega
  · rw [if_neg h6, wbytes_length]
    have : wideB t ≤ 8 := by unfold wideB; split <;> (try split) <;> (try split) <;> omega
    omega
theorem vsOk_type {t : Int} {l : List S89} (h : vsOk t l = true) : (t = 0 ∨ t = 1 ∨ t = 2 ∨ t = 5 ∨ t = 6) ∧ l.length ≤ 2000 := by
  simp only [vsOk, Bool.and_eq_true, decide_eq_true_eq, tOk] at h
  exact ⟨h.1.2, by omega⟩
theorem numsB_bits {l : List S89} (h : vsOk 0 l = true) : ∀ x ∈ numsB l, 0 ≤ x ∧ shr .i64 x ((1 : Nat) : Int) = 0 := by
  intro x hx
  obtain ⟨v, hv, rfl⟩ := List.mem_map.1 hx
  simp only [vsOk, Bool.and_eq_true, decide_eq_true_eq] at h
  have h1 := List.all_eq_true.1 h.2 v hv
  simp [vOk] at h1
  refine ⟨h1.1.1, ?_⟩
  have h2 : v.f0 = 0 ∨ v.f0 = 1 := by omega
  rcases h2 with h2 | h2 <;> rw [h2] <;> decide
theorem impl_numsOf_ev (l : List S89) (hl : l.length ≤ 1048576) : Ev (fun k => impl_numsOf.f k l) (numsB l) := by
  unfold impl_numsOf.f
  refine append_loop (fun k s i => impl_numsOf.l0 k s l (l.length : Int) i) (fun i => (rd_T89 l (i : Int)).f0) l.length _ (fun i s hi hls hr => ?_) ?_
  · refine Ev.step (fun k => by rw [impl_numsOf.l0]) ?_
    refine Ev.pos (by omega) (Ev.pos (by omega) (Ev.pos (by omega) (Ev.pos (by omega) ?_)))
    rw [wrap64_id (x := (i : Int) + 1) (by omega) (by omega)]
    simpa using hr
  · refine Ev.step (fun k => by rw [impl_numsOf.l0]) ?_
    refine Ev.neg (by omega) (Ev.const ?_)
    congr 1
    apply List.ext_getElem?
    intro j
    unfold numsB
    by_cases hj : j < l.length
    · have e : rd_T89 l (j : Int) = l[j] := getD_eq (by simpa using hj)
      simp [hj, e]
    · simp [hj]
theorem plainR_le (t : Int) (l : List S89) : (plainR t l).1.length ≤ 100000 := by
  unfold plainR
  by_cases h : vsOk t l = true
  · rw [if_pos h]
    obtain ⟨_, h2⟩ := vsOk_type h
    by_cases h0 : t = 0
    · rw [if_pos h0]
      have := (bitsR_ok (numsB l) 1).1
      have h3 : (numsB l).length = l.length := by simp [numsB]
      show (bitsR (numsB l) 1).length ≤ 100000
      rw [this, h3]; omega
    · rw [if_neg h0]
      have := flat_le_ (pbytes t) 44 l (pbytes_le t l h)
      show (l.flatMap (pbytes t)).length ≤ 100000
      omega
  · rw [if_neg h]; simp
theorem spec_PlainPack_ev (t : Int) (l : List S89) (hl : l.length ≤ 1048576) : Ev (fun k => spec_PlainPack.f k t l) (plainR t l) := by
  unfold spec_PlainPack.f
  refine Ev.here rfl (Ev.bind (spec_l6Vals_ev t l hl) ?_)
  rcases Bool.eq_false_or_eq_true (vsOk t l) with h | h
  case inr =>
    have h : ¬ vsOk t l = true := by rw [h]; decide
    rw [show plainR t l = ([], false) from if_neg h]
    exact Ev.neg h (Ev.now _)
  refine Ev.pos h ?_
  obtain ⟨ht, hl2⟩ := vsOk_type h
  have hle := pbytes_le t l h
  by_cases h0 : t = 0
  · subst h0
    rw [show plainR 0 l = (bitsR (numsB l) 1, true) from by unfold plainR; rw [if_pos h, if_pos rfl]]
    refine append_loop (fun k s i => spec_PlainPack.l0 k 0 l [] s i) (fun i => (rd_T89 l (i : Int)).f0) l.length _ (fun i s hi hls hr => ?_) ?_
    · refine Ev.step (fun k => by rw [spec_PlainPack.l0]) ?_
      refine Ev.pos (by omega) (Ev.pos (by omega) (Ev.pos rfl (Ev.pos (by omega) ?_)))
      rw [wrap64_id (x := (i : Int) + 1) (by omega) (by omega)]
      simpa using hr
    · have e : (List.range l.length).map (fun (i : Nat) => (rd_T89 l (i : Int)).f0) = numsB l := by
        apply List.ext_getElem?
        intro j
        unfold numsB
        by_cases hj : j < l.length
        · have e : rd_T89 l (j : Int) = l[j] := getD_eq (by simpa using hj)
          simp [hj, e]
        · simp [hj]
      rw [e]
      refine Ev.step (fun k => by rw [spec_PlainPack.l0]) ?_
      have hb := spec_BitsPack_ok (numsB l) (by simp [numsB]; exact hl2) 1 (by omega) (numsB_bits h)
      exact Ev.neg (by omega) (Ev.pos rfl (Ev.bind hb (Ev.now _)))
  · rw [show plainR t l = (l.flatMap (pbytes t), true) from by unfold plainR; rw [if_pos h, if_neg h0]]
    refine flat_loop (fun k s i => spec_PlainPack.l0 k t l s [] i) (pbytes t) 44 l hle _ [] (fun i s hi hs hsz hr => ?_) ?_
    · have e : rd_T89 l (i : Int) = l[i] := getD_eq (by simpa using hi)
      have hs2 : s.length ≤ 44 * 2000 := by simp at hs; omega
      refine Ev.step (fun k => by rw [spec_PlainPack.l0]) ?_
      rw [wrap64_id (x := (i : Int) + 1) (by omega) (by omega), e]
      refine Ev.pos (by omega) (Ev.pos (by omega) (Ev.neg h0 ?_))
      by_cases h1 : t = 1
      · have ep : pbytes t l[i] = wbytes (l[i]).f0 4 := by subst h1; rfl
        rw [ep] at hr hsz
        exact Ev.pos h1 (Ev.bind (spec_WordPut_ev _ 4 (by omega)) (Ev.pos (by omega) (by simpa using hr)))
      refine Ev.neg h1 ?_
      by_cases h6 : t = 6
      · have ep : pbytes t l[i] = wbytes ((l[i]).f1.size : Int) 4 ++ bytesOf (l[i]).f1 := by unfold pbytes; rw [if_pos h6]
        have hwl := wbytes_length ((l[i]).f1.size : Int) 4
        rw [ep] at hr hsz
        rw [List.length_append, bytesOf_length] at hsz
        rw [← List.append_assoc] at hr
        exact Ev.pos h6 (Ev.bind (spec_WordPut_ev _ 4 (by omega)) (Ev.pos (by omega) (Ev.here rfl (Ev.pos (by rw [List.length_append]; omega) (by simpa using hr)))))
      · have hw8 : wideB t = 8 := by unfold wideB; rw [if_neg h1]; split; rfl; rw [if_pos (by omega)]
        have ep : pbytes t l[i] = wbytes (l[i]).f0 8 := by unfold pbytes; rw [if_neg h6, hw8]; rfl
        rw [ep] at hr hsz
        exact Ev.neg h6 (Ev.bind (spec_WordPut_ev _ 8 (by omega)) (Ev.pos (by omega) (by simpa using hr)))
    · refine Ev.step (fun k => by rw [spec_PlainPack.l0]) ?_
      exact Ev.neg (by omega) (Ev.neg h0 (Ev.now _))
theorem impl_PlainPack_ev (t : Int) (l : List S89) (hl : l.length ≤ 1048576) : Ev (fun k => impl_PlainPack.f k t l) (plainR t l) := by
  unfold impl_PlainPack.f
  refine Ev.bind (impl_valsOk_ev t l hl) ?_
  rcases Bool.eq_false_or_eq_true (vsOk t l) with h | h
  case inr =>
    have h : ¬ vsOk t l = true := by rw [h]; decide
    rw [show plainR t l = ([], false) from if_neg h]
    exact Ev.neg h (Ev.now _)
  refine Ev.pos h ?_
  obtain ⟨ht, hl2⟩ := vsOk_type h
  have hle := pbytes_le t l h
  by_cases h0 : t = 0
  · subst h0
    rw [show plainR 0 l = (bitsR (numsB l) 1, true) from by unfold plainR; rw [if_pos h, if_pos rfl]]
    exact Ev.pos rfl (Ev.bind (impl_numsOf_ev l hl) (Ev.bind (impl_packed_ev (numsB l) (by simp [numsB]; omega) 1 (by omega)) (Ev.now _)))
  · rw [show plainR t l = (l.flatMap (pbytes t), true) from by unfold plainR; rw [if_pos h, if_neg h0]]
    refine Ev.neg h0 ?_
    refine flat_loop (fun k s i => impl_PlainPack.l0 k t s l (l.length : Int) i) (pbytes t) 44 l hle _ [] (fun i s hi hs hsz hr => ?_) ?_
    · have e : rd_T89 l (i : Int) = l[i] := getD_eq (by simpa using hi)
      have hs2 : s.length ≤ 44 * 2000 := by simp at hs; omega
      refine Ev.step (fun k => by rw [impl_PlainPack.l0]) ?_
      rw [wrap64_id (x := (i : Int) + 1) (by omega) (by omega), e]
      refine Ev.pos (by omega) (Ev.pos (by omega) (Ev.pos (by omega) ?_))
      by_cases h6 : t = 6
      · have ep : pbytes t l[i] = wbytes ((l[i]).f1.size : Int) 4 ++ bytesOf (l[i]).f1 := by unfold pbytes; rw [if_pos h6]
        have hwl := wbytes_length ((l[i]).f1.size : Int) 4
        rw [ep] at hr hsz
        rw [List.length_append, bytesOf_length] at hsz
        rw [← List.append_assoc] at hr
        exact Ev.pos h6 (Ev.bind (impl_WordPut_ev _ 4 (by omega)) (Ev.pos (by omega) (Ev.here rfl (Ev.pos (by rw [List.length_append]; omega) (by simpa using hr)))))
      · have ep : pbytes t l[i] = wbytes (l[i]).f0 (wideB t).toNat := by unfold pbytes; rw [if_neg h6]
        have hwr : 0 ≤ wideB t ∧ wideB t ≤ 8 := by unfold wideB; split <;> (try split) <;> (try split) <;> omega
        have hwn : wideB t = ((wideB t).toNat : Int) := by omega
        have hwl := wbytes_length (l[i]).f0 (wideB t).toNat
        rw [ep] at hr hsz
        refine Ev.neg h6 (Ev.here (wideOf_some t) ?_)
        rw [hwn]
        exact Ev.bind (impl_WordPut_ev _ _ (by omega)) (Ev.pos (by omega) (by simpa using hr))
    · refine Ev.step (fun k => by rw [impl_PlainPack.l0]) ?_
      exact Ev.neg (by omega) (Ev.now _)
theorem structNode_ev (id : Int) (c : Nat) (P : List (List S53)) (hn : P.length ≤ 1048576) (hc : ∀ x ∈ P, x.length ≤ c) (hcp : c * P.length ≤ 1000000000) :
    Ev (fun k => impl_structNode.f k id P) ([(⟨12, id, 0, (⟨#[]⟩ : ByteArray), (P.length : Int)⟩ : S53)] ++ P.flatMap _root_.id) := by
  unfold impl_structNode.f
  refine flat_loop (fun k s i => impl_structNode.l0 k s P (P.length : Int) i) _root_.id c P hc _ _ (fun i s hi hs hsz hr => ?_) ?_
  · have e : rd_L5 P (i : Int) = P[i] := getD_eq (by simpa using hi)
    have h1 : c * i ≤ c * P.length := Nat.mul_le_mul_left _ (by omega)
    refine Ev.step (fun k => by rw [impl_structNode.l0]) ?_
    rw [wrap64_id (x := (i : Int) + 1) (by omega) (by omega), e]
    simp only [_root_.id] at hr hsz
    have hs2 : s.length ≤ 1 + c * i := hs
    have hcc : P[i].length ≤ c * P.length := Nat.le_trans hsz (Nat.le_mul_of_pos_right _ (by omega))
    exact Ev.pos (by omega) (Ev.pos (by omega) (Ev.pos (by omega) (Ev.pos (by omega) (by simpa using hr))))
  · refine Ev.step (fun k => by rw [impl_structNode.l0]) ?_
    exact Ev.neg (by omega) (Ev.now _)
def stOk (a b c n : Int) (h : Bool) (lo hi : S89) : Bool := lOk a b c && (decide (0 ≤ n ∧ n ≤ 2000) && (if h = true then vOk a lo && (vOk a hi && !vLess a hi lo) else (lo.f0 == 0 && noText lo.f1) && (hi.f0 == 0 && noText hi.f1)))
theorem spec_l15Ok_ev (a b c n : Int) (h : Bool) (lo hi : S89) : Ev (fun k => spec_l15Ok.f k a b c n h lo.f0 lo.f1 hi.f0 hi.f1) (stOk a b c n h lo hi) := by
  have bad : stOk a b c n h lo hi = false → Ev (fun k => spec_l15Ok.j0 k true a b c n h lo.f0 lo.f1 hi.f0 hi.f1 0 (⟨#[]⟩ : ByteArray)) (stOk a b c n h lo hi) := fun e => by
    rw [e]; exact Ev.step (fun k => by rw [spec_l15Ok.j0]) (by exact Ev.pos rfl (Ev.now _))
  unfold spec_l15Ok.f
  refine Ev.here (spec_LeafOk_some a b c) ?_
  cases h1 : lOk a b c with
  | false => exact Ev.neg (by decide) (bad (by simp [stOk, h1]))
  | true =>
    refine Ev.pos rfl (Ev.here (l1In_some _ _ _) ?_)
    by_cases h2 : 0 ≤ n ∧ n ≤ 2000
    · rw [decide_eq_true h2]
      refine Ev.step (fun k => by rw [spec_l15Ok.j0]) (Ev.neg (by decide) ?_)
      cases h with
      | true =>
        refine Ev.pos rfl (Ev.bind (spec_ValOk_ev a lo) ?_)
        cases h3 : vOk a lo with
        | false => exact Ev.neg (by decide) (Ev.const (by simp [stOk, h3]))
        | true =>
          refine Ev.pos rfl (Ev.bind (spec_ValOk_ev a hi) ?_)
          cases h4 : vOk a hi with
          | false => exact Ev.neg (by decide) (Ev.const (by simp [stOk, h4]))
          | true => exact Ev.pos rfl (Ev.bind (spec_ValLess_ev a hi lo) (Ev.const (by simp [stOk, h1, h2, h3, h4])))
      | false =>
        refine Ev.neg (by decide) ?_
        have e : ∀ s : ByteArray, (s.toList == (⟨#[]⟩ : ByteArray).toList) = noText s := fun s => by unfold noText; simp
        simp only [e]
        cases h3 : (lo.f0 == 0 && noText lo.f1) with
        | false => exact Ev.neg (by decide) (Ev.const (by simp [stOk, h3]))
        | true => exact Ev.pos rfl (Ev.const (by simp only [stOk, h1, decide_eq_true h2, h3]; rfl))
    · rw [decide_eq_false h2]
      exact bad (by simp only [stOk, decide_eq_false h2]; simp)
theorem impl_statsOk_ev (a b c n : Int) (h : Bool) (lo hi : S89) : Ev (fun k => impl_statsOk.f k a b c n h lo.f0 lo.f1 hi.f0 hi.f1) (stOk a b c n h lo hi) := by
  have bad : stOk a b c n h lo hi = false → Ev (fun k => impl_statsOk.j0 k true a b c n h lo.f0 lo.f1 hi.f0 hi.f1) (stOk a b c n h lo hi) := fun e => by
    rw [e]; exact Ev.step (fun k => by rw [impl_statsOk.j0]) (by exact Ev.pos rfl (Ev.now _))
  unfold impl_statsOk.f
  refine Ev.here (impl_LeafOk_some a b c) ?_
  cases h1 : lOk a b c with
  | false => exact Ev.neg (by decide) (bad (by simp [stOk, h1]))
  | true =>
    refine Ev.pos rfl (Ev.here (within_some _ _ _) ?_)
    by_cases h2 : 0 ≤ n ∧ n ≤ 2000
    · rw [decide_eq_true h2]
      refine Ev.step (fun k => by rw [impl_statsOk.j0]) (Ev.neg (by decide) ?_)
      cases h with
      | true =>
        refine Ev.pos rfl (Ev.here (impl_ValOk_some a lo) ?_)
        cases h3 : vOk a lo with
        | false => exact Ev.neg (by decide) (Ev.const (by simp [stOk, h3]))
        | true =>
          refine Ev.pos rfl (Ev.here (impl_ValOk_some a hi) ?_)
          cases h4 : vOk a hi with
          | false => exact Ev.neg (by decide) (Ev.const (by simp [stOk, h4]))
          | true => exact Ev.pos rfl (Ev.bind (impl_ValLess_ev a hi lo) (Ev.const (by simp [stOk, h1, h2, h3, h4])))
      | false =>
        refine Ev.neg (by decide) ?_
        have e : ∀ s : ByteArray, (s.toList == ([] : List UInt8)) = noText s := fun s => rfl
        simp only [e]
        cases h3 : (lo.f0 == 0 && noText lo.f1) with
        | false => exact Ev.neg (by decide) (Ev.const (by simp [stOk, h3]))
        | true => exact Ev.pos rfl (Ev.const (by simp only [stOk, h1, decide_eq_true h2, h3]; rfl))
    · rw [decide_eq_false h2]
      exact bad (by simp only [stOk, decide_eq_false h2]; simp)
def textR (t : Int) (v : S89) : ByteArray := if t = 6 then v.f1 else strOfNums (plainR t [v]).1
theorem spec_l15Text_ev (t : Int) (v : S89) : Ev (fun k => spec_l15Text.f k t v.f0 v.f1) (textR t v) := by
  unfold spec_l15Text.f textR
  by_cases h : t = 6
  · rw [if_pos h]; exact Ev.pos h (Ev.now _)
  · rw [if_neg h]; exact Ev.neg h (Ev.bind (spec_PlainPack_ev t [v] (by simp)) (Ev.now _))
theorem impl_statText_ev (t : Int) (v : S89) : Ev (fun k => impl_statText.f k t v.f0 v.f1) (textR t v) := by
  unfold impl_statText.f textR
  by_cases h : t = 6
  · rw [if_pos h]; exact Ev.pos h (Ev.now _)
  · rw [if_neg h]; exact Ev.neg h (Ev.bind (impl_PlainPack_ev t [v] (by simp)) (Ev.now _))
def nodesR (id a n : Int) (h : Bool) (lo hi : S89) : List S53 :=
  if h = true then [⟨12, id, 0, (⟨#[]⟩ : ByteArray), 3⟩, ⟨6, 3, n, (⟨#[]⟩ : ByteArray), 0⟩, ⟨8, 5, 0, textR a hi, 0⟩, ⟨8, 6, 0, textR a lo, 0⟩] else [⟨12, id, 0, (⟨#[]⟩ : ByteArray), 1⟩, ⟨6, 3, n, (⟨#[]⟩ : ByteArray), 0⟩]
theorem nodesR_le (id a n : Int) (h : Bool) (lo hi : S89) : (nodesR id a n h lo hi).length ≤ 4 := by
  unfold nodesR; split <;> simp
theorem spec_l15Nodes_ev (id a b c n : Int) (h : Bool) (lo hi : S89) : Ev (fun k => spec_l15Nodes.f k a b c n h lo.f0 lo.f1 hi.f0 hi.f1 id) (nodesR id a n h lo hi) := by
  unfold spec_l15Nodes.f nodesR
  refine Ev.here rfl ?_
  cases h with
  | true => exact Ev.pos rfl (Ev.pos (by simp) (Ev.here rfl (Ev.bind (spec_l15Text_ev a hi) (Ev.bind (spec_l15Text_ev a lo) (Ev.here rfl (Ev.pos (by simp) (Ev.const rfl)))))))
  | false => exact Ev.neg (by decide) (Ev.now _)
theorem impl_statsNodes_ev (id a b c n : Int) (h : Bool) (lo hi : S89) : Ev (fun k => impl_statsNodes.f k id a b c n h lo.f0 lo.f1 hi.f0 hi.f1) (nodesR id a n h lo hi) := by
  unfold impl_statsNodes.f nodesR
  refine Ev.here rfl (Ev.here rfl ?_)
  cases h with
  | true =>
    have key := structNode_ev id 1 [[(⟨6, 3, n, (⟨#[]⟩ : ByteArray), 0⟩ : S53)], [⟨8, 5, 0, textR a hi, 0⟩], [⟨8, 6, 0, textR a lo, 0⟩]] (by simp) (by simp) (by simp)
    exact Ev.pos rfl (Ev.bind (impl_statText_ev a hi) (Ev.here rfl (Ev.bind (impl_statText_ev a lo) (Ev.here rfl (Ev.here rfl (Ev.pos (by simp) (Ev.bind key (Ev.now _))))))))
  | false =>
    have key := structNode_ev id 1 [[(⟨6, 3, n, (⟨#[]⟩ : ByteArray), 0⟩ : S53)]] (by simp) (by simp) (by simp)
    exact Ev.neg (by decide) (Ev.bind key (Ev.now _))
def statsTreeR (a b c n : Int) (h : Bool) (lo hi : S89) : List S53 × Bool := if stOk a b c n h lo hi = true then (nodesR 0 a n h lo hi, true) else ([], false)
theorem spec_StatsTree_ev (a b c n : Int) (h : Bool) (lo hi : S89) : Ev (fun k => spec_StatsTree.f k a b c n h lo.f0 lo.f1 hi.f0 hi.f1) (statsTreeR a b c n h lo hi) := by
  unfold spec_StatsTree.f statsTreeR
  refine Ev.bind (spec_l15Ok_ev a b c n h lo hi) ?_
  cases stOk a b c n h lo hi with
  | true => exact Ev.pos rfl (Ev.bind (spec_l15Nodes_ev 0 a b c n h lo hi) (Ev.now _))
  | false => exact Ev.neg (by decide) (Ev.now _)
theorem impl_StatsTree_ev (a b c n : Int) (h : Bool) (lo hi : S89) : Ev (fun k => impl_StatsTree.f k a b c n h lo.f0 lo.f1 hi.f0 hi.f1) (statsTreeR a b c n h lo hi) := by
  unfold impl_StatsTree.f statsTreeR
  refine Ev.bind (impl_statsOk_ev a b c n h lo hi) ?_
  cases stOk a b c n h lo hi with
  | true => exact Ev.pos rfl (Ev.bind (impl_statsNodes_ev 0 a b c n h lo hi) (Ev.now _))
  | false => exact Ev.neg (by decide) (Ev.now _)
theorem FnExactStatsTree : ∀ (x0 : S79) (x1 : S83), (w79 x0) → (w83 x1) → ∃ k, laws_FnExactStatsTree.f k x0.f0 x0.f1 x0.f2 x1.f0 x1.f1 x1.f2.f0 x1.f2.f1 x1.f3.f0 x1.f3.f1 = some true := by
  intro x y hx hy
  refine Ev.rounds ?_
  unfold laws_FnExactStatsTree.f
  obtain ⟨r1, s1, c1⟩ := szVal_some y.f2 hy.2.2.1 1048576 (by omega) (by omega)
  obtain ⟨r0, s0⟩ : ∃ r0, laws_szStats.f y.f0 y.f1 y.f2.f0 y.f2.f1 y.f3.f0 y.f3.f1 1048576 = some r0 := by
    unfold laws_szStats.f
    rw [s1]
    simp only [Option.bind_some]
    by_cases n1 : r1 < 0
    · exact ⟨-1, if_pos n1⟩
    · rw [if_neg n1]
      obtain ⟨r2, s2, c2⟩ := szVal_some y.f3 hy.2.2.2 r1 (by omega) (by omega)
      rw [s2]
      simp only [Option.bind_some]
      by_cases n2 : r2 < 0
      · exact ⟨-1, if_pos n2⟩
      · exact ⟨r2, if_neg n2⟩
  refine Ev.here s0 ?_
  by_cases n1 : r0 < 0
  · exact Ev.pos n1 (Ev.now _)
  refine Ev.neg n1 ?_
  have es := spec_StatsTree_ev x.f0 x.f1 x.f2 y.f0 y.f1 (⟨y.f2.f0, y.f2.f1⟩ : S89) ⟨y.f3.f0, y.f3.f1⟩
  have ei := impl_StatsTree_ev x.f0 x.f1 x.f2 y.f0 y.f1 (⟨y.f2.f0, y.f2.f1⟩ : S89) ⟨y.f3.f0, y.f3.f1⟩
  have hr : (statsTreeR x.f0 x.f1 x.f2 y.f0 y.f1 (⟨y.f2.f0, y.f2.f1⟩ : S89) ⟨y.f3.f0, y.f3.f1⟩).1.length ≤ 4 := by
    unfold statsTreeR; split
    · exact nodesR_le _ _ _ _ _ _
    · simp
  generalize statsTreeR x.f0 x.f1 x.f2 y.f0 y.f1 (⟨y.f2.f0, y.f2.f1⟩ : S89) ⟨y.f3.f0, y.f3.f1⟩ = r at es ei hr
  have q := eqNodeS_ev r.1 (by omega)
  obtain ⟨m1, y1, p1, k1, k2⟩ := markNodeS_ev r.1 1 (by omega) (by omega)
  have tl : laws_toLeaf.f x.f0 x.f1 x.f2 = some (x.f0, x.f1, x.f2) := rfl
  have ts : laws_toStats.f y.f0 y.f1 y.f2.f0 y.f2.f1 y.f3.f0 y.f3.f1 = some (y.f0, y.f1, y.f2.f0, y.f2.f1, y.f3.f0, y.f3.f1) := rfl
  refine Ev.here tl (Ev.here ts (Ev.bind es (Ev.here tl (Ev.here ts (Ev.bind ei (Ev.bind q (Ev.pos rfl ?_)))))))
  refine Ev.step (fun k => by rw [laws_FnExactStatsTree.j0]) ?_
  refine Ev.neg (by simp) (Ev.bind k1 (Ev.bind k2 (Ev.neg (by omega) (Ev.pos rfl (Ev.here tl (Ev.here ts (Ev.bind ei (Ev.bind q (Ev.pos rfl ?_)))))))))
  refine Ev.step (fun k => by rw [laws_FnExactStatsTree.j1]) ?_
  exact Ev.neg (by simp) (Ev.bind k2 (Ev.neg (by omega) (Ev.pos rfl (Ev.now _))))
end Go.Proofs.Ytnfamhegbfjggaa.Pure
