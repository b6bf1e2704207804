/- The pure statement of FnExactStatsFrom: the printed functions answer as the law says, for all arguments. No condition. -/
import Derived.Test.YtgiljoeekpfpmaaVFnExactStatsFrom
import Derived.Test.YtgiljoeekpfpmaaPFnExactStatsFromx
import Derived.Test.YtgiljoeekpfpmaaArgFnExactStatsFrom
namespace Go.Proofs.Ytgiljoeekpfpmaa.Pure
open Go.RowKit Go.Proofs.Ytgiljoeekpfpmaa.PFnExactStatsFrom Go.Proofs.Ytgiljoeekpfpmaa.Core Go.Proofs.YtgiljoeekpfpmaaW.PrintWords Go.Proofs.YtgiljoeekpfpmaaW.PrintLast Go.Proofs.YtgiljoeekpfpmaaW.PrintMore Go.Proofs.YtgiljoeekpfpmaaW.PrintMore2 Go.Proofs.Ytgiljoeekpfpmaa.AFnExactStatsFrom
set_option linter.unusedVariables false
set_option linter.unusedSimpArgs false
def cvNode (x : S53) : S57 := ⟨x.f0, x.f1, x.f2, x.f3, x.f4⟩
theorem toNodeS_ev (l : List S53) (hl : l.length ≤ 1048576) : Ev (fun k => laws_toNodeS.f k l) (l.map cvNode) := by
  unfold laws_toNodeS.f
  refine Ev.pos (by omega) (Ev.pos (by omega) ?_)
  refine copy_loop (fun k out i => laws_toNodeS.l0 k l out i) l cvNode (fun out i r h ho hr => ?_) (fun out ho => ?_) (List.replicate ((l.length : Int)).toNat z57) (by simp)
  · refine Ev.step (fun k => by rw [laws_toNodeS.l0]) ?_
    refine Ev.pos (by omega) (Ev.pos (by omega) (Ev.here rfl (Ev.pos (by omega) ?_)))
    rw [wrap64_id (by omega) (by omega)]
    have e : rd_T53 l (i : Int) = l[i] := getD_eq (by simpa using h)
    simp only [e]
    simpa [cvNode] using hr
  · exact Ev.step (fun k => by rw [laws_toNodeS.l0]) (by exact Ev.neg (by omega) (Ev.now _))
theorem szNode_some (x : S53) (hw : w53 x) (c : Int) (h0 : 0 ≤ c) (h1 : c ≤ 1048576) : ∃ r, laws_szNode.f x.f0 x.f1 x.f2 x.f3 x.f4 c = some r ∧ r ≤ c := by
  have b0 : (x.f3.size : Int) ≤ 9223372036854775807 := by have := hw.2.2.2.1; unfold maxLen at this; omega
  unfold laws_szNode.f
  rw [wrap64_id (x := c - (x.f3.size : Int)) (by omega) (by omega)]
  by_cases n0 : c - (x.f3.size : Int) < 0
  · exact ⟨-1, by simp [n0], by omega⟩
  simp only [if_neg n0, Option.bind_some]
  exact ⟨_, rfl, by omega⟩
theorem szNodeS_ev (l : List S53) (hw : l.length ≤ maxLen) (ht : ∀ x ∈ l, w53 x) (c : Int) (h0 : 0 ≤ c) (h1 : c ≤ 1048576) : ∃ r, Ev (fun k => laws_szNodeS.f k l c) r ∧ r ≤ c ∧ (0 ≤ r → r + l.length ≤ c) := by
  have hm : l.length ≤ 9223372036854775807 := by unfold maxLen at hw; omega
  unfold laws_szNodeS.f
  rw [wrap64_id (by omega) (by omega)]
  by_cases hn : c - (l.length : Int) < 0
  · exact ⟨-1, Ev.pos hn (Ev.now _), by omega, by omega⟩
  · obtain ⟨r, hr, hrc⟩ := budget_loop (fun k c i => laws_szNodeS.l0 k l c i) l.length (fun c i hc0 hc1 hi => by
      have e : rd_T53 l (i : Int) = l[i] := getD_eq (by simpa using hi)
      obtain ⟨c', hc', hle⟩ := szNode_some l[i] (ht l[i] (List.getElem_mem hi)) c hc0 hc1
      refine ⟨c', hle, fun hneg => ?_, fun hpos r hr => ?_⟩
      · exact Ev.step (fun k => by rw [laws_szNodeS.l0]) (by exact Ev.pos (by omega) (Ev.pos (by omega) (Ev.here (by rw [e]; exact hc') (Ev.pos hneg (Ev.now _)))))
      · refine Ev.step (fun k => by rw [laws_szNodeS.l0]) ?_
        refine Ev.pos (by omega) (Ev.pos (by omega) (Ev.here (by rw [e]; exact hc') (Ev.neg (by omega) ?_)))
        rw [wrap64_id (by omega) (by omega)]
        simpa using hr)
      (fun c => Ev.step (fun k => by rw [laws_szNodeS.l0]) (by exact Ev.neg (by omega) (Ev.now _))) (c - l.length) (by omega) (by omega)
    exact ⟨r, Ev.neg hn hr, by omega, by omega⟩
theorem eqNode_ev (a : S57) : laws_eqNode.f a.f0 a.f1 a.f2 a.f3 a.f4 a.f0 a.f1 a.f2 a.f3 a.f4 = some true := by
  unfold laws_eqNode.f
  simp
theorem eqNodeS_ev (l : List S57) (hl : l.length ≤ 9223372036854775806) : Ev (fun k => laws_eqNodeS.f k l l) true := by
  unfold laws_eqNodeS.f
  refine Ev.pos rfl ?_
  refine same_loop (fun k i => laws_eqNodeS.l0 k l l i) l.length (fun i r h hr => ?_) ?_
  · refine Ev.step (fun k => by rw [laws_eqNodeS.l0]) ?_
    refine Ev.pos (by omega) (Ev.pos (by omega) (Ev.pos (by omega) (Ev.here (eqNode_ev _) (Ev.pos rfl ?_))))
    rw [wrap64_id (by omega) (by omega)]
    simpa using hr
  · exact Ev.step (fun k => by rw [laws_eqNodeS.l0]) (by exact Ev.neg (by omega) (Ev.now _))
def tOk (t : Int) : Bool := decide (t = 0 ∨ t = 1 ∨ t = 2 ∨ t = 5 ∨ t = 6)
theorem l5Type_some (t : Int) : spec_l5Type.f t = some (tOk t) := by
  unfold spec_l5Type.f
  (repeat' split) <;> simp_all [tOk]
theorem l1In_same (x lo hi : Int) : (if x ≥ lo then some (decide (x ≤ hi)) else some false) = some (decide (lo ≤ x ∧ x ≤ hi)) := by
  by_cases h : x ≥ lo
  · rw [if_pos h]; congr 1; simp; omega
  · rw [if_neg h]; congr 1; symm; simp; omega
theorem within_some (x lo hi : Int) : impl_within.f x lo hi = some (decide (lo ≤ x ∧ x ≤ hi)) := by unfold impl_within.f; exact l1In_same x lo hi
theorem typeOk_some (t : Int) : impl_TypeOk.f t = some (tOk t) := by
  unfold impl_TypeOk.f
  rw [within_some]
  simp only [Option.bind_some]
  by_cases h : 0 ≤ t ∧ t ≤ 2
  · rw [if_pos (by simpa using h)]
    have : t = 0 ∨ t = 1 ∨ t = 2 := by omega
    rcases this with rfl | rfl | rfl <;> rfl
  · rw [if_neg (by simpa using h)]
    by_cases h5 : t = 5
    · subst h5; rfl
    · rw [if_neg h5]
      by_cases h6 : t = 6
      · subst h6; rfl
      · have h0 : t ≠ 0 := by omega
        have h1 : t ≠ 1 := by omega
        have h2 : t ≠ 2 := by omega
        simp [tOk, h0, h1, h2, h5, h6]
def wideB (t : Int) : Int := if t = 1 then 4 else if t = 2 then 8 else if t = 5 then 8 else 0
theorem wideOf_some (t : Int) : impl_wideOf.f t = some (wideB t) := by unfold impl_wideOf.f wideB; (repeat' split) <;> rfl
def noText (s : ByteArray) : Bool := s.toList == ([] : List UInt8)
def vOk (t : Int) (v : S27) : Bool :=
  if t = 0 then decide (0 ≤ v.f0 ∧ v.f0 ≤ 1) && noText v.f1
  else if t = 1 then decide (-2147483648 ≤ v.f0 ∧ v.f0 ≤ 2147483647) && noText v.f1
  else if t = 2 ∨ t = 5 then noText v.f1
  else if t = 6 then decide (v.f0 = 0) && decide ((v.f1.size : Int) ≤ 40) else false
theorem l1In_some (x lo hi : Int) : spec_l1In.f x lo hi = some (decide (lo ≤ x ∧ x ≤ hi)) := by unfold spec_l1In.f; exact l1In_same x lo hi
theorem impl_ValOk_some (t : Int) (v : S27) : impl_ValOk.f t v.f0 v.f1 = some (vOk t v) := by
  unfold impl_ValOk.f impl_isInt32.f vOk noText
  simp only [within_some, Option.bind_some]
  by_cases h0 : t = 0
  · rw [if_pos h0, if_pos h0]; by_cases h : 0 ≤ v.f0 ∧ v.f0 ≤ 1 <;> simp [h]
  rw [if_neg h0, if_neg h0]
  by_cases h1 : t = 1
  · rw [if_pos h1, if_pos h1]; by_cases h : -2147483648 ≤ v.f0 ∧ v.f0 ≤ 2147483647 <;> simp [h]
  rw [if_neg h1, if_neg h1]
  by_cases h2 : t = 2
  · rw [if_pos h2, if_pos (show t = 2 ∨ t = 5 from .inl h2)]
  rw [if_neg h2]
  by_cases h5 : t = 5
  · rw [if_pos h5, if_pos (show t = 2 ∨ t = 5 from .inr h5)]
  rw [if_neg h5, if_neg (show ¬ (t = 2 ∨ t = 5) by omega)]
  by_cases h6 : t = 6
  · rw [if_pos h6, if_pos h6]; by_cases h : v.f0 = 0 <;> simp [h]
  · rw [if_neg h6, if_neg h6]
theorem spec_ValOk_ev (t : Int) (v : S27) : Ev (fun k => spec_ValOk.f k t v.f0 v.f1) (vOk t v) := by
  refine ⟨2, fun k hk => ?_⟩
  obtain ⟨m, rfl⟩ : ∃ m, k = m + 2 := ⟨k - 2, by omega⟩
  unfold spec_ValOk.f spec_l4Int.f vOk noText
  simp only [l1In_some, Option.bind_some, spec_ValOk.j0]
  by_cases h0 : t = 0
  · rw [if_pos h0, if_pos h0]; by_cases h : 0 ≤ v.f0 ∧ v.f0 ≤ 1 <;> simp [h]
  rw [if_neg h0, if_neg h0]
  by_cases h1 : t = 1
  · rw [if_pos h1, if_pos h1]; by_cases h : -2147483648 ≤ v.f0 ∧ v.f0 ≤ 2147483647 <;> simp [h]
  rw [if_neg h1, if_neg h1]
  by_cases h2 : t = 2
  · rw [if_pos (show t = 2 ∨ t = 5 from .inl h2)]; simp [h2]
  rw [if_neg h2]
  by_cases h5 : t = 5
  · rw [if_pos (show t = 2 ∨ t = 5 from .inr h5)]; simp [h5]
  rw [if_neg (show ¬ (t = 2 ∨ t = 5) by omega)]
  by_cases h6 : t = 6
  · rw [if_pos h6]; by_cases h : v.f0 = 0 <;> simp [h, h6]
  · rw [if_neg h6]; simp [h5, h6]
def vsOk (t : Int) (l : List S27) : Bool := decide ((l.length : Int) ≤ 2000) && tOk t && l.all (vOk t)
theorem impl_valsOk_ev (t : Int) (l : List S27) (hl : l.length ≤ 1048576) : Ev (fun k => impl_valsOk.f k t l) (vsOk t l) := by
  unfold impl_valsOk.f
  have key := all_loop (fun k i => impl_valsOk.l0 k t l l (l.length : Int) i) (fun i => vOk t (l.getD i z27)) l.length false (decide ((l.length : Int) ≤ 2000) && tOk t)
    (fun i r hi hp hr => by
      have e : rd_T27 l (i : Int) = l.getD i z27 := rfl
      refine Ev.step (fun k => by rw [impl_valsOk.l0]) ?_
      refine Ev.pos (by omega) (Ev.pos (by omega) (Ev.pos (by omega) (Ev.here (impl_ValOk_some t _) ?_)))
      rw [e, hp]
      refine Ev.pos rfl ?_
      rw [wrap64_id (by omega) (by omega)]
      simpa using hr)
    (fun i hi hp => by
      have e : rd_T27 l (i : Int) = l.getD i z27 := rfl
      refine Ev.step (fun k => by rw [impl_valsOk.l0]) ?_
      refine Ev.pos (by omega) (Ev.pos (by omega) (Ev.pos (by omega) (Ev.here (impl_ValOk_some t _) ?_)))
      rw [e, hp]
      exact Ev.neg (by decide) (Ev.now _))
    (by
      refine Ev.step (fun k => by rw [impl_valsOk.l0]) ?_
      refine Ev.neg (by omega) ?_
      by_cases h : (l.length : Int) ≤ 2000
      · refine Ev.pos h (Ev.here (typeOk_some t) (Ev.const ?_))
        simp [h]
      · refine Ev.neg h (Ev.const ?_)
        simp [h])
  refine Ev.cast key ?_
  rw [all_range]
  unfold vsOk
  cases l.all (vOk t) <;> simp
theorem spec_l6Vals_ev (t : Int) (l : List S27) (hl : l.length ≤ 1048576) : Ev (fun k => spec_l6Vals.f k t l) (vsOk t l) := by
  have bad : vsOk t l = false → Ev (fun k => spec_l6Vals.j0 k t l true) (vsOk t l) := fun h => by
    rw [h]
    exact Ev.step (fun k => by rw [spec_l6Vals.j0]) (by exact Ev.pos rfl (Ev.now _))
  unfold spec_l6Vals.f
  by_cases h : (l.length : Int) > 2000
  · exact Ev.pos h (bad (by simp [vsOk]; omega))
  refine Ev.neg h (Ev.here (l5Type_some t) ?_)
  cases ht : tOk t with
  | false => exact bad (by simp [vsOk, ht])
  | true =>
    refine Ev.step (fun k => by rw [spec_l6Vals.j0]) ?_
    refine Ev.neg (by decide) ?_
    have key := all_loop (fun k i => spec_l6Vals.l0 k t l i) (fun i => vOk t (l.getD i z27)) l.length false true
      (fun i r hi hp hr => by
        have e : rd_T27 l (i : Int) = l.getD i z27 := rfl
        refine Ev.step (fun k => by rw [spec_l6Vals.l0]) ?_
        refine Ev.pos (by omega) (Ev.pos (by omega) (Ev.bind (spec_ValOk_ev t _) ?_))
        rw [e, hp]
        refine Ev.pos rfl ?_
        rw [wrap64_id (by omega) (by omega)]
        simpa using hr)
      (fun i hi hp => by
        have e : rd_T27 l (i : Int) = l.getD i z27 := rfl
        refine Ev.step (fun k => by rw [spec_l6Vals.l0]) ?_
        refine Ev.pos (by omega) (Ev.pos (by omega) (Ev.bind (spec_ValOk_ev t _) ?_))
        rw [e, hp]
        exact Ev.neg (by decide) (Ev.now _))
      (by exact Ev.step (fun k => by rw [spec_l6Vals.l0]) (by exact Ev.neg (by omega) (Ev.now _)))
    refine Ev.cast key ?_
    rw [all_range]
    have h2 : (l.length : Int) ≤ 2000 := by omega
    cases ha : l.all (vOk t) <;> simp [vsOk, ht, ha, h2]
def lOk (a b c : Int) : Bool := tOk a && decide (0 ≤ b ∧ b ≤ c ∧ c ≤ 6)
theorem spec_LeafOk_some (a b c : Int) : spec_LeafOk.f a b c = some (lOk a b c) := by
  unfold spec_LeafOk.f lOk
  rw [l5Type_some]
  simp only [Option.bind_some, l1In_some]
  cases tOk a with
  | false => rfl
  | true =>
    rw [if_pos rfl]
    by_cases h : 0 ≤ b ∧ b ≤ 6
    · rw [if_pos (by simpa using h)]; congr 1; rw [Bool.true_and]; apply decide_eq_decide.2; constructor <;> intro h' <;> omega
    · rw [if_neg (by simpa using h)]; congr 1; symm; rw [Bool.true_and]; apply decide_eq_false; omega
theorem impl_LeafOk_some (a b c : Int) : impl_LeafOk.f a b c = some (lOk a b c) := by
  unfold impl_LeafOk.f lOk
  rw [typeOk_some]
  simp only [Option.bind_some, within_some]
  cases tOk a with
  | false => rfl
  | true =>
    rw [if_pos rfl]
    by_cases h : 0 ≤ c ∧ c ≤ 6
    · rw [if_pos (by simpa using h)]; congr 1; rw [Bool.true_and]; apply decide_eq_decide.2; constructor <;> intro h' <;> omega
    · rw [if_neg (by simpa using h)]; congr 1; symm; rw [Bool.true_and]; apply decide_eq_false; omega
def fk (x : Int) : Int := if x < 0 then Go.bits .xor .i64 x 9223372036854775807 else x
theorem spec_fk (x : Int) : spec_FloatKey.f x = some (fk x) := by unfold spec_FloatKey.f fk; split <;> rfl
theorem impl_fk (x : Int) : impl_FloatKey.f x = some (fk x) := by unfold impl_FloatKey.f fk; split <;> rfl
def vLess (t : Int) (a b : S27) : Bool := vOk t a && vOk t b && (if t = 5 then decide (fk a.f0 < fk b.f0) else if t = 6 then Op.bytesLess a.f1.toList b.f1.toList else decide (a.f0 < b.f0))
theorem toList_at (a : ByteArray) : a.toList.length = a.size := by rw [ByteArray.toList_eq]; rw [Array.length_toList]; rfl
theorem bt_at (a : ByteArray) (i : Nat) (h : i < a.size) : ∃ u : UInt8, a.toList.drop i = u :: a.toList.drop (i + 1) ∧ bt a (i : Int) = u.toNat := by
  have hl := toList_at a
  refine ⟨a.toList[i]'(by omega), List.drop_eq_getElem_cons (by omega), ?_⟩
  unfold bt
  have hd : a.data.size = a.size := rfl
  rw [dif_pos (by simp; omega)]
  simp only [ByteArray.toList_eq]
  simp
  rfl
theorem spec_less_text (a b : ByteArray) (ha : a.size ≤ 1000000) (hb : b.size ≤ 1000000) (n0 n1 : Int) : ∀ (d i : Nat), i ≤ a.size → i ≤ b.size → i + d = a.size → Ev (fun k => spec_ValLess.l0 k (i : Int) n0 a n1 b) (Op.bytesLess (a.toList.drop i) (b.toList.drop i)) := by
  have la := toList_at a
  have lb := toList_at b
  intro d
  induction d with
  | zero =>
    intro i h1 h2 hi
    refine Ev.step (fun k => by rw [spec_ValLess.l0]) ?_
    refine Ev.neg (by omega) ?_
    refine Ev.step (fun k => by rw [spec_ValLess.j2]) ?_
    refine Ev.neg (by decide) (Ev.const ?_)
    congr 1
    rw [show a.toList.drop i = [] from List.drop_eq_nil_of_le (by omega)]
    by_cases hb2 : i < b.size
    · obtain ⟨u, hu, _⟩ := bt_at b i hb2
      rw [hu]; simp [Op.bytesLess]; omega
    · rw [show b.toList.drop i = [] from List.drop_eq_nil_of_le (by omega)]; simp [Op.bytesLess]; omega
  | succ d ih =>
    intro i h1 h2 hi
    obtain ⟨u, hu, eu⟩ := bt_at a i (by omega)
    refine Ev.step (fun k => by rw [spec_ValLess.l0]) ?_
    refine Ev.pos (by omega) ?_
    refine Ev.step (fun k => by rw [spec_ValLess.j2]) ?_
    by_cases hb2 : i < b.size
    · obtain ⟨v, hv, ev⟩ := bt_at b i hb2
      refine Ev.pos (by simp; omega) (Ev.pos (by omega) (Ev.pos (by omega) (Ev.pos (by omega) ?_)))
      rw [eu, ev, hu, hv]
      by_cases he : u = v
      · subst he
        refine Ev.pos rfl ?_
        rw [wrap64_id (by omega) (by omega)]
        have := ih (i + 1) (by omega) (by omega) (by omega)
        have e2 : Op.bytesLess (u :: a.toList.drop (i + 1)) (u :: b.toList.drop (i + 1)) = Op.bytesLess (a.toList.drop (i + 1)) (b.toList.drop (i + 1)) := by simp [Op.bytesLess]
        rw [e2]
        simpa using this
      · have hn : ¬ ((u.toNat : Int) = (v.toNat : Int)) := fun h => he (UInt8.toNat_inj.1 (by exact_mod_cast h))
        refine Ev.neg hn (Ev.const ?_)
        congr 1
        have e2 : Op.bytesLess (u :: a.toList.drop (i + 1)) (v :: b.toList.drop (i + 1)) = decide (u < v) := by simp [Op.bytesLess, he]
        rw [e2]
        simp [UInt8.lt_iff_toNat_lt]
    · refine Ev.neg (by simp; omega) (Ev.const ?_)
      congr 1
      rw [show b.toList.drop i = [] from List.drop_eq_nil_of_le (by omega), hu]; simp [Op.bytesLess]; omega
theorem vOk_text {t : Int} {v : S27} (h : vOk t v = true) (h6 : t = 6) : v.f1.size ≤ 40 := by
  subst h6
  unfold vOk at h
  simp at h; omega
theorem spec_ValLess_ev (t : Int) (a b : S27) : Ev (fun k => spec_ValLess.f k t a.f0 a.f1 b.f0 b.f1) (vLess t a b) := by
  have bad : ∀ {x}, x = true → vLess t a b = false → Ev (fun k => spec_ValLess.j0 k t x a.f0 a.f1 b.f0 b.f1) (vLess t a b) := fun hx h => by
    rw [h, hx]; exact Ev.step (fun k => by rw [spec_ValLess.j0]) (by exact Ev.pos rfl (Ev.now _))
  unfold spec_ValLess.f
  refine Ev.bind (spec_ValOk_ev t a) ?_
  cases ha : vOk t a with
  | false => exact Ev.neg (by decide) (bad rfl (by simp [vLess, ha]))
  | true =>
    refine Ev.pos rfl (Ev.bind (spec_ValOk_ev t b) ?_)
    cases hb : vOk t b with
    | false => exact bad rfl (by simp [vLess, hb])
    | true =>
      refine Ev.step (fun k => by rw [spec_ValLess.j0]) ?_
      refine Ev.neg (by decide) ?_
      by_cases h5 : t = 5
      · refine Ev.pos h5 (Ev.here (spec_fk _) (Ev.here (spec_fk _) (Ev.const ?_)))
        unfold vLess; rw [ha, hb, if_pos h5]; rfl
      refine Ev.neg h5 ?_
      by_cases h6 : t = 6
      · refine Ev.pos h6 ?_
        have := spec_less_text a.f1 b.f1 (by have := vOk_text ha h6; omega) (by have := vOk_text hb h6; omega) a.f0 b.f0 a.f1.size 0 (by omega) (by omega) (by omega)
        refine Ev.cast this ?_
        unfold vLess; rw [ha, hb, if_neg h5, if_pos h6]; rfl
      · refine Ev.neg h6 (Ev.const ?_)
        unfold vLess; rw [ha, hb, if_neg h5, if_neg h6]; rfl
theorem impl_ValLess_ev (t : Int) (a b : S27) : Ev (fun k => impl_ValLess.f k t a.f0 a.f1 b.f0 b.f1) (vLess t a b) := by
  have bad : ∀ {x}, x = true → vLess t a b = false → Ev (fun k => impl_ValLess.j0 k t x a.f0 a.f1 b.f0 b.f1) (vLess t a b) := fun hx h => by
    rw [h, hx]; exact Ev.step (fun k => by rw [impl_ValLess.j0]) (by exact Ev.pos rfl (Ev.now _))
  unfold impl_ValLess.f
  refine Ev.here (impl_ValOk_some t a) ?_
  cases ha : vOk t a with
  | false => exact Ev.neg (by decide) (bad rfl (by simp [vLess, ha]))
  | true =>
    refine Ev.pos rfl (Ev.here (impl_ValOk_some t b) ?_)
    cases hb : vOk t b with
    | false => exact bad rfl (by simp [vLess, hb])
    | true =>
      refine Ev.step (fun k => by rw [impl_ValLess.j0]) ?_
      refine Ev.neg (by decide) ?_
      by_cases h5 : t = 5
      · refine Ev.pos h5 (Ev.here (impl_fk _) (Ev.here (impl_fk _) (Ev.const ?_)))
        unfold vLess; rw [ha, hb, if_pos h5]; rfl
      refine Ev.neg h5 ?_
      by_cases h6 : t = 6
      · refine Ev.pos h6 (Ev.const ?_)
        unfold vLess; rw [ha, hb, if_neg h5, if_pos h6]; rfl
      · refine Ev.neg h6 (Ev.const ?_)
        unfold vLess; rw [ha, hb, if_neg h5, if_neg h6]; rfl
theorem bv_ofInt_wrap (x : Int) : BitVec.ofInt 64 (wrap64 x) = BitVec.ofInt 64 x := by
  apply BitVec.eq_of_toNat_eq
  rw [BitVec.toNat_ofInt, BitVec.toNat_ofInt]
  congr 1
  unfold wrap64; omega
theorem or_wrap (a c : Nat) (ha : a < 2 ^ 64) (hc : c < 2 ^ 64) : Go.bits .or .i64 (wrap64 (a : Int)) (wrap64 (c : Int)) = wrap64 ((a ||| c : Nat) : Int) := by
  have e : Go.bits .or .i64 (wrap64 (a : Int)) (wrap64 (c : Int)) = IntKind.i64.wrap (((BitVec.ofInt 64 (wrap64 (a : Int)) ||| BitVec.ofInt 64 (wrap64 (c : Int))).toNat : Nat) : Int) := rfl
  rw [e, bv_ofInt_wrap, bv_ofInt_wrap, BitVec.ofInt_natCast, BitVec.ofInt_natCast, BitVec.toNat_or, BitVec.toNat_ofNat, BitVec.toNat_ofNat, Nat.mod_eq_of_lt ha, Nat.mod_eq_of_lt hc, IntKind.wrap_i64]
  unfold wrap64; omega
theorem or_digit (m a d : Nat) (ha : a < 2 ^ m) : a ||| d * 2 ^ m = a + d * 2 ^ m := by
  have := Nat.shiftLeft_add_eq_or_of_lt ha d
  rw [Nat.shiftLeft_eq] at this
  rw [Nat.or_comm, ← this, Nat.add_comm]
theorem emod_digit (x p : Int) (hp : 0 < p) : x % (p * 256) = x % p + (x / p) % 256 * p := by
  have h1 := Int.mul_ediv_add_emod x p
  have h2 := Int.mul_ediv_add_emod (x / p) 256
  have a0 := Int.emod_nonneg x (show p ≠ 0 by omega)
  have a1 := Int.emod_lt_of_pos x hp
  have b0 := Int.emod_nonneg (x / p) (show (256 : Int) ≠ 0 by omega)
  have b1 := Int.emod_lt_of_pos (x / p) (show (0 : Int) < 256 by omega)
  have e : x = (x % p + (x / p) % 256 * p) + (p * 256) * (x / p / 256) := by
    have e3 : p * (x / p) = p * (256 * (x / p / 256) + x / p % 256) := by rw [h2]
    rw [Int.mul_add] at e3
    have e4 : p * (256 * (x / p / 256)) = (p * 256) * (x / p / 256) := by rw [Int.mul_assoc]
    have e5 : p * (x / p % 256) = x / p % 256 * p := Int.mul_comm _ _
    omega
  have m0 : 0 ≤ (x / p) % 256 * p := Int.mul_nonneg b0 (by omega)
  have m1 : (x / p) % 256 * p ≤ 255 * p := Int.mul_le_mul_of_nonneg_right (by omega) (by omega)
  generalize hr : x % p + (x / p) % 256 * p = r at *
  conv => lhs; rw [e]
  rw [Int.add_mul_emod_self_left, Int.emod_eq_of_lt (by omega) (by omega)]
theorem bits_and_mask (x m : Int) (k : Nat) (hk : k ≤ 63) (hm : m = 2 ^ k - 1) : Go.bits .and .i64 x m = x % 2 ^ k := by
  have p0 : (0 : Int) < 2 ^ k := Int.pow_pos (by omega)
  have eP : (2 : Int) ^ k = ((2 ^ k : Nat) : Int) := by push_cast; rfl
  have h63 : 2 ^ k ≤ 2 ^ 63 := Nat.pow_le_pow_right (by omega) hk
  have n0 : 0 < 2 ^ k := Nat.pow_pos (by omega)
  have e : Go.bits .and .i64 x m = IntKind.i64.wrap ((((BitVec.ofInt 64 x) &&& (BitVec.ofInt 64 m)).toNat : Nat) : Int) := rfl
  rw [e, BitVec.toNat_and, BitVec.toNat_ofInt, BitVec.toNat_ofInt]
  have em : (m % ((2 ^ 64 : Nat) : Int)).toNat = 2 ^ k - 1 := by
    rw [hm, eP, Int.emod_eq_of_lt (by omega) (by omega)]; omega
  rw [em, Nat.and_two_pow_sub_one_eq_mod]
  have hlt : (x % ((2 ^ 64 : Nat) : Int)).toNat % 2 ^ k < 2 ^ k := Nat.mod_lt _ n0
  rw [wraps_i64 _ (by omega) (by omega), eP, Int.natCast_emod]
  rw [Int.toNat_of_nonneg (Int.emod_nonneg _ (by omega))]
  apply Int.emod_emod_of_dvd
  refine Int.natCast_dvd_natCast.2 (Nat.pow_dvd_pow 2 (by omega))
theorem u64_id {x : Int} (h0 : 0 ≤ x) (h1 : x < 18446744073709551616) : IntKind.u64.wrap x = x := by rw [IntKind.wrap_u64]; omega
theorem bits_and_mask_u (x m : Int) (k : Nat) (hk : k ≤ 63) (hm : m = 2 ^ k - 1) : Go.bits .and .u64 x m = x % 2 ^ k := by
  have p0 : (0 : Int) < 2 ^ k := Int.pow_pos (by omega)
  have eP : (2 : Int) ^ k = ((2 ^ k : Nat) : Int) := by push_cast; rfl
  have h63 : 2 ^ k ≤ 2 ^ 63 := Nat.pow_le_pow_right (by omega) hk
  have n0 : 0 < 2 ^ k := Nat.pow_pos (by omega)
  have e : Go.bits .and .u64 x m = IntKind.u64.wrap ((((BitVec.ofInt 64 x) &&& (BitVec.ofInt 64 m)).toNat : Nat) : Int) := rfl
  rw [e, BitVec.toNat_and, BitVec.toNat_ofInt, BitVec.toNat_ofInt]
  have em : (m % ((2 ^ 64 : Nat) : Int)).toNat = 2 ^ k - 1 := by
    rw [hm, eP, Int.emod_eq_of_lt (by omega) (by omega)]; omega
  rw [em, Nat.and_two_pow_sub_one_eq_mod]
  have hlt : (x % ((2 ^ 64 : Nat) : Int)).toNat % 2 ^ k < 2 ^ k := Nat.mod_lt _ n0
  rw [u64_id (by omega) (by omega), eP, Int.natCast_emod]
  rw [Int.toNat_of_nonneg (Int.emod_nonneg _ (by omega))]
  apply Int.emod_emod_of_dvd
  refine Int.natCast_dvd_natCast.2 (Nat.pow_dvd_pow 2 (by omega))
theorem or_u8_range (a b : Int) : 0 ≤ Go.bits .or .u8 a b ∧ Go.bits .or .u8 a b ≤ 255 := by
  have e : Go.bits .or .u8 a b = IntKind.u8.wrap (((BitVec.ofInt 8 a ||| BitVec.ofInt 8 b).toNat : Nat) : Int) := rfl
  rw [e, IntKind.wrap_u8]; omega
theorem or_u8_zero (a : Int) (h0 : 0 ≤ a) (h1 : a ≤ 255) : Go.bits .or .u8 a 0 = a := by
  have e : Go.bits .or .u8 a 0 = IntKind.u8.wrap (((BitVec.ofInt 8 a ||| BitVec.ofInt 8 0).toNat : Nat) : Int) := rfl
  have z : BitVec.ofInt 8 0 = 0#8 := rfl
  rw [e, z, BitVec.or_zero, BitVec.toNat_ofInt, IntKind.wrap_u8]; omega
theorem and_one (x : Int) : Go.bits .and .i64 x 1 = x % 2 := bits_and_mask x 1 1 (by omega) rfl
/-- Bit k of number i is put into its place. -/
def bput (l : List Int) (w i k : Nat) (out : List Int) : List Int :=
  out.set ((i * w + k) / 8) (Go.bits .or .u8 (rd out (((i * w + k) / 8 : Nat) : Int)) (shl .u8 ((shr .i64 (rd l (i : Int)) (k : Int)) % 2) (((i * w + k) % 8 : Nat) : Int)))
def brow (l : List Int) (w i : Nat) (out : List Int) : List Int := (List.range w).foldl (fun o k => bput l w i k o) out
def bitsR (l : List Int) (w : Nat) : List Int := (List.range l.length).foldl (fun o i => brow l w i o) (List.replicate ((l.length * w + 7) / 8) 0)
def BOk (n : Nat) (out : List Int) : Prop := out.length = n ∧ ∀ x ∈ out, 0 ≤ x ∧ x ≤ 255
theorem bput_ok {n : Nat} {l : List Int} {w i k : Nat} {out : List Int} (h : BOk n out) : BOk n (bput l w i k out) := by
  refine ⟨by simpa [bput] using h.1, fun x hx => ?_⟩
  unfold bput at hx
  rcases List.mem_or_eq_of_mem_set hx with h' | rfl
  · exact h.2 x h'
  · exact or_u8_range _ _
theorem brow_ok {n : Nat} {l : List Int} {w i : Nat} : ∀ (m : Nat) {out : List Int}, BOk n out → BOk n ((List.range m).foldl (fun o k => bput l w i k o) out) := by
  intro m
  induction m with
  | zero => intro out h; exact h
  | succ m ih => intro out h; rw [List.range_succ, List.foldl_append]; exact bput_ok (ih h)
theorem bput_skip {n : Nat} {l : List Int} {w i k : Nat} {out : List Int} (h : BOk n out) (hb : (shr .i64 (rd l (i : Int)) (k : Int)) % 2 = 0) (hi : (i * w + k) / 8 < n) : bput l w i k out = out := by
  unfold bput
  rw [hb]
  have e : shl .u8 0 (((i * w + k) % 8 : Nat) : Int) = 0 := by unfold shl; rw [Int.zero_mul, IntKind.wrap_u8]; rfl
  have hl : (i * w + k) / 8 < out.length := by rw [h.1]; exact hi
  have er : rd out (((i * w + k) / 8 : Nat) : Int) = out[(i * w + k) / 8] := rd_eq (by omega)
  have hm := h.2 _ (List.getElem_mem hl)
  rw [e, er, or_u8_zero _ hm.1 hm.2, List.set_getElem_self]
theorem bitsR_ok (l : List Int) (w : Nat) : BOk ((l.length * w + 7) / 8) (bitsR l w) := by
  unfold bitsR
  have : ∀ m, BOk ((l.length * w + 7) / 8) ((List.range m).foldl (fun o i => brow l w i o) (List.replicate ((l.length * w + 7) / 8) 0)) := by
    intro m
    induction m with
    | zero => exact ⟨by simp, fun x hx => by obtain rfl := List.eq_of_mem_replicate hx; omega⟩
    | succ m ih => rw [List.range_succ, List.foldl_append]; exact brow_ok w ih
  exact this _
theorem pos_facts (l : List Int) (hl : l.length ≤ 4000) (w : Nat) (hw : w ≤ 64) (i k : Nat) (hi : i < l.length) (hk : k < w) :
    (wrap64 ((i : Int) * (w : Int)) + (k : Int)) = ((i * w + k : Nat) : Int) ∧ i * w + k < l.length * w ∧ l.length * w ≤ 256000 := by
  have h1 : (i + 1) * w ≤ l.length * w := Nat.mul_le_mul_right _ hi
  rw [Nat.add_mul, Nat.one_mul] at h1
  have h2 : l.length * w ≤ 4000 * 64 := Nat.mul_le_mul hl hw
  have hc : ((i : Int) * (w : Int)) = ((i * w : Nat) : Int) := by push_cast; rfl
  rw [hc, wrap64_id (by omega) (by omega)]
  exact ⟨by push_cast; rfl, by omega, by omega⟩
theorem impl_packed_ev (l : List Int) (hl : l.length ≤ 4000) (w : Nat) (hw : w ≤ 64) : Ev (fun k => impl_packed.f k l (w : Int)) (bitsR l w) := by
  have h2 : l.length * w ≤ 4000 * 64 := Nat.mul_le_mul hl hw
  have hc : ((l.length : Int) * (w : Int)) = ((l.length * w : Nat) : Int) := by push_cast; rfl
  have hN : wrap64 (Int.tdiv (wrap64 (wrap64 ((l.length : Int) * (w : Int)) + 7)) 8) = (((l.length * w + 7) / 8 : Nat) : Int) := by
    rw [hc, wrap64_id (x := ((l.length * w : Nat) : Int)) (by omega) (by omega), wrap64_id (x := ((l.length * w : Nat) : Int) + 7) (by omega) (by omega), Int.tdiv_eq_ediv_of_nonneg (by omega), wrap64_id (by omega) (by omega)]
    omega
  unfold impl_packed.f
  rw [hN]
  refine Ev.pos (by omega) (Ev.pos (by omega) ?_)
  rw [Int.toNat_natCast]
  refine loop_inv (fun k out i => impl_packed.l0 k (w : Int) out l (l.length : Int) i) (fun i out => brow l w i out) l.length _ (fun _ out => BOk ((l.length * w + 7) / 8) out) _ ⟨by simp, fun x hx => by obtain rfl := List.eq_of_mem_replicate hx; omega⟩ (fun i out hi ho => brow_ok w ho) (fun i out hi ho hr => ?_) (fun out ho he => ?_)
  · refine Ev.step (fun k => by rw [impl_packed.l0]) ?_
    refine Ev.pos (by omega) (Ev.pos (by omega) (Ev.pos (by omega) ?_))
    refine loop_inv (fun n o k => impl_packed.l1 n (w : Int) o (i : Int) (rd l (i : Int)) l (l.length : Int) (i : Int) (w : Int) k) (fun k o => bput l w i k o) w _ (fun _ o => BOk ((l.length * w + 7) / 8) o) out ho (fun k o _ h => bput_ok h) (fun k o hk hok hr2 => ?_) (fun o hok he => ?_)
    · obtain ⟨p1, p2, p3⟩ := pos_facts l hl w hw i k hi hk
      refine Ev.step (fun k => by rw [impl_packed.l1]) ?_
      rw [wrap64_id (x := (k : Int) + 1) (by omega) (by omega), p1, and_one]
      have hr3 : Ev (fun n => impl_packed.l1 n (w : Int) (bput l w i k o) (i : Int) (rd l (i : Int)) l (l.length : Int) (i : Int) (w : Int) ((k : Int) + 1)) (bitsR l w) := by simpa using hr2
      rw [wrap64_id (x := ((i * w + k : Nat) : Int)) (by omega) (by omega), Int.tdiv_eq_ediv_of_nonneg (by omega), Int.tmod_eq_emod_of_nonneg (by omega)]
      have e1 : wrap64 (((i * w + k : Nat) : Int) / 8) = (((i * w + k) / 8 : Nat) : Int) := by rw [wrap64_id (by omega) (by omega)]; omega
      have e2 : ((i * w + k : Nat) : Int) % 8 = (((i * w + k) % 8 : Nat) : Int) := by omega
      have e3 : (shr .i64 (rd l (i : Int)) (k : Int)) % 2 % 256 = (shr .i64 (rd l (i : Int)) (k : Int)) % 2 := by omega
      rw [e1, e2, e3]
      have hlen := hok.1
      refine Ev.pos (by omega) (Ev.pos (by omega) (Ev.pos (by omega) (Ev.pos (by omega) (Ev.pos (by omega) ?_))))
      unfold bput at hr3
      rw [Int.toNat_natCast]
      exact hr3
    · refine Ev.step (fun k => by rw [impl_packed.l1]) ?_
      refine Ev.neg (by omega) ?_
      rw [wrap64_id (x := (i : Int) + 1) (by omega) (by omega), he]
      have : (List.range w).foldl (fun o k => bput l w i k o) out = brow l w i out := rfl
      rw [this]
      simpa using hr
  · refine Ev.step (fun k => by rw [impl_packed.l0]) ?_
    refine Ev.neg (by omega) (Ev.const ?_)
    rw [he]; rfl
theorem spec_BitsPack_ok (l : List Int) (hl : l.length ≤ 2000) (w : Nat) (hw : w ≤ 62) (hb : ∀ x ∈ l, 0 ≤ x ∧ shr .i64 x (w : Int) = 0) : Ev (fun k => spec_BitsPack.f k l (w : Int)) (bitsR l w, true) := by
  have h2 : l.length * w ≤ 2000 * 64 := Nat.mul_le_mul hl (by omega)
  have hc : ((l.length : Int) * (w : Int)) = ((l.length * w : Nat) : Int) := by push_cast; rfl
  have hN : spec_BitsSize.f (l.length : Int) (w : Int) = some (((l.length * w + 7) / 8 : Nat) : Int) := by
    unfold spec_BitsSize.f
    simp only [l1In_some, Option.bind_some]
    rw [decide_eq_true (show (0 : Int) ≤ (l.length : Int) ∧ (l.length : Int) ≤ 2000 by omega), decide_eq_true (show (0 : Int) ≤ (w : Int) ∧ (w : Int) ≤ 62 by omega), if_pos rfl, if_pos rfl]
    rw [hc, wrap64_id (x := ((l.length * w : Nat) : Int)) (by omega) (by omega), wrap64_id (x := ((l.length * w : Nat) : Int) + 7) (by omega) (by omega), Int.tdiv_eq_ediv_of_nonneg (by omega), wrap64_id (by omega) (by omega)]
    congr 1
  unfold spec_BitsPack.f
  refine Ev.here hN (Ev.neg (by omega) (Ev.pos (by omega) (Ev.pos (by omega) ?_)))
  rw [Int.toNat_natCast]
  refine loop_inv (fun k out i => spec_BitsPack.l0 k l (w : Int) out i) (fun i out => brow l w i out) l.length _ (fun _ out => BOk ((l.length * w + 7) / 8) out) _ ⟨by simp, fun x hx => by obtain rfl := List.eq_of_mem_replicate hx; omega⟩ (fun i out hi ho => brow_ok w ho) (fun i out hi ho hr => ?_) (fun out ho he => ?_)
  · refine Ev.step (fun k => by rw [spec_BitsPack.l0]) ?_
    have hbi : 0 ≤ rd l (i : Int) ∧ shr .i64 (rd l (i : Int)) (w : Int) = 0 := by rw [rd_eq (by simpa using hi)]; exact hb _ (List.getElem_mem _)
    refine Ev.pos (by omega) (Ev.pos (by omega) (Ev.neg (by omega) (Ev.pos (by omega) ?_)))
    refine Ev.step (fun k => by rw [spec_BitsPack.j1]) ?_
    refine Ev.neg (by rw [hbi.2]; decide) ?_
    refine loop_inv (fun n o k => spec_BitsPack.l1 n l (w : Int) o (i : Int) k) (fun k o => bput l w i k o) w _ (fun _ o => BOk ((l.length * w + 7) / 8) o) out ho (fun k o _ h => bput_ok h) (fun k o hk hok hr2 => ?_) (fun o hok he => ?_)
    · obtain ⟨p1, p2, p3⟩ := pos_facts l (by omega) w (by omega) i k hi hk
      refine Ev.step (fun k => by rw [spec_BitsPack.l1]) ?_
      refine Ev.pos (by omega) (Ev.pos (by omega) (Ev.pos (by omega) (Ev.pos (by omega) ?_)))
      rw [wrap64_id (x := (k : Int) + 1) (by omega) (by omega), p1, and_one]
      have hr3 : Ev (fun n => spec_BitsPack.l1 n l (w : Int) (bput l w i k o) (i : Int) ((k : Int) + 1)) (bitsR l w, true) := by simpa using hr2
      by_cases hb : (shr .i64 (rd l (i : Int)) (k : Int)) % 2 = 0
      · refine Ev.neg (by omega) ?_
        rw [bput_skip hok hb (by omega)] at hr3
        exact hr3
      · have hb1 : (shr .i64 (rd l (i : Int)) (k : Int)) % 2 = 1 := by omega
        rw [wrap64_id (x := ((i * w + k : Nat) : Int)) (by omega) (by omega), Int.tdiv_eq_ediv_of_nonneg (by omega), Int.tmod_eq_emod_of_nonneg (by omega)]
        have e1 : wrap64 (((i * w + k : Nat) : Int) / 8) = (((i * w + k) / 8 : Nat) : Int) := by rw [wrap64_id (by omega) (by omega)]; omega
        have e2 : ((i * w + k : Nat) : Int) % 8 = (((i * w + k) % 8 : Nat) : Int) := by omega
        rw [e1, e2]
        have hlen := hok.1
        refine Ev.pos hb1 (Ev.pos (by omega) (Ev.pos (by omega) (Ev.pos (by omega) ?_)))
        unfold bput at hr3
        rw [hb1] at hr3
        rw [Int.toNat_natCast]
        exact hr3
    · refine Ev.step (fun k => by rw [spec_BitsPack.l1]) ?_
      refine Ev.neg (by omega) ?_
      rw [wrap64_id (x := (i : Int) + 1) (by omega) (by omega), he]
      have : (List.range w).foldl (fun o k => bput l w i k o) out = brow l w i out := rfl
      rw [this]
      simpa using hr
  · refine Ev.step (fun k => by rw [spec_BitsPack.l0]) ?_
    refine Ev.neg (by omega) (Ev.const ?_)
    rw [he]; rfl
theorem bitsSize_spec (w : Nat) (hw : w ≤ 24) : spec_BitsSize.f 1 (w : Int) = some (((w + 7) / 8 : Nat) : Int) := by
  unfold spec_BitsSize.f
  simp only [l1In_some, Option.bind_some]
  rw [decide_eq_true (show (0 : Int) ≤ 1 ∧ (1 : Int) ≤ 2000 by omega), decide_eq_true (show (0 : Int) ≤ (w : Int) ∧ (w : Int) ≤ 62 by omega), if_pos rfl, if_pos rfl]
  rw [Int.one_mul, wrap64_id (x := (w : Int)) (by omega) (by omega), wrap64_id (x := (w : Int) + 7) (by omega) (by omega), Int.tdiv_eq_ediv_of_nonneg (by omega), wrap64_id (by omega) (by omega)]
  congr 1
theorem bitsSize_impl (w : Nat) (hw : w ≤ 24) : impl_BitsSize.f 1 (w : Int) = some (((w + 7) / 8 : Nat) : Int) := by
  unfold impl_BitsSize.f
  simp only [within_some, Option.bind_some]
  rw [decide_eq_true (show (0 : Int) ≤ 1 ∧ (1 : Int) ≤ 2000 by omega), decide_eq_true (show (0 : Int) ≤ (w : Int) ∧ (w : Int) ≤ 62 by omega), if_pos rfl, if_pos rfl]
  rw [Int.one_mul, wrap64_id (x := (w : Int)) (by omega) (by omega), wrap64_id (x := (w : Int) + 7) (by omega) (by omega), Int.tdiv_eq_ediv_of_nonneg (by omega), wrap64_id (by omega) (by omega)]
  congr 1
/-- The bytes of a number, the low ones first. -/
def wbytes (x : Int) (n : Nat) : List Int := (List.range n).map fun (k : Nat) => (shr .i64 x (8 * (k : Int))) % 256
theorem wbytes_length (x : Int) (n : Nat) : (wbytes x n).length = n := by simp [wbytes]
theorem spec_WordPut_ev (x : Int) (n : Nat) (hn : n ≤ 8) : Ev (fun k => spec_WordPut.f k x (n : Int)) (wbytes x n) := by
  unfold spec_WordPut.f
  refine append_loop (fun k s i => spec_WordPut.l0 k x (n : Int) s i) (fun (i : Nat) => (shr .i64 x (8 * (i : Int))) % 256) n _ (fun i s hi hl hr => ?_) ?_
  · refine Ev.step (fun k => by rw [spec_WordPut.l0]) ?_
    refine Ev.pos (by omega) (Ev.here (l1In_some _ _ _) (Ev.pos (by simp; omega) ?_))
    rw [wrap64_id (x := 8 * (i : Int)) (by omega) (by omega), wrap64_id (x := (i : Int) + 1) (by omega) (by omega)]
    refine Ev.pos (by omega) (Ev.pos (by omega) ?_)
    simpa using hr
  · exact Ev.step (fun k => by rw [spec_WordPut.l0]) (by exact Ev.neg (by omega) (Ev.now _))
theorem impl_WordPut_ev (x : Int) (n : Nat) (hn : n ≤ 8) : Ev (fun k => impl_WordPut.f k x (n : Int)) (wbytes x n) := by
  unfold impl_WordPut.f
  refine Ev.here (within_some _ _ _) ?_
  by_cases h0 : n = 0
  · subst h0
    exact Ev.neg (by simp) (Ev.now _)
  refine Ev.pos (by simp; omega) ?_
  refine append_loop (fun k s i => impl_WordPut.l0 k x s (n : Int) i) (fun (i : Nat) => (shr .i64 x (8 * (i : Int))) % 256) n _ (fun i s hi hl hr => ?_) ?_
  · refine Ev.step (fun k => by rw [impl_WordPut.l0]) ?_
    rw [wrap64_id (x := 8 * (i : Int)) (by omega) (by omega), wrap64_id (x := (i : Int) + 1) (by omega) (by omega)]
    refine Ev.pos (by omega) (Ev.pos (by omega) (Ev.pos (by omega) ?_))
    simpa using hr
  · exact Ev.step (fun k => by rw [impl_WordPut.l0]) (by exact Ev.neg (by omega) (Ev.now _))
theorem shl_i64_nat (d j : Nat) (hj : j ≤ 64) : shl .i64 (d : Int) (j : Int) = wrap64 ((d * 2 ^ j : Nat) : Int) := by
  unfold shl
  have e2 : min ((j : Int)).toNat IntKind.i64.bits = j := by
    have : IntKind.i64.bits = 64 := rfl
    omega
  rw [e2, IntKind.wrap_i64]
  push_cast
  unfold wrap64; rfl
def gstep (b : List Int) (at_ : Int) (k : Nat) (x : Int) : Int := Go.bits .or .i64 x (shl .i64 (wrap64 (rd b (wrap64 (at_ + (k : Int))))) (wrap64 (8 * (k : Int))))
def wordV (b : List Int) (at_ : Int) (n : Nat) : Int := (List.range n).foldl (fun x k => gstep b at_ k x) 0
theorem rd_byte (b : List Int) (hb : ∀ x ∈ b, 0 ≤ x ∧ x ≤ 255) (j : Int) : 0 ≤ rd b j ∧ rd b j ≤ 255 := by
  by_cases h : j.toNat < b.length
  · rw [rd_eq h]; exact hb _ (List.getElem_mem h)
  · unfold rd; rw [List.getD_eq_getElem?_getD, List.getElem?_eq_none (by omega)]; simp
theorem wordV_range (b : List Int) (hb : ∀ x ∈ b, 0 ≤ x ∧ x ≤ 255) (at_ : Int) : ∀ n : Nat, n ≤ 4 → 0 ≤ wordV b at_ n ∧ wordV b at_ n < 2 ^ (8 * n) := by
  intro n
  induction n with
  | zero => intro _; simp [wordV]
  | succ n ih =>
    intro hn
    obtain ⟨h0, h1⟩ := ih (by omega)
    have e : wordV b at_ (n + 1) = gstep b at_ n (wordV b at_ n) := by unfold wordV; rw [List.range_succ, List.foldl_append]; rfl
    rw [e]
    have hd := rd_byte b hb (wrap64 (at_ + (n : Int)))
    unfold gstep
    generalize rd b (wrap64 (at_ + (n : Int))) = d at hd
    obtain ⟨D, rfl⟩ := Int.eq_ofNat_of_zero_le hd.1
    have w : wrap64 (8 * (n : Int)) = ((8 * n : Nat) : Int) := by rw [wrap64_id (by omega) (by omega)]; push_cast; rfl
    rw [wrap64_id (x := (D : Int)) (by omega) (by omega), w, shl_i64_nat D (8 * n) (by omega)]
    have h2 : 2 ^ (8 * n) ≤ 2 ^ 24 := Nat.pow_le_pow_right (by omega) (by omega)
    have h3 : D * 2 ^ (8 * n) ≤ 255 * 2 ^ (8 * n) := Nat.mul_le_mul_right _ (by omega)
    have e8 : (2 : Int) ^ (8 * (n + 1)) = ((2 ^ (8 * n) * 256 : Nat) : Int) := by rw [Nat.mul_add, Int.pow_add, Int.natCast_mul, Int.natCast_pow]; rfl
    have e9 : (2 : Int) ^ (8 * n) = ((2 ^ (8 * n) : Nat) : Int) := by push_cast; rfl
    rw [wrap64_id (by omega) (by omega)]
    rw [e9] at h1
    have hp : 0 < 2 ^ (8 * n) := Nat.pow_pos (by omega)
    exact or_range (8 * (n + 1)) (by omega) h0 (by rw [e8]; omega) (by omega) (by rw [e8]; omega)
theorem WordGet_both (b : List Int) (hl : b.length ≤ 1048576) (at_ : Int) (i0 : -9223372036854775808 ≤ at_) (i1 : at_ ≤ 9223372036854775807) (n : Nat) (n1 : 1 ≤ n) (n8 : n ≤ 8) :
    Ev (fun k => spec_WordGet.f k b at_ (n : Int)) (if 0 ≤ at_ ∧ at_ + n ≤ b.length then (wordV b at_ n, at_ + n, true) else (0, 0, false)) ∧
    Ev (fun k => impl_WordGet.f k b at_ (n : Int)) (if 0 ≤ at_ ∧ at_ + n ≤ b.length then (wordV b at_ n, at_ + n, true) else (0, 0, false)) := by
  have bs : ∀ r, r = ((0, 0, false) : Int × Int × Bool) → Ev (fun k => spec_WordGet.j0 k b at_ (n : Int) true) r := fun r h => by rw [h]; exact Ev.step (fun k => by rw [spec_WordGet.j0]) (by exact Ev.pos rfl (Ev.now _))
  have bi : ∀ r, r = ((0, 0, false) : Int × Int × Bool) → Ev (fun k => impl_WordGet.j0 k b at_ (n : Int) true) r := fun r h => by rw [h]; exact Ev.step (fun k => by rw [impl_WordGet.j0]) (by exact Ev.pos rfl (Ev.now _))
  unfold spec_WordGet.f impl_WordGet.f
  have w8 : wrap64 ((b.length : Int) - n) = b.length - n := wrap64_id (by omega) (by omega)
  by_cases h : 0 ≤ at_ ∧ at_ + n ≤ b.length
  · rw [if_pos h]
    have w7 : wrap64 ((b.length : Int) - at_) = b.length - at_ := wrap64_id (by omega) (by omega)
    have w9 : wrap64 (at_ + (n : Int)) = at_ + n := wrap64_id (by omega) (by omega)
    constructor
    · refine Ev.here (l1In_some _ _ _) (Ev.pos (by simp; omega) (Ev.neg (by omega) (Ev.neg (by omega) ?_)))
      have : decide (wrap64 ((b.length : Int) - at_) < (n : Int)) = false := by rw [w7]; simp; omega
      rw [this]
      refine Ev.step (fun k => by rw [spec_WordGet.j0]) ?_
      refine Ev.neg (by decide) ?_
      refine loop_cps (fun k x i => spec_WordGet.l0 k b at_ (n : Int) x i) (fun k x => gstep b at_ k x) n _ (fun i x hi hr => ?_) 0 ?_
      · refine Ev.step (fun k => by rw [spec_WordGet.l0]) ?_
        have e : ((i + 1 : Nat) : Int) = (i : Int) + 1 := by push_cast; rfl
        rw [e] at hr
        rw [wrap64_id (x := (i : Int) + 1) (by omega) (by omega)]
        exact Ev.pos (by omega) (Ev.pos (by rw [wrap64_id (by omega) (by omega)]; omega) (Ev.pos (by rw [wrap64_id (by omega) (by omega)]; omega) (Ev.pos (by rw [wrap64_id (by omega) (by omega)]; omega) hr)))
      · refine Ev.step (fun k => by rw [spec_WordGet.l0]) ?_
        rw [w9]
        exact Ev.neg (by omega) (Ev.now _)
    · refine Ev.here (within_some _ _ _) (Ev.pos (by simp; omega) (Ev.neg (by omega) ?_))
      have : decide (at_ > wrap64 ((b.length : Int) - (n : Int))) = false := by rw [w8]; simp; omega
      rw [this]
      refine Ev.step (fun k => by rw [impl_WordGet.j0]) ?_
      refine Ev.neg (by decide) ?_
      refine loop_cps (fun k x i => impl_WordGet.l0 k b at_ (n : Int) x (n : Int) i) (fun k x => gstep b at_ k x) n _ (fun i x hi hr => ?_) 0 ?_
      · refine Ev.step (fun k => by rw [impl_WordGet.l0]) ?_
        have e : ((i + 1 : Nat) : Int) = (i : Int) + 1 := by push_cast; rfl
        rw [e] at hr
        rw [wrap64_id (x := (i : Int) + 1) (by omega) (by omega)]
        exact Ev.pos (by omega) (Ev.pos (by rw [wrap64_id (by omega) (by omega)]; omega) (Ev.pos (by rw [wrap64_id (by omega) (by omega)]; omega) (Ev.pos (by rw [wrap64_id (by omega) (by omega)]; omega) hr)))
      · refine Ev.step (fun k => by rw [impl_WordGet.l0]) ?_
        rw [w9]
        exact Ev.neg (by omega) (Ev.now _)
  · rw [if_neg h]
    constructor
    · refine Ev.here (l1In_some _ _ _) (Ev.pos (by simp; omega) ?_)
      by_cases h1 : at_ < 0
      · exact Ev.pos h1 (bs _ rfl)
      · refine Ev.neg h1 ?_
        by_cases h2 : at_ > (b.length : Int)
        · exact Ev.pos h2 (bs _ rfl)
        · refine Ev.neg h2 ?_
          have : decide (wrap64 ((b.length : Int) - at_) < (n : Int)) = true := by rw [wrap64_id (by omega) (by omega)]; simp; omega
          rw [this]; exact bs _ rfl
    · refine Ev.here (within_some _ _ _) (Ev.pos (by simp; omega) ?_)
      by_cases h1 : at_ < 0
      · exact Ev.pos h1 (bi _ rfl)
      · refine Ev.neg h1 ?_
        have : decide (at_ > wrap64 ((b.length : Int) - (n : Int))) = true := by rw [w8]; simp; omega
        rw [this]; exact bi _ rfl
theorem flat_snoc_ {α β : Type} (g : α → List β) (T : List α) (i : Nat) (h : i < T.length) : (T.take (i + 1)).flatMap g = (T.take i).flatMap g ++ g T[i] := by
  rw [List.take_succ_eq_append_getElem h, List.flatMap_append]; congr 1; simp
theorem flat_le_ {α β : Type} (g : α → List β) (c : Nat) (T : List α) (hc : ∀ x ∈ T, (g x).length ≤ c) : (T.flatMap g).length ≤ c * T.length := by
  induction T with
  | nil => simp
  | cons s T ih =>
    have h1 := ih (fun x hx => hc x (List.mem_cons_of_mem _ hx))
    have h2 := hc s (List.mem_cons_self)
    rw [List.flatMap_cons, List.length_append, List.length_cons, Nat.mul_add]
    omega
/-- A loop that appends some rows, one behind the other. -/
theorem flat_loop {α β γ : Type} (L : Nat → List β → Int → Option γ) (g : α → List β) (c : Nat) (T : List α) (hc : ∀ x ∈ T, (g x).length ≤ c) (r : γ) (s0 : List β)
    (hL : ∀ (i : Nat) (s : List β) (h : i < T.length), s.length ≤ s0.length + c * i → (g T[i]).length ≤ c → Ev (fun k => L k (s ++ g T[i]) (i + 1 : Nat)) r → Ev (fun k => L k s (i : Int)) r)
    (h : Ev (fun k => L k (s0 ++ T.flatMap g) (T.length : Int)) r) : Ev (fun k => L k s0 0) r := by
  have key : ∀ (d i : Nat), i + d = T.length → Ev (fun k => L k (s0 ++ (T.take i).flatMap g) (i : Int)) r := by
    intro d
    induction d with
    | zero =>
      intro i hi
      obtain rfl : i = T.length := by omega
      rw [List.take_length]; exact h
    | succ d ih =>
      intro i hi
      have h1 := ih (i + 1) (by omega)
      rw [flat_snoc_ g T i (by omega), ← List.append_assoc] at h1
      refine hL i _ (by omega) ?_ (hc _ (List.getElem_mem _)) h1
      have h2 := flat_le_ g c (T.take i) (fun s hs => hc s (List.mem_of_mem_take hs))
      rw [List.length_take] at h2
      have e : min i T.length = i := by omega
      rw [e] at h2
      rw [List.length_append]; omega
  have := key T.length 0 (by omega)
  simpa using this
def pbytes (t : Int) (v : S27) : List Int := if t = 6 then wbytes (v.f1.size : Int) 4 ++ bytesOf v.f1 else wbytes v.f0 (wideB t).toNat
def numsB (l : List S27) : List Int := l.map fun v => v.f0
def plainR (t : Int) (l : List S27) : List Int × Bool := if vsOk t l = true then (if t = 0 then (bitsR (numsB l) 1, true) else (l.flatMap (pbytes t), true)) else ([], false)
theorem pbytes_le (t : Int) (l : List S27) (h : vsOk t l = true) : ∀ v ∈ l, (pbytes t v).length ≤ 44 := by
  intro v hv
  simp only [vsOk, Bool.and_eq_true, decide_eq_true_eq] at h
  have h1 := List.all_eq_true.1 h.2 v hv
  unfold pbytes
  by_cases h6 : t = 6
  · rw [if_pos h6, List.length_append, wbytes_length, bytesOf_length]
    subst h6
    simp [vOk] at h1
    omega
  · rw [if_neg h6, wbytes_length]
    have : wideB t ≤ 8 := by unfold wideB; split <;> (try split) <;> (try split) <;> omega
    omega
theorem vsOk_type {t : Int} {l : List S27} (h : vsOk t l = true) : (t = 0 ∨ t = 1 ∨ t = 2 ∨ t = 5 ∨ t = 6) ∧ l.length ≤ 2000 := by
  simp only [vsOk, Bool.and_eq_true, decide_eq_true_eq, tOk] at h
  exact ⟨h.1.2, by omega⟩
theorem numsB_bits {l : List S27} (h : vsOk 0 l = true) : ∀ x ∈ numsB l, 0 ≤ x ∧ shr .i64 x ((1 : Nat) : Int) = 0 := by
  intro x hx
  obtain ⟨v, hv, rfl⟩ := List.mem_map.1 hx
  simp only [vsOk, Bool.and_eq_true, decide_eq_true_eq] at h
  have h1 := List.all_eq_true.1 h.2 v hv
  simp [vOk] at h1
  refine ⟨h1.1.1, ?_⟩
  have h2 : v.f0 = 0 ∨ v.f0 = 1 := by omega
  rcases h2 with h2 | h2 <;> rw [h2] <;> decide
theorem impl_numsOf_ev (l : List S27) (hl : l.length ≤ 1048576) : Ev (fun k => impl_numsOf.f k l) (numsB l) := by
  unfold impl_numsOf.f
  refine append_loop (fun k s i => impl_numsOf.l0 k s l (l.length : Int) i) (fun i => (rd_T27 l (i : Int)).f0) l.length _ (fun i s hi hls hr => ?_) ?_
  · refine Ev.step (fun k => by rw [impl_numsOf.l0]) ?_
    refine Ev.pos (by omega) (Ev.pos (by omega) (Ev.pos (by omega) (Ev.pos (by omega) ?_)))
    rw [wrap64_id (x := (i : Int) + 1) (by omega) (by omega)]
    simpa using hr
  · refine Ev.step (fun k => by rw [impl_numsOf.l0]) ?_
    refine Ev.neg (by omega) (Ev.const ?_)
    congr 1
    apply List.ext_getElem?
    intro j
    unfold numsB
    by_cases hj : j < l.length
    · have e : rd_T27 l (j : Int) = l[j] := getD_eq (by simpa using hj)
      simp [hj, e]
    · simp [hj]
theorem plainR_le (t : Int) (l : List S27) : (plainR t l).1.length ≤ 100000 := by
  unfold plainR
  by_cases h : vsOk t l = true
  · rw [if_pos h]
    obtain ⟨_, h2⟩ := vsOk_type h
    by_cases h0 : t = 0
    · rw [if_pos h0]
      have := (bitsR_ok (numsB l) 1).1
      have h3 : (numsB l).length = l.length := by simp [numsB]
      show (bitsR (numsB l) 1).length ≤ 100000
      rw [this, h3]; omega
    · rw [if_neg h0]
      have := flat_le_ (pbytes t) 44 l (pbytes_le t l h)
      show (l.flatMap (pbytes t)).length ≤ 100000
      omega
  · rw [if_neg h]; simp
theorem spec_PlainPack_ev (t : Int) (l : List S27) (hl : l.length ≤ 1048576) : Ev (fun k => spec_PlainPack.f k t l) (plainR t l) := by
  unfold spec_PlainPack.f
  refine Ev.here rfl (Ev.bind (spec_l6Vals_ev t l hl) ?_)
  rcases Bool.eq_false_or_eq_true (vsOk t l) with h | h
  case inr =>
    have h : ¬ vsOk t l = true := by rw [h]; decide
    rw [show plainR t l = ([], false) from if_neg h]
    exact Ev.neg h (Ev.now _)
  refine Ev.pos h ?_
  obtain ⟨ht, hl2⟩ := vsOk_type h
  have hle := pbytes_le t l h
  by_cases h0 : t = 0
  · subst h0
    rw [show plainR 0 l = (bitsR (numsB l) 1, true) from by unfold plainR; rw [if_pos h, if_pos rfl]]
    refine append_loop (fun k s i => spec_PlainPack.l0 k 0 l [] s i) (fun i => (rd_T27 l (i : Int)).f0) l.length _ (fun i s hi hls hr => ?_) ?_
    · refine Ev.step (fun k => by rw [spec_PlainPack.l0]) ?_
      refine Ev.pos (by omega) (Ev.pos (by omega) (Ev.pos rfl (Ev.pos (by omega) ?_)))
      rw [wrap64_id (x := (i : Int) + 1) (by omega) (by omega)]
      simpa using hr
    · have e : (List.range l.length).map (fun (i : Nat) => (rd_T27 l (i : Int)).f0) = numsB l := by
        apply List.ext_getElem?
        intro j
        unfold numsB
        by_cases hj : j < l.length
        · have e : rd_T27 l (j : Int) = l[j] := getD_eq (by simpa using hj)
          simp [hj, e]
        · simp [hj]
      rw [e]
      refine Ev.step (fun k => by rw [spec_PlainPack.l0]) ?_
      have hb := spec_BitsPack_ok (numsB l) (by simp [numsB]; exact hl2) 1 (by omega) (numsB_bits h)
      exact Ev.neg (by omega) (Ev.pos rfl (Ev.bind hb (Ev.now _)))
  · rw [show plainR t l = (l.flatMap (pbytes t), true) from by unfold plainR; rw [if_pos h, if_neg h0]]
    refine flat_loop (fun k s i => spec_PlainPack.l0 k t l s [] i) (pbytes t) 44 l hle _ [] (fun i s hi hs hsz hr => ?_) ?_
    · have e : rd_T27 l (i : Int) = l[i] := getD_eq (by simpa using hi)
      have hs2 : s.length ≤ 44 * 2000 := by simp at hs; omega
      refine Ev.step (fun k => by rw [spec_PlainPack.l0]) ?_
      rw [wrap64_id (x := (i : Int) + 1) (by omega) (by omega), e]
      refine Ev.pos (by omega) (Ev.pos (by omega) (Ev.neg h0 ?_))
      by_cases h1 : t = 1
      · have ep : pbytes t l[i] = wbytes (l[i]).f0 4 := by subst h1; rfl
        rw [ep] at hr hsz
        exact Ev.pos h1 (Ev.bind (spec_WordPut_ev _ 4 (by omega)) (Ev.pos (by omega) (by simpa using hr)))
      refine Ev.neg h1 ?_
      by_cases h6 : t = 6
      · have ep : pbytes t l[i] = wbytes ((l[i]).f1.size : Int) 4 ++ bytesOf (l[i]).f1 := by unfold pbytes; rw [if_pos h6]
        have hwl := wbytes_length ((l[i]).f1.size : Int) 4
        rw [ep] at hr hsz
        rw [List.length_append, bytesOf_length] at hsz
        rw [← List.append_assoc] at hr
        exact Ev.pos h6 (Ev.bind (spec_WordPut_ev _ 4 (by omega)) (Ev.pos (by omega) (Ev.here rfl (Ev.pos (by rw [List.length_append]; omega) (by simpa using hr)))))
      · have hw8 : wideB t = 8 := by unfold wideB; rw [if_neg h1]; split; rfl; rw [if_pos (by omega)]
        have ep : pbytes t l[i] = wbytes (l[i]).f0 8 := by unfold pbytes; rw [if_neg h6, hw8]; rfl
        rw [ep] at hr hsz
        exact Ev.neg h6 (Ev.bind (spec_WordPut_ev _ 8 (by omega)) (Ev.pos (by omega) (by simpa using hr)))
    · refine Ev.step (fun k => by rw [spec_PlainPack.l0]) ?_
      exact Ev.neg (by omega) (Ev.neg h0 (Ev.now _))
theorem impl_PlainPack_ev (t : Int) (l : List S27) (hl : l.length ≤ 1048576) : Ev (fun k => impl_PlainPack.f k t l) (plainR t l) := by
  unfold impl_PlainPack.f
  refine Ev.bind (impl_valsOk_ev t l hl) ?_
  rcases Bool.eq_false_or_eq_true (vsOk t l) with h | h
  case inr =>
    have h : ¬ vsOk t l = true := by rw [h]; decide
    rw [show plainR t l = ([], false) from if_neg h]
    exact Ev.neg h (Ev.now _)
  refine Ev.pos h ?_
  obtain ⟨ht, hl2⟩ := vsOk_type h
  have hle := pbytes_le t l h
  by_cases h0 : t = 0
  · subst h0
    rw [show plainR 0 l = (bitsR (numsB l) 1, true) from by unfold plainR; rw [if_pos h, if_pos rfl]]
    exact Ev.pos rfl (Ev.bind (impl_numsOf_ev l hl) (Ev.bind (impl_packed_ev (numsB l) (by simp [numsB]; omega) 1 (by omega)) (Ev.now _)))
  · rw [show plainR t l = (l.flatMap (pbytes t), true) from by unfold plainR; rw [if_pos h, if_neg h0]]
    refine Ev.neg h0 ?_
    refine flat_loop (fun k s i => impl_PlainPack.l0 k t s l (l.length : Int) i) (pbytes t) 44 l hle _ [] (fun i s hi hs hsz hr => ?_) ?_
    · have e : rd_T27 l (i : Int) = l[i] := getD_eq (by simpa using hi)
      have hs2 : s.length ≤ 44 * 2000 := by simp at hs; omega
      refine Ev.step (fun k => by rw [impl_PlainPack.l0]) ?_
      rw [wrap64_id (x := (i : Int) + 1) (by omega) (by omega), e]
      refine Ev.pos (by omega) (Ev.pos (by omega) (Ev.pos (by omega) ?_))
      by_cases h6 : t = 6
      · have ep : pbytes t l[i] = wbytes ((l[i]).f1.size : Int) 4 ++ bytesOf (l[i]).f1 := by unfold pbytes; rw [if_pos h6]
        have hwl := wbytes_length ((l[i]).f1.size : Int) 4
        rw [ep] at hr hsz
        rw [List.length_append, bytesOf_length] at hsz
        rw [← List.append_assoc] at hr
        exact Ev.pos h6 (Ev.bind (impl_WordPut_ev _ 4 (by omega)) (Ev.pos (by omega) (Ev.here rfl (Ev.pos (by rw [List.length_append]; omega) (by simpa using hr)))))
      · have ep : pbytes t l[i] = wbytes (l[i]).f0 (wideB t).toNat := by unfold pbytes; rw [if_neg h6]
        have hwr : 0 ≤ wideB t ∧ wideB t ≤ 8 := by unfold wideB; split <;> (try split) <;> (try split) <;> omega
        have hwn : wideB t = ((wideB t).toNat : Int) := by omega
        have hwl := wbytes_length (l[i]).f0 (wideB t).toNat
        rw [ep] at hr hsz
        refine Ev.neg h6 (Ev.here (wideOf_some t) ?_)
        rw [hwn]
        exact Ev.bind (impl_WordPut_ev _ _ (by omega)) (Ev.pos (by omega) (by simpa using hr))
    · refine Ev.step (fun k => by rw [impl_PlainPack.l0]) ?_
      exact Ev.neg (by omega) (Ev.now _)
def stOk (a b c n : Int) (h : Bool) (lo hi : S27) : Bool := lOk a b c && (decide (0 ≤ n ∧ n ≤ 2000) && (if h = true then vOk a lo && (vOk a hi && !vLess a hi lo) else (lo.f0 == 0 && noText lo.f1) && (hi.f0 == 0 && noText hi.f1)))
theorem spec_l15Ok_ev (a b c n : Int) (h : Bool) (lo hi : S27) : Ev (fun k => spec_l15Ok.f k a b c n h lo.f0 lo.f1 hi.f0 hi.f1) (stOk a b c n h lo hi) := by
  have bad : stOk a b c n h lo hi = false → Ev (fun k => spec_l15Ok.j0 k true a b c n h lo.f0 lo.f1 hi.f0 hi.f1 0 (⟨#[]⟩ : ByteArray)) (stOk a b c n h lo hi) := fun e => by
    rw [e]; exact Ev.step (fun k => by rw [spec_l15Ok.j0]) (by exact Ev.pos rfl (Ev.now _))
  unfold spec_l15Ok.f
  refine Ev.here (spec_LeafOk_some a b c) ?_
  cases h1 : lOk a b c with
  | false => exact Ev.neg (by decide) (bad (by simp [stOk, h1]))
  | true =>
    refine Ev.pos rfl (Ev.here (l1In_some _ _ _) ?_)
    by_cases h2 : 0 ≤ n ∧ n ≤ 2000
    · rw [decide_eq_true h2]
      refine Ev.step (fun k => by rw [spec_l15Ok.j0]) (Ev.neg (by decide) ?_)
      cases h with
      | true =>
        refine Ev.pos rfl (Ev.bind (spec_ValOk_ev a lo) ?_)
        cases h3 : vOk a lo with
        | false => exact Ev.neg (by decide) (Ev.const (by simp [stOk, h3]))
        | true =>
          refine Ev.pos rfl (Ev.bind (spec_ValOk_ev a hi) ?_)
          cases h4 : vOk a hi with
          | false => exact Ev.neg (by decide) (Ev.const (by simp [stOk, h4]))
          | true => exact Ev.pos rfl (Ev.bind (spec_ValLess_ev a hi lo) (Ev.const (by simp [stOk, h1, h2, h3, h4])))
      | false =>
        refine Ev.neg (by decide) ?_
        have e : ∀ s : ByteArray, (s.toList == (⟨#[]⟩ : ByteArray).toList) = noText s := fun s => by unfold noText; simp
        simp only [e]
        cases h3 : (lo.f0 == 0 && noText lo.f1) with
        | false => exact Ev.neg (by decide) (Ev.const (by simp [stOk, h3]))
        | true => exact Ev.pos rfl (Ev.const (by simp only [stOk, h1, decide_eq_true h2, h3]; rfl))
    · rw [decide_eq_false h2]
      exact bad (by simp only [stOk, decide_eq_false h2]; simp)
theorem impl_statsOk_ev (a b c n : Int) (h : Bool) (lo hi : S27) : Ev (fun k => impl_statsOk.f k a b c n h lo.f0 lo.f1 hi.f0 hi.f1) (stOk a b c n h lo hi) := by
  have bad : stOk a b c n h lo hi = false → Ev (fun k => impl_statsOk.j0 k true a b c n h lo.f0 lo.f1 hi.f0 hi.f1) (stOk a b c n h lo hi) := fun e => by
    rw [e]; exact Ev.step (fun k => by rw [impl_statsOk.j0]) (by exact Ev.pos rfl (Ev.now _))
  unfold impl_statsOk.f
  refine Ev.here (impl_LeafOk_some a b c) ?_
  cases h1 : lOk a b c with
  | false => exact Ev.neg (by decide) (bad (by simp [stOk, h1]))
  | true =>
    refine Ev.pos rfl (Ev.here (within_some _ _ _) ?_)
    by_cases h2 : 0 ≤ n ∧ n ≤ 2000
    · rw [decide_eq_true h2]
      refine Ev.step (fun k => by rw [impl_statsOk.j0]) (Ev.neg (by decide) ?_)
      cases h with
      | true =>
        refine Ev.pos rfl (Ev.here (impl_ValOk_some a lo) ?_)
        cases h3 : vOk a lo with
        | false => exact Ev.neg (by decide) (Ev.const (by simp [stOk, h3]))
        | true =>
          refine Ev.pos rfl (Ev.here (impl_ValOk_some a hi) ?_)
          cases h4 : vOk a hi with
          | false => exact Ev.neg (by decide) (Ev.const (by simp [stOk, h4]))
          | true => exact Ev.pos rfl (Ev.bind (impl_ValLess_ev a hi lo) (Ev.const (by simp [stOk, h1, h2, h3, h4])))
      | false =>
        refine Ev.neg (by decide) ?_
        have e : ∀ s : ByteArray, (s.toList == ([] : List UInt8)) = noText s := fun s => rfl
        simp only [e]
        cases h3 : (lo.f0 == 0 && noText lo.f1) with
        | false => exact Ev.neg (by decide) (Ev.const (by simp [stOk, h3]))
        | true => exact Ev.pos rfl (Ev.const (by simp only [stOk, h1, decide_eq_true h2, h3]; rfl))
    · rw [decide_eq_false h2]
      exact bad (by simp only [stOk, decide_eq_false h2]; simp)
def textR (t : Int) (v : S27) : ByteArray := if t = 6 then v.f1 else strOfNums (plainR t [v]).1
theorem spec_l15Text_ev (t : Int) (v : S27) : Ev (fun k => spec_l15Text.f k t v.f0 v.f1) (textR t v) := by
  unfold spec_l15Text.f textR
  by_cases h : t = 6
  · rw [if_pos h]; exact Ev.pos h (Ev.now _)
  · rw [if_neg h]; exact Ev.neg h (Ev.bind (spec_PlainPack_ev t [v] (by simp)) (Ev.now _))
theorem impl_statText_ev (t : Int) (v : S27) : Ev (fun k => impl_statText.f k t v.f0 v.f1) (textR t v) := by
  unfold impl_statText.f textR
  by_cases h : t = 6
  · rw [if_pos h]; exact Ev.pos h (Ev.now _)
  · rw [if_neg h]; exact Ev.neg h (Ev.bind (impl_PlainPack_ev t [v] (by simp)) (Ev.now _))
def itemB (t : Int) : Bool := decide (t = 5 ∨ t = 6 ∨ t = 8 ∨ t = 9 ∨ t = 12)
def noT (s : ByteArray) : Bool := decide (s.toList = ([] : List UInt8))
/-- Is what a node has as told, but for its parts? -/
def plainB (n : S57) : Bool :=
  if n.f0 = 1 ∨ n.f0 = 2 then decide (n.f2 = 0) && (noT n.f3 && n.f4 == 0)
  else if n.f0 = 5 then decide (-2147483648 ≤ n.f2 ∧ n.f2 ≤ 2147483647) && (noT n.f3 && n.f4 == 0)
  else if n.f0 = 6 then noT n.f3 && n.f4 == 0
  else if n.f0 = 8 then decide (n.f2 = 0) && (decide ((n.f3.size : Int) ≤ 300) && n.f4 == 0)
  else if n.f0 = 9 then noT n.f3 && (decide (n.f4 ≥ 0) && (if n.f4 = 0 then decide (n.f2 = 0) else itemB n.f2))
  else if n.f0 = 12 then decide (n.f2 = 0) && (noT n.f3 && decide (n.f4 ≥ 0)) else false
theorem isType_some (t : Int) (b : Bool) : Ev (fun k => impl_isType.f k t b) (if t = 1 ∨ t = 2 then !b else itemB t) := by
  refine ⟨1, fun k hk => ?_⟩
  obtain ⟨m, rfl⟩ : ∃ m, k = m + 1 := ⟨k - 1, by omega⟩
  unfold impl_isType.f itemB
  simp only [impl_isType.j0]
  by_cases h1 : t = 1
  · subst h1; simp
  by_cases h2 : t = 2
  · subst h2; simp
  simp only [if_neg h1, h1, h2, or_self, if_false]
  by_cases h5 : t = 5
  · subst h5; simp
  by_cases h6 : t = 6
  · subst h6; simp
  by_cases h8 : t = 8
  · subst h8; simp
  by_cases h9 : t = 9
  · subst h9; simp
  by_cases h12 : t = 12
  · subst h12; simp
  simp [h1, h2, h5, h6, h8, h9, h12]
theorem l4Item_some (t : Int) : spec_l4Item.f t = some (itemB t) := by
  unfold spec_l4Item.f spec_l4Kind.f itemB
  by_cases h1 : t = 1
  · subst h1; simp
  by_cases h2 : t = 2
  · subst h2; simp
  by_cases h5 : t = 5
  · subst h5; simp
  by_cases h6 : t = 6
  · subst h6; simp
  by_cases h8 : t = 8
  · subst h8; simp
  by_cases h9 : t = 9
  · subst h9; simp
  by_cases h12 : t = 12
  · subst h12; simp
  simp [h1, h2, h5, h6, h8, h9, h12]
theorem impl_nodeOk_ev (n : S57) : Ev (fun k => impl_nodeOk.f k n.f0 n.f1 n.f2 n.f3 n.f4) (plainB n) := by
  have nt : ∀ {g : Nat → Option Bool} {r : Bool}, (n.f3.toList = ([] : List UInt8) → Ev g r) → Ev (fun k => if n.f3.toList = ([] : List UInt8) then g k else some false) (noT n.f3 && r) := by
    intro g r h
    by_cases h3 : n.f3.toList = ([] : List UInt8)
    · rw [show noT n.f3 = true from decide_eq_true h3, Bool.true_and]; exact Ev.pos h3 (h h3)
    · rw [show noT n.f3 = false from decide_eq_false h3, Bool.false_and]; exact Ev.neg h3 (Ev.now _)
  have z : ∀ {c : Prop} [Decidable c] {g : Nat → Option Bool} {r : Bool}, (c → Ev g r) → Ev (fun k => if c then g k else some false) (decide c && r) := by
    intro c _ g r h
    by_cases hc : c
    · rw [decide_eq_true hc, Bool.true_and]; exact Ev.pos hc (h hc)
    · rw [decide_eq_false hc, Bool.false_and]; exact Ev.neg hc (Ev.now _)
  unfold impl_nodeOk.f
  by_cases h5 : n.f0 = 5
  · have e : plainB n = (decide (-2147483648 ≤ n.f2 ∧ n.f2 ≤ 2147483647) && (noT n.f3 && n.f4 == 0)) := by unfold plainB; rw [if_neg (by omega), if_pos h5]
    rw [e]
    refine Ev.pos h5 (Ev.here (a := decide (-2147483648 ≤ n.f2 ∧ n.f2 ≤ 2147483647)) (by unfold impl_isInt32.f; rw [within_some]; rfl) ?_)
    cases decide (-2147483648 ≤ n.f2 ∧ n.f2 ≤ 2147483647) with
    | true => exact Ev.pos rfl (Ev.cast (nt (fun _ => Ev.now _)) (by simp))
    | false => exact Ev.neg (by decide) (Ev.now _)
  refine Ev.neg h5 ?_
  by_cases h6 : n.f0 = 6
  · have e : plainB n = (noT n.f3 && n.f4 == 0) := by unfold plainB; rw [if_neg (by omega), if_neg h5, if_pos h6]
    rw [e]
    exact Ev.pos h6 (nt (fun _ => Ev.now _))
  refine Ev.neg h6 ?_
  by_cases h8 : n.f0 = 8
  · have e : plainB n = (decide (n.f2 = 0) && (decide ((n.f3.size : Int) ≤ 300) && n.f4 == 0)) := by unfold plainB; rw [if_neg (by omega), if_neg h5, if_neg h6, if_pos h8]
    rw [e]
    exact Ev.pos h8 (z (fun _ => z (fun _ => Ev.now _)))
  refine Ev.neg h8 ?_
  by_cases h9 : n.f0 = 9
  · have e : plainB n = (noT n.f3 && (decide (n.f4 ≥ 0) && (if n.f4 = 0 then decide (n.f2 = 0) else itemB n.f2))) := by unfold plainB; rw [if_neg (by omega), if_neg h5, if_neg h6, if_neg h8, if_pos h9]
    rw [e]
    refine Ev.pos h9 (nt (fun _ => z (fun hge => ?_)))
    have it : Ev (fun k => if n.f4 > 0 then ((impl_isType.f k n.f2 true).bind fun t => (some t)) else some false) (decide (n.f4 > 0) && itemB n.f2) := by
      refine z (fun _ => Ev.cast (Ev.bind (isType_some n.f2 true) (Ev.now _)) ?_)
      by_cases h12 : n.f2 = 1 ∨ n.f2 = 2
      · rw [if_pos h12]; unfold itemB; symm; rw [decide_eq_false (by omega)]; rfl
      · rw [if_neg h12]
    by_cases h0 : n.f4 = 0
    · have e2 : (if n.f4 = 0 then decide (n.f2 = 0) else itemB n.f2) = decide (n.f2 = 0) := if_pos h0
      rw [e2]
      refine Ev.pos h0 ?_
      by_cases h2 : n.f2 = 0
      · rw [decide_eq_true h2]; exact Ev.pos h2 (Ev.now _)
      · rw [decide_eq_false h2]; exact Ev.neg h2 (Ev.cast it (by rw [decide_eq_false (by omega)]; rfl))
    · have e2 : (if n.f4 = 0 then decide (n.f2 = 0) else itemB n.f2) = itemB n.f2 := if_neg h0
      rw [e2]
      exact Ev.neg h0 (Ev.cast it (by rw [decide_eq_true (by omega)]; rfl))
  refine Ev.neg h9 ?_
  by_cases h12 : n.f0 = 12
  · have e : plainB n = (decide (n.f2 = 0) && (noT n.f3 && decide (n.f4 ≥ 0))) := by unfold plainB; rw [if_neg (by omega), if_neg h5, if_neg h6, if_neg h8, if_neg h9, if_pos h12]
    rw [e]
    exact Ev.pos h12 (z (fun _ => nt (fun _ => Ev.now _)))
  refine Ev.neg h12 (Ev.bind (isType_some n.f0 false) ?_)
  by_cases h1 : n.f0 = 1 ∨ n.f0 = 2
  · have e : plainB n = (decide (n.f2 = 0) && (noT n.f3 && n.f4 == 0)) := by unfold plainB; rw [if_pos h1]
    rw [e, if_pos h1]
    exact Ev.pos rfl (z (fun _ => nt (fun _ => Ev.now _)))
  · have e : plainB n = false := by unfold plainB; rw [if_neg h1, if_neg h5, if_neg h6, if_neg h8, if_neg h9, if_neg h12]
    rw [e, if_neg h1]
    refine Ev.neg ?_ (Ev.now _)
    unfold itemB; rw [decide_eq_false (by omega)]; decide
theorem spec_l4Plain_ev (n : S57) : Ev (fun k => spec_l4Plain.f k n.f0 n.f1 n.f2 n.f3 n.f4) (plainB n) := by
  have nt : ∀ {g : Nat → Option Bool} {r : Bool}, (n.f3.toList = ([] : List UInt8) → Ev g r) → Ev (fun k => if n.f3.toList = ([] : List UInt8) then g k else some false) (noT n.f3 && r) := by
    intro g r h
    by_cases h3 : n.f3.toList = ([] : List UInt8)
    · rw [show noT n.f3 = true from decide_eq_true h3, Bool.true_and]; exact Ev.pos h3 (h h3)
    · rw [show noT n.f3 = false from decide_eq_false h3, Bool.false_and]; exact Ev.neg h3 (Ev.now _)
  have z : ∀ {c : Prop} [Decidable c] {g : Nat → Option Bool} {r : Bool}, (c → Ev g r) → Ev (fun k => if c then g k else some false) (decide c && r) := by
    intro c _ g r h
    by_cases hc : c
    · rw [decide_eq_true hc, Bool.true_and]; exact Ev.pos hc (h hc)
    · rw [decide_eq_false hc, Bool.false_and]; exact Ev.neg hc (Ev.now _)
  have rest : ∀ b : Bool, (b = decide (n.f0 = 1 ∨ n.f0 = 2)) → Ev (fun k => spec_l4Plain.j0 k n.f0 b n.f0 n.f1 n.f2 n.f3 n.f4) (plainB n) := by
    intro b hb
    subst hb
    refine Ev.step (fun k => by rw [spec_l4Plain.j0]) ?_
    by_cases h1 : n.f0 = 1 ∨ n.f0 = 2
    · have e : plainB n = (decide (n.f2 = 0) && (noT n.f3 && n.f4 == 0)) := by unfold plainB; rw [if_pos h1]
      rw [e]
      exact Ev.pos (decide_eq_true h1) (z (fun _ => nt (fun _ => Ev.now _)))
    refine Ev.neg (by rw [decide_eq_false h1]; decide) ?_
    by_cases h5 : n.f0 = 5
    · have e : plainB n = (decide (-2147483648 ≤ n.f2 ∧ n.f2 ≤ 2147483647) && (noT n.f3 && n.f4 == 0)) := by unfold plainB; rw [if_neg h1, if_pos h5]
      rw [e]
      refine Ev.pos h5 (Ev.here (a := decide (-2147483648 ≤ n.f2 ∧ n.f2 ≤ 2147483647)) (by unfold spec_l4Int.f; rw [l1In_some]; rfl) ?_)
      cases decide (-2147483648 ≤ n.f2 ∧ n.f2 ≤ 2147483647) with
      | true => exact Ev.pos rfl (Ev.cast (nt (fun _ => Ev.now _)) (by simp))
      | false => exact Ev.neg (by decide) (Ev.now _)
    refine Ev.neg h5 ?_
    by_cases h6 : n.f0 = 6
    · have e : plainB n = (noT n.f3 && n.f4 == 0) := by unfold plainB; rw [if_neg h1, if_neg h5, if_pos h6]
      rw [e]
      exact Ev.pos h6 (nt (fun _ => Ev.now _))
    refine Ev.neg h6 ?_
    by_cases h8 : n.f0 = 8
    · have e : plainB n = (decide (n.f2 = 0) && (decide ((n.f3.size : Int) ≤ 300) && n.f4 == 0)) := by unfold plainB; rw [if_neg h1, if_neg h5, if_neg h6, if_pos h8]
      rw [e]
      exact Ev.pos h8 (z (fun _ => z (fun _ => Ev.now _)))
    refine Ev.neg h8 ?_
    by_cases h9 : n.f0 = 9
    · have e : plainB n = (noT n.f3 && (decide (n.f4 ≥ 0) && (if n.f4 = 0 then decide (n.f2 = 0) else itemB n.f2))) := by unfold plainB; rw [if_neg h1, if_neg h5, if_neg h6, if_neg h8, if_pos h9]
      rw [e]
      refine Ev.pos h9 (nt (fun _ => z (fun hge => ?_)))
      have it : Ev (fun (_ : Nat) => if n.f4 > 0 then ((spec_l4Item.f n.f2).bind fun t => (some t)) else some false) (decide (n.f4 > 0) && itemB n.f2) :=
        z (fun _ => Ev.here (l4Item_some n.f2) (Ev.now _))
      by_cases h0 : n.f4 = 0
      · have e2 : (if n.f4 = 0 then decide (n.f2 = 0) else itemB n.f2) = decide (n.f2 = 0) := if_pos h0
        rw [e2]
        refine Ev.pos h0 ?_
        by_cases h2 : n.f2 = 0
        · rw [decide_eq_true h2]; exact Ev.pos h2 (Ev.now _)
        · rw [decide_eq_false h2]; exact Ev.neg h2 (Ev.cast it (by rw [decide_eq_false (by omega)]; rfl))
      · have e2 : (if n.f4 = 0 then decide (n.f2 = 0) else itemB n.f2) = itemB n.f2 := if_neg h0
        rw [e2]
        exact Ev.neg h0 (Ev.cast it (by rw [decide_eq_true (by omega)]; rfl))
    refine Ev.neg h9 ?_
    by_cases h12 : n.f0 = 12
    · have e : plainB n = (decide (n.f2 = 0) && (noT n.f3 && decide (n.f4 ≥ 0))) := by unfold plainB; rw [if_neg h1, if_neg h5, if_neg h6, if_neg h8, if_neg h9, if_pos h12]
      rw [e]
      exact Ev.pos h12 (z (fun _ => nt (fun _ => Ev.now _)))
    have e : plainB n = false := by unfold plainB; rw [if_neg h1, if_neg h5, if_neg h6, if_neg h8, if_neg h9, if_neg h12]
    rw [e]
    exact Ev.neg h12 (Ev.now _)
  unfold spec_l4Plain.f
  by_cases h1 : n.f0 = 1
  · exact Ev.pos h1 (rest _ (by rw [decide_eq_true (by omega)]; simp [h1]))
  · refine Ev.neg h1 (rest _ ?_)
    by_cases h2 : n.f0 = 2
    · rw [decide_eq_true (by omega)]; simp [h2]
    · rw [decide_eq_false (by omega)]; simp [h2]
theorem plainB_many {n : S57} (h : plainB n = true) : n.f0 = 9 ∨ n.f0 = 12 ∨ n.f4 = 0 := by
  unfold plainB at h
  by_cases h9 : n.f0 = 9
  · exact .inl h9
  by_cases h12 : n.f0 = 12
  · exact .inr (.inl h12)
  right; right
  (repeat' split at h) <;> simp_all
def nd (L : List S57) (p : Nat) : S57 := L.getD p z57
theorem rd_nd (L : List S57) (p : Nat) : rd_T57 L (p : Int) = nd L p := rfl
/-- Is this part as told, by the node that it is a part of, and the part ahead of it? -/
def partB (n : S57) (last : Int) (p : S57) : Bool :=
  if n.f0 = 9 then decide (p.f0 = n.f2) && decide (p.f1 = 0) else if n.f0 = 12 then decide (last < p.f1 ∧ p.f1 ≤ 1000) else true
def cLoop (L : List S57) (n : S57) (rec : Nat → Option Nat) : Nat → Nat → Int → Nat → Option Nat
  | 0, _, _, _ => none
  | f + 1, next, last, i => if (i : Int) < n.f4 then (if next < L.length then (if partB n last (nd L next) = true then (match rec next with | none => none | some x => cLoop L n rec f x (nd L next).f1 (i + 1)) else none) else none) else some next
/-- The place behind a node and its parts, at most so deep. -/
def cF (L : List S57) : Nat → Nat → Option Nat
  | 0, _ => none
  | d + 1, p => if p < L.length then (if plainB (nd L p) = true then cLoop L (nd L p) (cF L d) (L.length + 1 - p) (p + 1) 0 0 else none) else none
def oN : Option Nat → Int
  | none => -1
  | some v => v
theorem oN_some (v : Nat) : oN (some v) = (v : Int) := rfl
theorem cLoop_bound (L : List S57) (n : S57) (rec : Nat → Option Nat) (hr : ∀ q x, rec q = some x → q < x ∧ x ≤ L.length) : ∀ f next last i v, next ≤ L.length → cLoop L n rec f next last i = some v → next ≤ v ∧ v ≤ L.length
  | 0, _, _, _, _, _, h => by simp [cLoop] at h
  | f + 1, next, last, i, v, hn, h => by
    unfold cLoop at h
    split at h
    · split at h
      · split at h
        · cases hx : rec next with
          | none => rw [hx] at h; cases h
          | some x =>
            rw [hx] at h
            have h1 := hr next x hx
            have h2 := cLoop_bound L n rec hr f x _ _ v h1.2 h
            omega
        · cases h
      · cases h
    · injection h with h; omega
theorem cF_bound (L : List S57) : ∀ d p v, cF L d p = some v → p < v ∧ v ≤ L.length
  | 0, _, _, h => by simp [cF] at h
  | d + 1, p, v, h => by
    unfold cF at h
    split at h
    · split at h
      · have := cLoop_bound L _ _ (cF_bound L d) _ _ _ _ v (by omega) h; omega
      · cases h
    · cases h
theorem cLoop_mono (L : List S57) (n : S57) (rec rec' : Nat → Option Nat) (hr : ∀ q x, rec q = some x → rec' q = some x) : ∀ f next last i v, cLoop L n rec f next last i = some v → cLoop L n rec' f next last i = some v
  | 0, _, _, _, _, h => by simp [cLoop] at h
  | f + 1, next, last, i, v, h => by
    unfold cLoop at h ⊢
    split at h
    · rename_i h1
      rw [if_pos h1]
      split at h
      · rename_i h2
        rw [if_pos h2]
        split at h
        · rename_i h3
          rw [if_pos h3]
          cases hx : rec next with
          | none => rw [hx] at h; cases h
          | some x =>
            rw [hx] at h
            rw [hr next x hx]
            exact cLoop_mono L n rec rec' hr f x _ _ v h
        · cases h
      · cases h
    · rename_i h1
      rw [if_neg h1]; exact h
theorem cF_mono1 (L : List S57) : ∀ d p v, cF L d p = some v → cF L (d + 1) p = some v
  | 0, _, _, h => by simp [cF] at h
  | d + 1, p, v, h => by
    rw [cF] at h ⊢
    split at h
    · rename_i h1
      rw [if_pos h1]
      split at h
      · rename_i h2
        rw [if_pos h2]
        exact cLoop_mono L _ _ _ (cF_mono1 L d) _ _ _ _ v h
      · cases h
    · cases h
theorem cF_mono (L : List S57) (p v : Nat) (d : Nat) (h : cF L d p = some v) : ∀ e, cF L (d + e) p = some v
  | 0 => h
  | e + 1 => cF_mono1 L (d + e) p v (cF_mono L p v d h e)
theorem cF_det (L : List S57) {p v v' d d' : Nat} (h : cF L d p = some v) (h' : cF L d' p = some v') : v = v' := by
  have h1 := cF_mono L p v d h d'
  have h2 := cF_mono L p v' d' h' d
  rw [Nat.add_comm] at h2
  rw [h1] at h2
  injection h2
/-- The same, with the place behind each node noted. -/
def mLoop (L : List S57) (n : S57) (rec : Nat → List Int → Option Nat × List Int) : Nat → Nat → Int → Nat → List Int → Option Nat × List Int
  | 0, _, _, _, A => (none, A)
  | f + 1, next, last, i, A => if (i : Int) < n.f4 then (if next < L.length then (if partB n last (nd L next) = true then (match (rec next A).1 with | none => (none, (rec next A).2) | some x => mLoop L n rec f x (nd L next).f1 (i + 1) (rec next A).2) else (none, A)) else (none, A)) else (some next, A)
def mF (L : List S57) : Nat → Nat → List Int → Option Nat × List Int
  | 0, _, A => (none, A)
  | d + 1, p, A => if p < L.length then (if plainB (nd L p) = true then (match (mLoop L (nd L p) (mF L d) (L.length + 1 - p) (p + 1) 0 0 A).1 with | none => (none, (mLoop L (nd L p) (mF L d) (L.length + 1 - p) (p + 1) 0 0 A).2) | some x => (some x, (mLoop L (nd L p) (mF L d) (L.length + 1 - p) (p + 1) 0 0 A).2.set p (x : Int))) else (none, A)) else (none, A)
theorem mLoop_fst (L : List S57) (n : S57) (rec : Nat → List Int → Option Nat × List Int) (rec' : Nat → Option Nat) (hr : ∀ q A, (rec q A).1 = rec' q) : ∀ f next last i A, (mLoop L n rec f next last i A).1 = cLoop L n rec' f next last i
  | 0, _, _, _, _ => rfl
  | f + 1, next, last, i, A => by
    unfold mLoop cLoop
    by_cases h1 : (i : Int) < n.f4
    · rw [if_pos h1, if_pos h1]
      by_cases h2 : next < L.length
      · rw [if_pos h2, if_pos h2]
        by_cases h3 : partB n last (nd L next) = true
        · rw [if_pos h3, if_pos h3, hr next A]
          cases rec' next with
          | none => rfl
          | some x => exact mLoop_fst L n rec rec' hr f x _ _ _
        · rw [if_neg h3, if_neg h3]
      · rw [if_neg h2, if_neg h2]
    · rw [if_neg h1, if_neg h1]
theorem mF_fst (L : List S57) : ∀ d p A, (mF L d p A).1 = cF L d p
  | 0, _, _ => rfl
  | d + 1, p, A => by
    unfold mF cF
    by_cases h1 : p < L.length
    · rw [if_pos h1, if_pos h1]
      by_cases h2 : plainB (nd L p) = true
      · rw [if_pos h2, if_pos h2, mLoop_fst L _ _ (cF L d) (fun q A => mF_fst L d q A)]
        cases cLoop L (nd L p) (cF L d) (L.length + 1 - p) (p + 1) 0 0 <;> rfl
      · rw [if_neg h2, if_neg h2]
    · rw [if_neg h1, if_neg h1]
theorem mLoop_len (L : List S57) (n : S57) (rec : Nat → List Int → Option Nat × List Int) (hr : ∀ q A, (rec q A).2.length = A.length) : ∀ f next last i A, (mLoop L n rec f next last i A).2.length = A.length
  | 0, _, _, _, _ => rfl
  | f + 1, next, last, i, A => by
    unfold mLoop
    split
    · split
      · split
        · cases (rec next A).1 with
          | none => exact hr next A
          | some x => exact (mLoop_len L n rec hr f x _ _ _).trans (hr next A)
        · rfl
      · rfl
    · rfl
theorem mF_len (L : List S57) : ∀ d p A, (mF L d p A).2.length = A.length
  | 0, _, _ => rfl
  | d + 1, p, A => by
    unfold mF
    have h := mLoop_len L (nd L p) (mF L d) (mF_len L d) (L.length + 1 - p) (p + 1) 0 0 A
    split
    · split
      · cases (mLoop L (nd L p) (mF L d) (L.length + 1 - p) (p + 1) 0 0 A).1 with
        | none => exact h
        | some x => show ((mLoop L (nd L p) (mF L d) (L.length + 1 - p) (p + 1) 0 0 A).2.set p (x : Int)).length = _; rw [List.length_set]; exact h
      · rfl
    · rfl
/-- What is noted between two places. -/
def Noted (L : List S57) (a b : Nat) (A B : List Int) : Prop := (∀ q, q < a ∨ b ≤ q → B[q]? = A[q]?) ∧ ∀ q, a ≤ q → q < b → ∃ (x : Nat) (e : Nat), B[q]? = some (x : Int) ∧ cF L e q = some x
theorem mLoop_noted (L : List S57) (n : S57) (d : Nat) (hr : ∀ q A v, q < L.length → A.length = L.length → cF L d q = some v → Noted L q v A (mF L d q A).2) : ∀ f next last i A v, next ≤ L.length → A.length = L.length → cLoop L n (cF L d) f next last i = some v → Noted L next v A (mLoop L n (mF L d) f next last i A).2
  | 0, _, _, _, _, _, _, _, h => by simp [cLoop] at h
  | f + 1, next, last, i, A, v, hn, hA, h => by
    unfold cLoop at h
    unfold mLoop
    by_cases h1 : (i : Int) < n.f4
    · rw [if_pos h1] at h ⊢
      by_cases h2 : next < L.length
      · rw [if_pos h2] at h ⊢
        by_cases h3 : partB n last (nd L next) = true
        · rw [if_pos h3] at h ⊢
          rw [mF_fst]
          cases hx : cF L d next with
          | none => rw [hx] at h; cases h
          | some x =>
            rw [hx] at h
            have hb := cF_bound L d next x hx
            have n1 := hr next A x h2 hA hx
            have n2 := mLoop_noted L n d hr f x _ _ (mF L d next A).2 v hb.2 (by rw [mF_len]; exact hA) h
            have hv := cLoop_bound L n (cF L d) (cF_bound L d) f x _ _ v hb.2 h
            refine ⟨fun q hq => (n2.1 q (by omega)).trans (n1.1 q (by omega)), fun q h4 h5 => ?_⟩
            by_cases h6 : q < x
            · obtain ⟨y, e, e1, e2⟩ := n1.2 q h4 h6
              exact ⟨y, e, (n2.1 q (by omega)).trans e1, e2⟩
            · exact n2.2 q (by omega) h5
        · rw [if_neg h3] at h; cases h
      · rw [if_neg h2] at h; cases h
    · rw [if_neg h1] at h ⊢
      injection h with h
      subst h
      exact ⟨fun _ _ => rfl, fun q h4 h5 => by omega⟩
theorem mF_noted (L : List S57) : ∀ d p A v, p < L.length → A.length = L.length → cF L d p = some v → Noted L p v A (mF L d p A).2
  | 0, _, _, _, _, _, h => by simp [cF] at h
  | d + 1, p, A, v, hp, hA, h => by
    have h0 := h
    unfold cF at h
    unfold mF
    rw [if_pos hp] at h ⊢
    by_cases h2 : plainB (nd L p) = true
    · rw [if_pos h2] at h ⊢
      have n1 := mLoop_noted L (nd L p) d (mF_noted L d) (L.length + 1 - p) (p + 1) 0 0 A v (by omega) hA h
      have hl := mLoop_len L (nd L p) (mF L d) (mF_len L d) (L.length + 1 - p) (p + 1) 0 0 A
      have hv := cLoop_bound L (nd L p) (cF L d) (cF_bound L d) _ _ _ _ v (by omega) h
      rw [mLoop_fst L (nd L p) (mF L d) (cF L d) (mF_fst L d), h]
      refine ⟨fun q hq => ?_, fun q h4 h5 => ?_⟩
      · show ((mLoop L (nd L p) (mF L d) (L.length + 1 - p) (p + 1) 0 0 A).2.set p (v : Int))[q]? = _
        rw [List.getElem?_set_ne (by omega)]
        exact n1.1 q (by omega)
      · show ∃ (x : Nat) (e : Nat), ((mLoop L (nd L p) (mF L d) (L.length + 1 - p) (p + 1) 0 0 A).2.set p (v : Int))[q]? = some (x : Int) ∧ _
        by_cases h6 : q = p
        · subst h6
          exact ⟨v, d + 1, by rw [List.getElem?_set_self (by omega)], h0⟩
        · obtain ⟨y, e, e1, e2⟩ := n1.2 q (by omega) h5
          exact ⟨y, e, by rw [List.getElem?_set_ne (by omega)]; exact e1, e2⟩
    · rw [if_neg h2] at h; cases h
theorem spec_part (L : List S57) (deep next i last : Int) (n p : S57) (r : Int) (h : Ev (fun k => spec_l4Check.j2 k L deep next i (!partB n last p) n.f0 n.f1 n.f2 n.f3 n.f4 p.f0 p.f1 p.f2 p.f3 p.f4) r) :
    Ev (fun k => (if n.f0 = 9 then (if (p.f0) = n.f2 then (if (p.f1) = 0 then (if n.f0 = 12 then (if (p.f1) ≤ last then (spec_l4Check.j2 k L deep next i true n.f0 n.f1 n.f2 n.f3 n.f4 p.f0 p.f1 p.f2 p.f3 p.f4) else (spec_l4Check.j2 k L deep next i (decide ((p.f1) > 1000)) n.f0 n.f1 n.f2 n.f3 n.f4 p.f0 p.f1 p.f2 p.f3 p.f4)) else (spec_l4Check.j2 k L deep next i false n.f0 n.f1 n.f2 n.f3 n.f4 p.f0 p.f1 p.f2 p.f3 p.f4)) else (spec_l4Check.j2 k L deep next i true n.f0 n.f1 n.f2 n.f3 n.f4 p.f0 p.f1 p.f2 p.f3 p.f4)) else (spec_l4Check.j2 k L deep next i true n.f0 n.f1 n.f2 n.f3 n.f4 p.f0 p.f1 p.f2 p.f3 p.f4)) else (if n.f0 = 12 then (if (p.f1) ≤ last then (spec_l4Check.j2 k L deep next i true n.f0 n.f1 n.f2 n.f3 n.f4 p.f0 p.f1 p.f2 p.f3 p.f4) else (spec_l4Check.j2 k L deep next i (decide ((p.f1) > 1000)) n.f0 n.f1 n.f2 n.f3 n.f4 p.f0 p.f1 p.f2 p.f3 p.f4)) else (spec_l4Check.j2 k L deep next i false n.f0 n.f1 n.f2 n.f3 n.f4 p.f0 p.f1 p.f2 p.f3 p.f4)))) r := by
  unfold partB at h
  by_cases h9 : n.f0 = 9
  · rw [if_pos h9] at h
    refine Ev.pos h9 ?_
    by_cases h1 : p.f0 = n.f2
    · refine Ev.pos h1 ?_
      by_cases h2 : p.f1 = 0
      · refine Ev.pos h2 (Ev.neg (by omega) ?_)
        rw [decide_eq_true h1, decide_eq_true h2] at h; exact h
      · refine Ev.neg h2 ?_
        rw [decide_eq_true h1, decide_eq_false h2] at h; exact h
    · refine Ev.neg h1 ?_
      rw [decide_eq_false h1] at h; exact h
  · rw [if_neg h9] at h
    refine Ev.neg h9 ?_
    by_cases h12 : n.f0 = 12
    · rw [if_pos h12] at h
      refine Ev.pos h12 ?_
      by_cases h1 : p.f1 ≤ last
      · refine Ev.pos h1 ?_
        rw [decide_eq_false (show ¬ (last < p.f1 ∧ p.f1 ≤ 1000) by omega)] at h; exact h
      · refine Ev.neg h1 ?_
        have e : (decide (p.f1 > 1000)) = !decide (last < p.f1 ∧ p.f1 ≤ 1000) := by
          by_cases h3 : p.f1 > 1000
          · rw [decide_eq_true h3, decide_eq_false (show ¬ (last < p.f1 ∧ p.f1 ≤ 1000) by omega)]; rfl
          · rw [decide_eq_false h3, decide_eq_true (show last < p.f1 ∧ p.f1 ≤ 1000 by omega)]; rfl
        rw [e]; exact h
    · rw [if_neg h12] at h
      exact Ev.neg h12 h
theorem spec_check_ev (L : List S57) (hL : L.length ≤ 1500) : ∀ d p : Nat, d ≤ 12 → p ≤ L.length → Ev (fun k => spec_l4Check.f k L (p : Int) (13 - (d : Int))) (oN (cF L d p)) := by
  intro d
  induction d with
  | zero =>
    intro p _ hp
    have bad : Ev (fun k => spec_l4Check.j0 k L (p : Int) (13 - ((0 : Nat) : Int)) true) (-1) := Ev.step (fun k => by rw [spec_l4Check.j0]) (by exact Ev.pos rfl (Ev.now _))
    refine Ev.step (fun k => by rw [spec_l4Check.f]) ?_
    by_cases h1 : (p : Int) ≥ (L.length : Int)
    · exact Ev.pos h1 bad
    · exact Ev.neg h1 (Ev.pos (by omega) bad)
  | succ d ih =>
    intro p hd hp
    have bad : Ev (fun k => spec_l4Check.j0 k L (p : Int) (13 - ((d + 1 : Nat) : Int)) true) (-1) := Ev.step (fun k => by rw [spec_l4Check.j0]) (by exact Ev.pos rfl (Ev.now _))
    refine Ev.step (fun k => by rw [spec_l4Check.f]) ?_
    unfold cF
    by_cases h1 : p < L.length
    · rw [if_pos h1]
      refine Ev.neg (by omega) (Ev.neg (by omega) (Ev.pos (by omega) (Ev.pos (by omega) ?_)))
      rw [rd_nd]
      refine Ev.bind (spec_l4Plain_ev (nd L p)) ?_
      cases hb : plainB (nd L p) with
      | false => rw [if_neg (by decide)]; exact bad
      | true =>
        rw [if_pos rfl]
        have loop : ∀ f next i : Nat, ∀ last : Int, next ≤ L.length → L.length + 1 ≤ next + f → i + 1 ≤ next → Ev (fun k => spec_l4Check.l0 k L (13 - ((d + 1 : Nat) : Int)) (next : Int) last (i : Int) (nd L p).f0 (nd L p).f1 (nd L p).f2 (nd L p).f3 (nd L p).f4) (oN (cLoop L (nd L p) (cF L d) f next last i)) := by
          intro f
          induction f with
          | zero => intro next i last h2 h3 _; omega
          | succ f ihf =>
            intro next i last h2 h3 h4
            refine Ev.step (fun k => by rw [spec_l4Check.l0]) ?_
            unfold cLoop
            by_cases h5 : (i : Int) < (nd L p).f4
            · rw [if_pos h5]
              refine Ev.pos h5 ?_
              by_cases h6 : next < L.length
              · rw [if_pos h6]
                refine Ev.neg (by omega) (Ev.pos (by omega) (Ev.pos (by omega) ?_))
                rw [rd_nd]
                refine spec_part L _ _ _ last (nd L p) (nd L next) _ ?_
                refine Ev.step (fun k => by rw [spec_l4Check.j2]) ?_
                cases hq : partB (nd L p) last (nd L next) with
                | false => rw [if_neg (by decide)]; exact Ev.pos rfl (Ev.now _)
                | true =>
                  rw [if_pos rfl]
                  refine Ev.neg (by decide) ?_
                  rw [wrap64_id (x := 13 - ((d + 1 : Nat) : Int) + 1) (by omega) (by omega), show 13 - ((d + 1 : Nat) : Int) + 1 = 13 - (d : Int) by omega]
                  refine Ev.bind (ih next (by omega) (by omega)) ?_
                  cases hx : cF L d next with
                  | none => exact Ev.pos (by decide) (Ev.now _)
                  | some x =>
                    have hxb := cF_bound L d next x hx
                    refine Ev.neg (by show ¬ ((x : Nat) : Int) < 0; omega) ?_
                    rw [wrap64_id (x := (i : Int) + 1) (by omega) (by omega)]
                    have := ihf x (i + 1) (nd L next).f1 hxb.2 (by omega) (by omega)
                    simpa [oN_some] using this
              · rw [if_neg h6]
                exact Ev.pos (by omega) (Ev.now _)
            · rw [if_neg h5]
              exact Ev.neg h5 (Ev.now _)
        refine Ev.step (fun k => by rw [spec_l4Check.j0]) ?_
        refine Ev.neg (by decide) (Ev.pos (by omega) (Ev.pos (by omega) ?_))
        rw [wrap64_id (x := (p : Int) + 1) (by omega) (by omega), rd_nd]
        have := loop (L.length + 1 - p) (p + 1) 0 0 (by omega) (by omega) (by omega)
        simpa using this
    · rw [if_neg h1]
      exact Ev.pos (by omega) bad
theorem impl_measure_ev (L : List S57) (hL : L.length ≤ 1500) : ∀ d p : Nat, ∀ A : List Int, d ≤ 12 → p ≤ L.length → A.length = L.length → Ev (fun k => impl_tree_measure.f k L A (p : Int) (13 - (d : Int))) (oN (mF L d p A).1, (mF L d p A).2) := by
  intro d
  induction d with
  | zero =>
    intro p A _ hp hA
    have bad : Ev (fun k => impl_tree_measure.j0 k (p : Int) (13 - ((0 : Nat) : Int)) true L A) (-1, A) := Ev.step (fun k => by rw [impl_tree_measure.j0]) (by exact Ev.pos rfl (Ev.now _))
    refine Ev.step (fun k => by rw [impl_tree_measure.f]) ?_
    by_cases h1 : (p : Int) ≥ (L.length : Int)
    · exact Ev.pos h1 bad
    · exact Ev.neg h1 (Ev.pos (by omega) bad)
  | succ d ih =>
    intro p A hd hp hA
    have bad : Ev (fun k => impl_tree_measure.j0 k (p : Int) (13 - ((d + 1 : Nat) : Int)) true L A) (-1, A) := Ev.step (fun k => by rw [impl_tree_measure.j0]) (by exact Ev.pos rfl (Ev.now _))
    refine Ev.step (fun k => by rw [impl_tree_measure.f]) ?_
    unfold mF
    by_cases h1 : p < L.length
    · rw [if_pos h1]
      refine Ev.neg (by omega) (Ev.neg (by omega) (Ev.pos (by omega) (Ev.pos (by omega) ?_)))
      rw [rd_nd]
      refine Ev.bind (impl_nodeOk_ev (nd L p)) ?_
      cases hb : plainB (nd L p) with
      | false => rw [if_neg (by decide)]; exact bad
      | true =>
        rw [if_pos rfl]
        have fin : Option Nat × List Int → Int × List Int := fun z => match z.1 with | none => (-1, z.2) | some x => ((x : Int), z.2.set p (x : Int))
        have loop : ∀ f next i : Nat, ∀ last : Int, ∀ B : List Int, next ≤ L.length → L.length + 1 ≤ next + f → i + 1 ≤ next → B.length = L.length → ((nd L p).f0 = 12 → 0 ≤ last ∧ last ≤ 1000) → Ev (fun k => impl_tree_measure.l0 k (p : Int) (13 - ((d + 1 : Nat) : Int)) (next : Int) last (nd L p).f4 (i : Int) L B (nd L p).f0 (nd L p).f1 (nd L p).f2 (nd L p).f3 (nd L p).f4)
            (oN (mLoop L (nd L p) (mF L d) f next last i B).1, (match (mLoop L (nd L p) (mF L d) f next last i B).1 with | none => (mLoop L (nd L p) (mF L d) f next last i B).2 | some x => (mLoop L (nd L p) (mF L d) f next last i B).2.set p (x : Int))) := by
          intro f
          induction f with
          | zero => intro next i last B h2 h3 _ _ _; omega
          | succ f ihf =>
            intro next i last B h2 h3 h4 hB hlast
            refine Ev.step (fun k => by rw [impl_tree_measure.l0]) ?_
            unfold mLoop
            by_cases h5 : (i : Int) < (nd L p).f4
            · rw [if_pos h5]
              refine Ev.pos h5 ?_
              by_cases h6 : next < L.length
              · rw [if_pos h6]
                refine Ev.neg (by omega) (Ev.pos (by omega) (Ev.pos (by omega) ?_))
                rw [rd_nd]
                have good : partB (nd L p) last (nd L next) = true → Ev (fun k => impl_tree_measure.j3 k (p : Int) (13 - ((d + 1 : Nat) : Int)) (next : Int) (nd L p).f4 (i : Int) false L B (nd L p).f0 (nd L p).f1 (nd L p).f2 (nd L p).f3 (nd L p).f4 (nd L next).f0 (nd L next).f1 (nd L next).f2 (nd L next).f3 (nd L next).f4)
                    (oN (match (mF L d next B).1 with | none => (none, (mF L d next B).2) | some x => mLoop L (nd L p) (mF L d) f x (nd L next).f1 (i + 1) (mF L d next B).2).1, (match (match (mF L d next B).1 with | none => (none, (mF L d next B).2) | some x => mLoop L (nd L p) (mF L d) f x (nd L next).f1 (i + 1) (mF L d next B).2).1 with | none => (match (mF L d next B).1 with | none => (none, (mF L d next B).2) | some x => mLoop L (nd L p) (mF L d) f x (nd L next).f1 (i + 1) (mF L d next B).2).2 | some x => (match (mF L d next B).1 with | none => (none, (mF L d next B).2) | some x => mLoop L (nd L p) (mF L d) f x (nd L next).f1 (i + 1) (mF L d next B).2).2.set p (x : Int))) := by
                  intro hq
                  have hl2 : (nd L p).f0 = 12 → 0 ≤ (nd L next).f1 ∧ (nd L next).f1 ≤ 1000 := fun h12 => by
                    have h14 := hlast h12
                    unfold partB at hq
                    rw [if_neg (show ¬ (nd L p).f0 = 9 by omega), if_pos h12] at hq
                    have h13 := of_decide_eq_true hq
                    omega
                  refine Ev.step (fun k => by rw [impl_tree_measure.j3]) ?_
                  refine Ev.neg (by decide) ?_
                  rw [wrap64_id (x := 13 - ((d + 1 : Nat) : Int) + 1) (by omega) (by omega), show 13 - ((d + 1 : Nat) : Int) + 1 = 13 - (d : Int) by omega]
                  refine Ev.bind (ih next B (by omega) (by omega) hB) ?_
                  have hfst := mF_fst L d next B
                  have hlen := mF_len L d next B
                  cases hx : (mF L d next B).1 with
                  | none => exact Ev.pos (show (-1 : Int) < 0 by decide) (Ev.now _)
                  | some x =>
                    rw [hx] at hfst
                    have hxb := cF_bound L d next x hfst.symm
                    refine Ev.neg (by show ¬ ((x : Nat) : Int) < 0; omega) ?_
                    rw [wrap64_id (x := (i : Int) + 1) (by omega) (by omega)]
                    have := ihf x (i + 1) (nd L next).f1 (mF L d next B).2 hxb.2 (by omega) (by omega) (by rw [hlen]; exact hB) hl2
                    simpa [oN_some] using this
                have badj3 : Ev (fun k => impl_tree_measure.j3 k (p : Int) (13 - ((d + 1 : Nat) : Int)) (next : Int) (nd L p).f4 (i : Int) true L B (nd L p).f0 (nd L p).f1 (nd L p).f2 (nd L p).f3 (nd L p).f4 (nd L next).f0 (nd L next).f1 (nd L next).f2 (nd L next).f3 (nd L next).f4) (-1, B) :=
                  Ev.step (fun k => by rw [impl_tree_measure.j3]) (by exact Ev.pos rfl (Ev.now _))
                have badj2 : Ev (fun k => impl_tree_measure.j2 k (p : Int) (13 - ((d + 1 : Nat) : Int)) (next : Int) last (nd L p).f4 (i : Int) true L B (nd L p).f0 (nd L p).f1 (nd L p).f2 (nd L p).f3 (nd L p).f4 (nd L next).f0 (nd L next).f1 (nd L next).f2 (nd L next).f3 (nd L next).f4) (-1, B) :=
                  Ev.step (fun k => by rw [impl_tree_measure.j2]) (by exact Ev.pos rfl (Ev.now _))
                cases hq : partB (nd L p) last (nd L next) with
                | false =>
                  rw [if_neg (by decide)]
                  show Ev _ (-1, B)
                  unfold partB at hq
                  by_cases h9 : (nd L p).f0 = 9
                  · rw [if_pos h9] at hq
                    refine Ev.pos h9 ?_
                    by_cases h10 : (nd L next).f0 = (nd L p).f2
                    · refine Ev.pos h10 ?_
                      rw [decide_eq_true h10, Bool.true_and] at hq
                      have h11 := of_decide_eq_false hq
                      rw [show ((nd L next).f1 != 0) = true from by simpa using h11]
                      exact badj2
                    · exact Ev.neg h10 badj2
                  · rw [if_neg h9] at hq
                    refine Ev.neg h9 ?_
                    by_cases h12 : (nd L p).f0 = 12
                    · rw [if_pos h12] at hq
                      have h13 := of_decide_eq_false hq
                      have h14 := hlast h12
                      refine Ev.step (fun k => by rw [impl_tree_measure.j2]) ?_
                      refine Ev.neg (by decide) (Ev.pos h12 (Ev.here (within_some _ _ _) ?_))
                      rw [wrap64_id (x := last + 1) (by omega) (by omega), decide_eq_false (by omega)]
                      exact badj3
                    · rw [if_neg h12] at hq; cases hq
                | true =>
                  rw [if_pos rfl]
                  have gd := good hq
                  unfold partB at hq
                  by_cases h9 : (nd L p).f0 = 9
                  · rw [if_pos h9] at hq
                    simp only [Bool.and_eq_true, decide_eq_true_eq] at hq
                    refine Ev.pos h9 (Ev.pos hq.1 ?_)
                    rw [show ((nd L next).f1 != 0) = false from by simpa using hq.2]
                    refine Ev.step (fun k => by rw [impl_tree_measure.j2]) ?_
                    exact Ev.neg (by decide) (Ev.neg (by omega) gd)
                  · rw [if_neg h9] at hq
                    refine Ev.neg h9 ?_
                    refine Ev.step (fun k => by rw [impl_tree_measure.j2]) ?_
                    refine Ev.neg (by decide) ?_
                    by_cases h12 : (nd L p).f0 = 12
                    · rw [if_pos h12] at hq
                      have h13 := of_decide_eq_true hq
                      have h14 := hlast h12
                      refine Ev.pos h12 (Ev.here (within_some _ _ _) ?_)
                      rw [wrap64_id (x := last + 1) (by omega) (by omega), decide_eq_true (show last + 1 ≤ (nd L next).f1 ∧ (nd L next).f1 ≤ 1000 by omega)]
                      exact gd
                    · exact Ev.neg h12 gd
              · rw [if_neg h6]
                exact Ev.pos (by omega) (Ev.now _)
            · rw [if_neg h5]
              exact Ev.neg h5 (Ev.pos (by omega) (Ev.pos (by omega) (Ev.const (by simp [oN]))))
        refine Ev.step (fun k => by rw [impl_tree_measure.j0]) ?_
        refine Ev.neg (by decide) (Ev.pos (by omega) (Ev.pos (by omega) ?_))
        rw [wrap64_id (x := (p : Int) + 1) (by omega) (by omega), rd_nd]
        have := loop (L.length + 1 - p) (p + 1) 0 0 A (by omega) (by omega) (by omega) hA (fun _ => by omega)
        cases hm : (mLoop L (nd L p) (mF L d) (L.length + 1 - p) (p + 1) 0 0 A).1 with
        | none => rw [hm] at this; simpa [hm] using this
        | some x => rw [hm] at this; simpa [hm] using this
    · rw [if_neg h1]
      exact Ev.pos (by omega) bad
theorem spec_after_ev (L : List S57) (hL : L.length ≤ 1500) : ∀ d p v : Nat, cF L d p = some v → Ev (fun k => spec_l4After.f k L (p : Int)) (v : Int) := by
  intro d
  induction d with
  | zero => intro p v h; simp [cF] at h
  | succ d ih =>
    intro p v h
    unfold cF at h
    by_cases h1 : p < L.length
    · rw [if_pos h1] at h
      by_cases h2 : plainB (nd L p) = true
      · rw [if_pos h2] at h
        have loop : ∀ f next i : Nat, ∀ last : Int, next ≤ L.length → i + 1 ≤ next → cLoop L (nd L p) (cF L d) f next last i = some v → Ev (fun k => spec_l4After.l0 k L (p : Int) (next : Int) (i : Int)) (v : Int) := by
          intro f
          induction f with
          | zero => intro next i last _ _ h; simp [cLoop] at h
          | succ f ihf =>
            intro next i last h3 h4 h
            refine Ev.step (fun k => by rw [spec_l4After.l0]) ?_
            rw [rd_nd]
            refine Ev.pos (by omega) (Ev.pos (by omega) ?_)
            unfold cLoop at h
            by_cases h5 : (i : Int) < (nd L p).f4
            · rw [if_pos h5] at h
              refine Ev.pos h5 ?_
              by_cases h6 : next < L.length
              · rw [if_pos h6] at h
                by_cases h7 : partB (nd L p) last (nd L next) = true
                · rw [if_pos h7] at h
                  cases hx : cF L d next with
                  | none => rw [hx] at h; cases h
                  | some x =>
                    rw [hx] at h
                    have hb := cF_bound L d next x hx
                    refine Ev.bind (ih next x hx) ?_
                    rw [wrap64_id (x := (i : Int) + 1) (by omega) (by omega)]
                    have := ihf x (i + 1) (nd L next).f1 hb.2 (by omega) h
                    simpa using this
                · rw [if_neg h7] at h; cases h
              · rw [if_neg h6] at h; cases h
            · rw [if_neg h5] at h
              injection h with h
              subst h
              exact Ev.neg h5 (Ev.now _)
        refine Ev.step (fun k => by rw [spec_l4After.f]) ?_
        rw [wrap64_id (x := (p : Int) + 1) (by omega) (by omega)]
        have := loop (L.length + 1 - p) (p + 1) 0 0 (by omega) (by omega) h
        simpa using this
      · rw [if_neg h2] at h; cases h
    · rw [if_neg h1] at h; cases h
/-- What is noted of every place. -/
def AllNoted (L : List S57) (A : List Int) : Prop := A.length = L.length ∧ ∀ q, q < L.length → ∃ (x : Nat) (e : Nat), A[q]? = some (x : Int) ∧ cF L e q = some x
theorem find_loop (L : List S57) (hL : L.length ≤ 1500) (A : List Int) (hA : AllNoted L A) (d p : Nat) (hp : p < L.length) (id : Int) (v : Nat) : ∀ f next i : Nat, ∀ last : Int, next ≤ L.length → i + 1 ≤ next → cLoop L (nd L p) (cF L d) f next last i = some v →
    ∃ r : Option Nat, (∀ q, r = some q → q < L.length) ∧ Ev (fun k => spec_l4Find.l0 k L (p : Int) id (next : Int) (i : Int)) (oN r) ∧ Ev (fun k => impl_tree_find.l0 k id (next : Int) (nd L p).f4 (i : Int) L A) (oN r) := by
  intro f
  induction f with
  | zero => intro next i last _ _ h; simp [cLoop] at h
  | succ f ihf =>
    intro next i last h3 h4 h
    unfold cLoop at h
    by_cases h5 : (i : Int) < (nd L p).f4
    · rw [if_pos h5] at h
      by_cases h6 : next < L.length
      · rw [if_pos h6] at h
        by_cases h7 : partB (nd L p) last (nd L next) = true
        · rw [if_pos h7] at h
          cases hx : cF L d next with
          | none => rw [hx] at h; cases h
          | some x =>
            rw [hx] at h
            have hb := cF_bound L d next x hx
            by_cases h8 : (nd L next).f1 = id
            · refine ⟨some next, (fun q hq => by injection hq with hq; omega), ?_, ?_⟩
              · refine Ev.step (fun k => by rw [spec_l4Find.l0]) ?_
                rw [rd_nd, rd_nd]
                exact Ev.pos (by omega) (Ev.pos (by omega) (Ev.pos h5 (Ev.pos (by omega) (Ev.pos (by omega) (Ev.pos h8 (Ev.now _))))))
              · refine Ev.step (fun k => by rw [impl_tree_find.l0]) ?_
                rw [rd_nd]
                exact Ev.pos h5 (Ev.pos (by omega) (Ev.pos (by omega) (Ev.pos h8 (Ev.now _))))
            · obtain ⟨r, hr, hs, hi⟩ := ihf x (i + 1) (nd L next).f1 hb.2 (by omega) h
              refine ⟨r, hr, ?_, ?_⟩
              · refine Ev.step (fun k => by rw [spec_l4Find.l0]) ?_
                rw [rd_nd, rd_nd]
                refine Ev.pos (by omega) (Ev.pos (by omega) (Ev.pos h5 (Ev.pos (by omega) (Ev.pos (by omega) (Ev.neg h8 (Ev.bind (spec_after_ev L hL d next x hx) ?_))))))
                rw [wrap64_id (x := (i : Int) + 1) (by omega) (by omega)]
                simpa using hs
              · obtain ⟨y, e, ha, hy⟩ := hA.2 next h6
                obtain rfl := cF_det L hx hy
                refine Ev.step (fun k => by rw [impl_tree_find.l0]) ?_
                rw [rd_nd]
                have e2 : rd A (next : Int) = (x : Int) := by
                  unfold rd
                  rw [Int.toNat_natCast, List.getD_eq_getElem?_getD, ha]; rfl
                have hl := hA.1
                refine Ev.pos h5 (Ev.pos (by omega) (Ev.pos (by omega) (Ev.neg h8 (Ev.pos (by omega) ?_))))
                rw [e2, wrap64_id (x := (i : Int) + 1) (by omega) (by omega)]
                simpa using hi
        · rw [if_neg h7] at h; cases h
      · rw [if_neg h6] at h; cases h
    · refine ⟨none, (fun q hq => by cases hq), ?_, ?_⟩
      · refine Ev.step (fun k => by rw [spec_l4Find.l0]) ?_
        rw [rd_nd]
        exact Ev.pos (by omega) (Ev.pos (by omega) (Ev.neg h5 (Ev.now _)))
      · exact Ev.step (fun k => by rw [impl_tree_find.l0]) (by exact Ev.neg h5 (Ev.now _))
theorem find_both (L : List S57) (hL : L.length ≤ 1500) (A : List Int) (hA : AllNoted L A) (p : Nat) (hp : p < L.length) (id : Int) :
    ∃ r : Option Nat, (∀ q, r = some q → q < L.length) ∧ Ev (fun k => spec_l4Find.f k L (p : Int) id) (oN r) ∧ Ev (fun k => impl_tree_find.f k L A (p : Int) id) (oN r) := by
  have win : impl_within.f (p : Int) 0 (wrap64 ((L.length : Int) - 1)) = some true := by
    rw [within_some, wrap64_id (by omega) (by omega), decide_eq_true (by omega)]
  by_cases h0 : (nd L p).f0 = 12
  · obtain ⟨x, e, _, hx⟩ := hA.2 p hp
    cases e with
    | zero => simp [cF] at hx
    | succ d =>
      unfold cF at hx
      rw [if_pos hp] at hx
      by_cases h2 : plainB (nd L p) = true
      · rw [if_pos h2] at hx
        obtain ⟨r, hr, hs, hi⟩ := find_loop L hL A hA d p hp id x (L.length + 1 - p) (p + 1) 0 0 (by omega) (by omega) hx
        refine ⟨r, hr, ?_, ?_⟩
        · unfold spec_l4Find.f
          rw [rd_nd, wrap64_id (x := (p : Int) + 1) (by omega) (by omega)]
          refine Ev.pos (by omega) (Ev.pos (by omega) (Ev.pos h0 ?_))
          simpa using hs
        · unfold impl_tree_find.f
          refine Ev.here win (Ev.pos rfl (Ev.pos (by omega) (Ev.pos (by omega) ?_)))
          refine Ev.step (fun k => by rw [impl_tree_find.j0]) ?_
          rw [rd_nd, wrap64_id (x := (p : Int) + 1) (by omega) (by omega)]
          refine Ev.neg (by simp [h0]) (Ev.pos (by omega) (Ev.pos (by omega) ?_))
          simpa using hi
      · rw [if_neg h2] at hx; cases hx
  · refine ⟨none, (fun q hq => by cases hq), ?_, ?_⟩
    · unfold spec_l4Find.f
      rw [rd_nd]
      exact Ev.pos (by omega) (Ev.pos (by omega) (Ev.neg h0 (Ev.now _)))
    · unfold impl_tree_find.f
      refine Ev.here win (Ev.pos rfl (Ev.pos (by omega) (Ev.pos (by omega) ?_)))
      refine Ev.step (fun k => by rw [impl_tree_find.j0]) ?_
      rw [rd_nd]
      exact Ev.pos (by simp [h0]) (Ev.now _)
def treeB (L : List S57) : Bool := decide (1 ≤ (L.length : Int) ∧ (L.length : Int) ≤ 1500) && (decide ((rd_T57 L 0).f0 = 12) && (decide ((rd_T57 L 0).f1 = 0) && decide (oN (cF L 12 0) = (L.length : Int))))
theorem treeB_len {L : List S57} (h : treeB L = true) : 1 ≤ L.length ∧ L.length ≤ 1500 := by
  unfold treeB at h
  simp only [Bool.and_eq_true, decide_eq_true_eq] at h
  omega
theorem treeB_cF {L : List S57} (h : treeB L = true) : cF L 12 0 = some L.length := by
  have hl := treeB_len h
  unfold treeB at h
  simp only [Bool.and_eq_true, decide_eq_true_eq] at h
  have h4 := h.2.2.2
  cases hx : cF L 12 0 with
  | none => rw [hx] at h4; have : (-1 : Int) = (L.length : Int) := h4; omega
  | some v => rw [hx] at h4; have : (v : Int) = (L.length : Int) := h4; rw [show v = L.length by omega]
theorem spec_TreeOk_ev (L : List S57) : Ev (fun k => spec_TreeOk.f k L) (treeB L) := by
  unfold spec_TreeOk.f treeB
  refine Ev.here (l1In_some _ _ _) ?_
  by_cases h1 : 1 ≤ (L.length : Int) ∧ (L.length : Int) ≤ 1500
  · rw [decide_eq_true h1]
    refine Ev.pos rfl (Ev.pos (by omega) ?_)
    by_cases h2 : (rd_T57 L 0).f0 = 12
    · rw [decide_eq_true h2]
      refine Ev.pos h2 ?_
      by_cases h3 : (rd_T57 L 0).f1 = 0
      · rw [decide_eq_true h3]
        have := spec_check_ev L (by omega) 12 0 (by omega) (by omega)
        refine Ev.pos h3 (Ev.bind (by simpa using this) (Ev.cast (Ev.now _) ?_))
        by_cases h4 : oN (cF L 12 0) = (L.length : Int) <;> simp [h4]
      · rw [decide_eq_false h3]; exact Ev.neg h3 (Ev.now _)
    · rw [decide_eq_false h2]; exact Ev.neg h2 (Ev.now _)
  · rw [decide_eq_false h1]; exact Ev.neg (by decide) (Ev.now _)
/-- The places behind the nodes of a right list. -/
def afterR (L : List S57) : List Int := (mF L 12 0 (List.replicate L.length 0)).2
theorem impl_treeOf_ev (L : List S57) : Ev (fun k => impl_treeOf.f k L) (if treeB L = true then (afterR L, true) else ([], false)) := by
  unfold impl_treeOf.f treeB
  refine Ev.here (within_some _ _ _) ?_
  by_cases h1 : 1 ≤ (L.length : Int) ∧ (L.length : Int) ≤ 1500
  · rw [decide_eq_true h1]
    refine Ev.pos rfl ?_
    by_cases h2 : (rd_T57 L 0).f0 = 12
    · rw [decide_eq_true h2]
      refine Ev.pos h2 ?_
      by_cases h3 : (rd_T57 L 0).f1 = 0
      · rw [decide_eq_true h3]
        have := impl_measure_ev L (by omega) 12 0 (List.replicate L.length 0) (by omega) (by omega) (by simp)
        refine Ev.pos h3 (Ev.bind (by simpa using this) ?_)
        rw [mF_fst]
        by_cases h4 : oN (cF L 12 0) = (L.length : Int)
        · rw [decide_eq_true h4]; exact Ev.pos h4 (Ev.now _)
        · rw [decide_eq_false h4]; exact Ev.neg h4 (Ev.now _)
      · rw [decide_eq_false h3]; exact Ev.neg h3 (Ev.now _)
    · rw [decide_eq_false h2]; exact Ev.neg h2 (Ev.now _)
  · rw [decide_eq_false h1]; exact Ev.neg (by decide) (Ev.now _)
theorem afterR_noted {L : List S57} (h : treeB L = true) : AllNoted L (afterR L) := by
  have hl := treeB_len h
  have hn := mF_noted L 12 0 (List.replicate L.length 0) L.length (by omega) (by simp) (treeB_cF h)
  exact ⟨by unfold afterR; rw [mF_len]; simp, fun q hq => hn.2 q (by omega) hq⟩
def numR (L : List S57) (r : Option Nat) : Int × Bool := match r with
  | none => (0, false)
  | some q => if (nd L q).f0 = 5 ∨ (nd L q).f0 = 6 then ((nd L q).f2, true) else (0, false)
theorem num_both (L : List S57) (hL : L.length ≤ 1500) (A : List Int) (hA : AllNoted L A) (p : Nat) (hp : p < L.length) (id : Int) :
    ∃ r : Option Nat, Ev (fun k => spec_l4Find.f k L (p : Int) id) (oN r) ∧ Ev (fun k => spec_l4NumOf.f k L (p : Int) id) (numR L r) ∧ Ev (fun k => impl_tree_num.f k L A (p : Int) id) (numR L r) := by
  obtain ⟨r, hr, hs, hi⟩ := find_both L hL A hA p hp id
  refine ⟨r, hs, ?_, ?_⟩
  · unfold spec_l4NumOf.f
    refine Ev.bind hs ?_
    cases r with
    | none => exact Ev.pos (by decide) (Ev.now _)
    | some q =>
      have hq := hr q rfl
      have e : oN (some q) = (q : Int) := rfl
      rw [e, rd_nd]
      refine Ev.neg (by omega) (Ev.pos (by omega) (Ev.pos (by omega) ?_))
      by_cases h5 : (nd L q).f0 = 5
      · exact Ev.pos h5 (Ev.const (by simp [numR, h5]))
      by_cases h6 : (nd L q).f0 = 6
      · exact Ev.neg h5 (Ev.pos h6 (Ev.const (by simp [numR, h6])))
      · exact Ev.neg h5 (Ev.neg h6 (Ev.const (by simp [numR, h5, h6])))
  · unfold impl_tree_num.f
    refine Ev.bind hi ?_
    cases r with
    | none => exact Ev.pos (by decide) (Ev.now _)
    | some q =>
      have hq := hr q rfl
      have e : oN (some q) = (q : Int) := rfl
      rw [e, rd_nd]
      refine Ev.neg (by omega) (Ev.pos (by omega) (Ev.pos (by omega) ?_))
      by_cases h5 : (nd L q).f0 = 5
      · exact Ev.pos h5 (Ev.const (by simp [numR, h5]))
      by_cases h6 : (nd L q).f0 = 6
      · exact Ev.neg h5 (Ev.pos h6 (Ev.const (by simp [numR, h6])))
      · exact Ev.neg h5 (Ev.neg h6 (Ev.const (by simp [numR, h5, h6])))
theorem ba_inj {a b : ByteArray} (h : a.toList = b.toList) : a = b := by
  rw [ByteArray.toList_eq, ByteArray.toList_eq] at h
  cases a; cases b; simpa using h
/-! ### One value read from plain bytes -/
theorem bit_spec : ∀ n : Fin 256, Go.bits .or .i64 0 (shl .i64 (Go.bits .and .i64 (shr .i64 (wrap64 (n.val : Int)) 0) 1) 0) = ((n.val % 2 : Nat) : Int) := by decide +kernel
theorem bit_impl : ∀ n : Fin 256, Go.bits .or .i64 0 (shl .i64 (wrap64 (Go.bits .and .u8 (shr .u8 (n.val : Int) 0) 1)) 0) = ((n.val % 2 : Nat) : Int) := by decide +kernel
theorem idx0 : (wrap64 ((wrap64 ((wrap64 (8 * 0)) + (wrap64 (0 * 1)))) + 0) : Int) = 0 := by decide +kernel
theorem div0 : wrap64 (Int.tdiv 0 8) = 0 := by decide +kernel
theorem mod0 : Int.tmod 0 8 = 0 := by decide +kernel
theorem byte_fin {x : Int} (h0 : 0 ≤ x) (h1 : x ≤ 255) : ∃ n : Fin 256, x = (n.val : Int) := ⟨⟨x.toNat, by omega⟩, by simp; omega⟩
theorem spec_BitsRead1 (b : List Int) (hb : ∀ x ∈ b, 0 ≤ x ∧ x ≤ 255) (hl : b.length ≤ 1048576) : Ev (fun k => spec_BitsRead.f k b 0 1 1) (if 1 ≤ b.length then ([rd b 0 % 2], 1, true) else ([], 0, false)) := by
  unfold spec_BitsRead.f
  have hs := bitsSize_spec 1 (by omega)
  refine Ev.here rfl (Ev.here hs (Ev.neg (by first | decide | (unfold wrap64; omega)) (Ev.here (l1In_some _ _ _) ?_)))
  rw [decide_eq_true (by omega)]
  refine Ev.pos rfl ?_
  rw [wrap64_id (x := (b.length : Int) - 0) (by omega) (by omega)]
  by_cases h : 1 ≤ b.length
  · rw [if_pos h, decide_eq_false (by omega)]
    have hr := rd_byte b hb 0
    obtain ⟨n, hn⟩ := byte_fin hr.1 hr.2
    refine Ev.step (fun k => by rw [spec_BitsRead.j0]) (Ev.neg (by first | decide | (unfold wrap64; omega)) ?_)
    refine Ev.step (fun k => by rw [spec_BitsRead.l0]) (Ev.pos (by decide) ?_)
    refine Ev.step (fun k => by rw [spec_BitsRead.l1]) (Ev.pos (by decide) ?_)
    rw [idx0]
    refine Ev.here (a := Go.bits .and .i64 (shr .i64 (wrap64 (rd b 0)) 0) 1) ?_ (Ev.pos (by decide) ?_)
    · unfold spec_l1Bit.f
      rw [div0, mod0, if_pos (by omega), if_pos (by omega), if_pos (by omega)]
    rw [hn, bit_spec n]
    refine Ev.step (fun k => by rw [spec_BitsRead.l1]) (Ev.neg (by first | decide | (unfold wrap64; omega)) (Ev.pos (by simp) ?_))
    refine Ev.step (fun k => by rw [spec_BitsRead.l0]) (Ev.neg (by first | decide | (unfold wrap64; omega)) (Ev.const ?_))
    simp [wrap64]
  · rw [if_neg h, decide_eq_true (by omega)]
    exact Ev.step (fun k => by rw [spec_BitsRead.j0]) (Ev.pos rfl (Ev.now _))
theorem impl_BitsRead1 (b : List Int) (hb : ∀ x ∈ b, 0 ≤ x ∧ x ≤ 255) (hl : b.length ≤ 1048576) : Ev (fun k => impl_BitsRead.f k b 0 1 1) (if 1 ≤ b.length then ([rd b 0 % 2], 1, true) else ([], 0, false)) := by
  unfold impl_BitsRead.f
  have hs := bitsSize_impl 1 (by omega)
  refine Ev.here hs (Ev.neg (by first | decide | (unfold wrap64; omega)) (Ev.here (within_some _ _ _) ?_))
  rw [decide_eq_true (by omega)]
  refine Ev.pos rfl ?_
  rw [wrap64_id (x := (b.length : Int) - 0) (by omega) (by omega)]
  by_cases h : 1 ≤ b.length
  · rw [if_pos h]
    have hr := rd_byte b hb 0
    obtain ⟨n, hn⟩ := byte_fin hr.1 hr.2
    refine Ev.neg (by omega) (Ev.bind (a := [rd b 0 % 2]) ?_ (Ev.const (by simp [wrap64])))
    unfold impl_unpacked.f
    refine Ev.step (fun k => by rw [impl_unpacked.l0]) (Ev.pos (by decide) ?_)
    refine Ev.step (fun k => by rw [impl_unpacked.l1]) (Ev.pos (by decide) ?_)
    rw [idx0]
    refine Ev.here (a := wrap64 (Go.bits .and .u8 (shr .u8 (rd b 0) 0) 1)) ?_ (Ev.pos (by decide) ?_)
    · unfold impl_BitAt.f
      rw [div0, mod0, if_neg (by omega), if_neg (by omega), if_pos (by omega), if_pos (by omega), if_pos (by omega)]
    rw [hn, bit_impl n]
    refine Ev.step (fun k => by rw [impl_unpacked.l1]) (Ev.neg (by first | decide | (unfold wrap64; omega)) (Ev.pos (by simp) ?_))
    refine Ev.step (fun k => by rw [impl_unpacked.l0]) (Ev.neg (by first | decide | (unfold wrap64; omega)) (Ev.const ?_))
    simp [wrap64]
  · rw [if_neg h]
    exact Ev.pos (by omega) (Ev.now _)
/-- How many bytes a value takes. -/
def wdt (t : Int) : Nat := if t = 0 then 1 else if t = 1 then 4 else 8
def pr1 (t : Int) (b : List Int) : S27 := ⟨if t = 0 then rd b 0 % 2 else if t = 1 then wrap64 (wrap32 (wordV b 0 4)) else wordV b 0 8, ⟨#[]⟩⟩
def prR (t : Int) (b : List Int) : List S27 × Int × Bool := if wdt t ≤ b.length then ([pr1 t b], (wdt t : Int), true) else ([], 0, false)
theorem spec_PlainRead1 (t : Int) (ht : tOk t = true) (h6 : t ≠ 6) (b : List Int) (hb : ∀ x ∈ b, 0 ≤ x ∧ x ≤ 255) (hl : b.length ≤ 1048576) : Ev (fun k => spec_PlainRead.f k t b 0 1) (prR t b) := by
  unfold spec_PlainRead.f prR wdt pr1
  refine Ev.here rfl (Ev.here (l5Type_some t) (Ev.pos ht (Ev.here (l1In_some _ _ _) ?_)))
  rw [decide_eq_true (by omega)]
  refine Ev.pos rfl (Ev.here (l1In_some _ _ _) ?_)
  rw [decide_eq_true (by omega)]
  refine Ev.step (fun k => by rw [spec_PlainRead.j0]) (Ev.neg (by first | decide | (unfold wrap64; omega)) ?_)
  by_cases h0 : t = 0
  · rw [if_pos h0, if_pos h0]
    refine Ev.pos h0 (Ev.bind (spec_BitsRead1 b hb hl) ?_)
    by_cases h : 1 ≤ b.length
    · rw [if_pos h, if_pos h]
      refine Ev.step (fun k => by rw [spec_PlainRead.l0]) (Ev.pos (by simp) (Ev.pos (by decide) (Ev.pos (by simp) ?_)))
      refine Ev.step (fun k => by rw [spec_PlainRead.l0]) ?_
      exact Ev.neg (by first | decide | (unfold wrap64; omega) | simp [wrap64] | (simp; unfold wrap64; omega)) (Ev.const (by simp [wrap64, rd]))
    · rw [if_neg h, if_neg h]
      refine Ev.step (fun k => by rw [spec_PlainRead.l0]) ?_
      exact Ev.neg (by first | decide | (unfold wrap64; omega) | simp [wrap64] | (simp; unfold wrap64; omega)) (Ev.const (by simp [wrap64, rd]))
  rw [if_neg h0, if_neg h0]
  refine Ev.neg h0 (Ev.step (fun k => by rw [spec_PlainRead.l1]) (Ev.pos (by decide) ?_))
  unfold spec_l7One.f
  by_cases h1 : t = 1
  · rw [if_pos h1, if_pos h1]
    have hw := (WordGet_both b hl 0 (by omega) (by omega) 4 (by omega) (by omega)).1
    have hr := wordV_range b hb 0 4 (by omega)
    by_cases h : 4 ≤ b.length
    · rw [if_pos ⟨by omega, by omega⟩] at hw
      rw [if_pos h]
      have e : (if wordV b 0 4 > 2147483647 then wrap64 (wordV b 0 4 - 4294967296) else wordV b 0 4) = wrap64 (wrap32 (wordV b 0 4)) := by
        have h3 : (2 : Int) ^ (8 * 4) = 4294967296 := rfl
        split <;> (unfold wrap64 wrap32; omega)
      have one2 : Ev (fun k => ((spec_WordGet.f k b 0 4).bind fun bt154 => (if bt154.1 > 2147483647 then (some (wrap64 (bt154.1 - 4294967296), (⟨#[]⟩ : ByteArray), bt154.2.1, bt154.2.2)) else (some (bt154.1, (⟨#[]⟩ : ByteArray), bt154.2.1, bt154.2.2))))) (wrap64 (wrap32 (wordV b 0 4)), (⟨#[]⟩ : ByteArray), (4 : Int), true) := by
        refine Ev.bind hw ?_
        rw [← e]
        by_cases hg : wordV b 0 4 > 2147483647
        · exact Ev.pos hg (Ev.const (by simp [hg]))
        · exact Ev.neg hg (Ev.const (by simp [hg]))
      refine Ev.bind (Ev.pos h1 one2) (Ev.pos rfl (Ev.pos (by simp) ?_))
      refine Ev.step (fun k => by rw [spec_PlainRead.l1]) ?_
      exact Ev.neg (by first | decide | (unfold wrap64; omega) | simp [wrap64] | (simp; unfold wrap64; omega)) (Ev.const (by simp [wrap64, rd]))
    · rw [if_neg (by omega)] at hw
      rw [if_neg h]
      exact Ev.bind (a := (0, (⟨#[]⟩ : ByteArray), 0, false)) (Ev.pos h1 (Ev.bind hw (Ev.neg (by first | decide | (unfold wrap64; omega)) (Ev.now _)))) (Ev.neg (by first | decide | (unfold wrap64; omega)) (Ev.now _))
  · rw [if_neg h1, if_neg h1]
    have hw := (WordGet_both b hl 0 (by omega) (by omega) 8 (by omega) (by omega)).1
    by_cases h : 8 ≤ b.length
    · rw [if_pos ⟨by omega, by omega⟩] at hw
      rw [if_pos h]
      refine Ev.bind (a := (wordV b 0 8, (⟨#[]⟩ : ByteArray), (8 : Int), true)) (Ev.neg h1 (Ev.neg h6 (Ev.bind hw (Ev.now _)))) (Ev.pos rfl (Ev.pos (by simp) ?_))
      refine Ev.step (fun k => by rw [spec_PlainRead.l1]) ?_
      exact Ev.neg (by first | decide | (unfold wrap64; omega) | simp [wrap64] | (simp; unfold wrap64; omega)) (Ev.const (by simp [wrap64, rd]))
    · rw [if_neg (by omega)] at hw
      rw [if_neg h]
      exact Ev.bind (a := (0, (⟨#[]⟩ : ByteArray), 0, false)) (Ev.neg h1 (Ev.neg h6 (Ev.bind hw (Ev.now _)))) (Ev.neg (by first | decide | (unfold wrap64; omega)) (Ev.now _))
theorem impl_PlainRead1 (t : Int) (ht : tOk t = true) (h6 : t ≠ 6) (b : List Int) (hb : ∀ x ∈ b, 0 ≤ x ∧ x ≤ 255) (hl : b.length ≤ 1048576) : Ev (fun k => impl_PlainRead.f k t b 0 1) (prR t b) := by
  unfold impl_PlainRead.f prR wdt pr1
  refine Ev.here (typeOk_some t) (Ev.pos ht (Ev.here (within_some _ _ _) ?_))
  rw [decide_eq_true (by omega)]
  refine Ev.pos rfl (Ev.here (within_some _ _ _) ?_)
  rw [decide_eq_true (by omega)]
  refine Ev.step (fun k => by rw [impl_PlainRead.j0]) (Ev.neg (by first | decide | (unfold wrap64; omega)) ?_)
  by_cases h0 : t = 0
  · rw [if_pos h0, if_pos h0]
    refine Ev.pos h0 (Ev.bind (impl_BitsRead1 b hb hl) ?_)
    by_cases h : 1 ≤ b.length
    · rw [if_pos h, if_pos h]
      refine Ev.bind (a := [(⟨rd b 0 % 2, ⟨#[]⟩⟩ : S27)]) ?_ (Ev.now _)
      unfold impl_valsOf.f
      refine Ev.step (fun k => by rw [impl_valsOf.l0]) (Ev.pos (by simp) (Ev.pos (by decide) (Ev.pos (by simp) (Ev.pos (by simp) ?_))))
      refine Ev.step (fun k => by rw [impl_valsOf.l0]) ?_
      exact Ev.neg (by first | decide | (unfold wrap64; omega) | simp [wrap64] | (simp; unfold wrap64; omega)) (Ev.const (by simp [wrap64, rd]))
    · rw [if_neg h, if_neg h]
      refine Ev.bind (a := ([] : List S27)) ?_ (Ev.now _)
      unfold impl_valsOf.f
      refine Ev.step (fun k => by rw [impl_valsOf.l0]) ?_
      exact Ev.neg (by first | decide | (unfold wrap64; omega) | simp [wrap64] | (simp; unfold wrap64; omega)) (Ev.const (by simp [wrap64, rd]))
  rw [if_neg h0, if_neg h0]
  refine Ev.neg h0 (Ev.step (fun k => by rw [impl_PlainRead.l0]) (Ev.pos (by decide) ?_))
  unfold impl_plainOne.f
  by_cases h1 : t = 1
  · subst h1
    rw [if_pos rfl, if_pos rfl]
    have hw := (WordGet_both b hl 0 (by omega) (by omega) 4 (by omega) (by omega)).2
    by_cases h : 4 ≤ b.length
    · rw [if_pos ⟨by omega, by omega⟩] at hw
      rw [if_pos h]
      refine Ev.bind (a := (wrap64 (wrap32 (wordV b 0 4)), (⟨#[]⟩ : ByteArray), (4 : Int), true)) (Ev.neg (by first | decide | (unfold wrap64; omega)) (Ev.here (a := 4) rfl (Ev.bind hw (Ev.here (a := 4) rfl (Ev.here (a := wrap64 (wrap32 (wordV b 0 4))) rfl (Ev.now _)))))) (Ev.pos rfl (Ev.pos (by simp) ?_))
      refine Ev.step (fun k => by rw [impl_PlainRead.l0]) ?_
      exact Ev.neg (by first | decide | (unfold wrap64; omega) | simp [wrap64] | (simp; unfold wrap64; omega)) (Ev.const (by simp [wrap64, rd]))
    · rw [if_neg (by omega)] at hw
      rw [if_neg h]
      exact Ev.bind (a := (wrap64 (wrap32 0), (⟨#[]⟩ : ByteArray), 0, false)) (Ev.neg (by first | decide | (unfold wrap64; omega)) (Ev.here (a := 4) rfl (Ev.bind hw (Ev.here (a := 4) rfl (Ev.here (a := wrap64 (wrap32 0)) rfl (Ev.now _)))))) (Ev.neg (by first | decide | (unfold wrap64; omega)) (Ev.now _))
  · rw [if_neg h1, if_neg h1]
    have hwide : impl_wideOf.f t = some 8 := by
      have ht' : t = 0 ∨ t = 1 ∨ t = 2 ∨ t = 5 ∨ t = 6 := of_decide_eq_true ht
      unfold impl_wideOf.f
      rw [if_neg h1]
      by_cases h2 : t = 2
      · rw [if_pos h2]
      · rw [if_neg h2, if_pos (by omega)]
    have hsig : ∀ x : Int, impl_signed.f x 8 = some x := fun x => by unfold impl_signed.f; rw [if_neg (by decide)]
    have hw := (WordGet_both b hl 0 (by omega) (by omega) 8 (by omega) (by omega)).2
    by_cases h : 8 ≤ b.length
    · rw [if_pos ⟨by omega, by omega⟩] at hw
      rw [if_pos h]
      refine Ev.bind (a := (wordV b 0 8, (⟨#[]⟩ : ByteArray), (8 : Int), true)) (Ev.neg h6 (Ev.here hwide (Ev.bind hw (Ev.here hwide (Ev.here (hsig _) (Ev.now _)))))) (Ev.pos rfl (Ev.pos (by simp) ?_))
      refine Ev.step (fun k => by rw [impl_PlainRead.l0]) ?_
      exact Ev.neg (by first | decide | (unfold wrap64; omega) | simp [wrap64] | (simp; unfold wrap64; omega)) (Ev.const (by simp [wrap64, rd]))
    · rw [if_neg (by omega)] at hw
      rw [if_neg h]
      exact Ev.bind (a := (0, (⟨#[]⟩ : ByteArray), 0, false)) (Ev.neg h6 (Ev.here hwide (Ev.bind hw (Ev.here hwide (Ev.here (hsig _) (Ev.now _)))))) (Ev.neg (by first | decide | (unfold wrap64; omega)) (Ev.now _))
/-! ### The statistics of a tree -/
theorem strOfNums_size' (l : List Int) : (strOfNums l).size = l.length := strOfNums_size l
theorem noText_nil : noText (⟨#[]⟩ : ByteArray) = true := by unfold noText; rw [ByteArray.toList_eq]; rfl
theorem pr1_ok (t : Int) (ht : tOk t = true) (h6 : t ≠ 6) (b : List Int) (hb : ∀ x ∈ b, 0 ≤ x ∧ x ≤ 255) : vOk t (pr1 t b) = true := by
  have ht' : t = 0 ∨ t = 1 ∨ t = 2 ∨ t = 5 ∨ t = 6 := of_decide_eq_true ht
  unfold vOk pr1
  by_cases h0 : t = 0
  · have := rd_byte b hb 0
    rw [if_pos h0]; dsimp only
    rw [if_pos h0, noText_nil, decide_eq_true (by omega)]; rfl
  rw [if_neg h0]
  by_cases h1 : t = 1
  · rw [if_pos h1]; dsimp only
    rw [if_neg h0, if_pos h1, noText_nil, decide_eq_true (by unfold wrap64 wrap32; omega)]; rfl
  rw [if_neg h1, if_pos (by omega)]
  exact noText_nil
theorem textR_size (t : Int) (ht : tOk t = true) (h6 : t ≠ 6) (v : S27) (hv : vOk t v = true) : (textR t v).size = wdt t := by
  have ht' : t = 0 ∨ t = 1 ∨ t = 2 ∨ t = 5 ∨ t = 6 := of_decide_eq_true ht
  unfold textR
  rw [if_neg h6, strOfNums_size]
  unfold plainR
  have hs : vsOk t [v] = true := by unfold vsOk; rw [ht]; simp [hv]
  rw [if_pos hs]
  unfold wdt
  by_cases h0 : t = 0
  · rw [if_pos h0, if_pos h0]
    show (bitsR (numsB [v]) 1).length = 1
    rw [(bitsR_ok (numsB [v]) 1).1]; simp [numsB]
  rw [if_neg h0, if_neg h0]
  show ([v].flatMap (pbytes t)).length = _
  rw [List.flatMap_cons, List.flatMap_nil, List.append_nil]
  unfold pbytes
  rw [if_neg h6, wbytes_length]
  unfold wideB
  by_cases h1 : t = 1
  · rw [if_pos h1, if_pos h1]; rfl
  rw [if_neg h1, if_neg h1]
  by_cases h2 : t = 2
  · rw [if_pos h2]; rfl
  rw [if_neg h2, if_pos (by omega)]; rfl
theorem bytesOf_range (s : ByteArray) : ∀ x ∈ bytesOf s, 0 ≤ x ∧ x ≤ 255 := by
  intro x hx
  obtain ⟨u, _, rfl⟩ := List.mem_map.1 hx
  have := u.toNat_lt
  omega
theorem value_both (t : Int) (ht : tOk t = true) (s : ByteArray) (hs : s.size ≤ 1000000) :
    ∃ rs ri : Int × ByteArray × Bool, Ev (fun k => spec_l15Value.f k t s) rs ∧ Ev (fun k => impl_valueOf.f k t s) ri ∧ rs.2.2 = ri.2.2 ∧ (rs.2.2 = true → rs = ri) := by
  unfold spec_l15Value.f impl_valueOf.f
  by_cases h6 : t = 6
  · have hv := spec_ValOk_ev t (⟨0, s⟩ : S27)
    have hi := impl_ValOk_some t (⟨0, s⟩ : S27)
    have hx := spec_l15Text_ev t (⟨0, s⟩ : S27)
    rw [show textR t (⟨0, s⟩ : S27) = s from if_pos h6] at hx
    cases hb : vOk t (⟨0, s⟩ : S27) with
    | true =>
      rw [hb] at hv hi
      exact ⟨(0, s, (s.toList == s.toList)), (0, s, true), Ev.pos h6 (Ev.bind hv (Ev.pos rfl (Ev.bind hx (Ev.now _)))), Ev.pos h6 (Ev.here hi (Ev.now _)), by simp, fun _ => by simp⟩
    | false =>
      rw [hb] at hv hi
      exact ⟨(0, s, false), (0, s, false), Ev.pos h6 (Ev.bind hv (Ev.neg (by decide) (Ev.now _))), Ev.pos h6 (Ev.here hi (Ev.now _)), rfl, fun _ => rfl⟩
  · have hl : (bytesOf s).length = s.size := bytesOf_length s
    have hb := bytesOf_range s
    have es := spec_PlainRead1 t ht h6 (bytesOf s) hb (by omega)
    have ei := impl_PlainRead1 t ht h6 (bytesOf s) hb (by omega)
    by_cases hw : wdt t ≤ (bytesOf s).length
    · rw [show prR t (bytesOf s) = ([pr1 t (bytesOf s)], (wdt t : Int), true) from if_pos hw] at es ei
      have hok := pr1_ok t ht h6 (bytesOf s) hb
      generalize pr1 t (bytesOf s) = v at *
      have hv := spec_ValOk_ev t v
      rw [hok] at hv
      have hx := spec_l15Text_ev t v
      have hy := impl_statText_ev t v
      have hz := textR_size t ht h6 v hok
      generalize textR t v = T at *
      by_cases e : T.toList = s.toList
      · have eT := ba_inj e
        subst eT
        refine ⟨(v.f0, v.f1, (T.toList == T.toList)), (v.f0, v.f1, true), Ev.neg h6 (Ev.pos (by omega) (Ev.bind es (Ev.pos rfl (Ev.pos (by simp) (Ev.bind hv (Ev.pos rfl (Ev.bind hx (Ev.now _)))))))), Ev.neg h6 (Ev.pos (by omega) (Ev.bind ei (Ev.pos rfl (Ev.pos (by dsimp only; omega) (Ev.pos (by simp) (Ev.bind hy (Ev.pos rfl (Ev.now _)))))))), by simp, fun _ => by simp⟩
      · have eb : (T.toList == s.toList) = false := beq_eq_false_iff_ne.mpr e
        refine ⟨(v.f0, v.f1, (T.toList == s.toList)), (0, ⟨#[]⟩, false), Ev.neg h6 (Ev.pos (by omega) (Ev.bind es (Ev.pos rfl (Ev.pos (by simp) (Ev.bind hv (Ev.pos rfl (Ev.bind hx (Ev.now _)))))))), Ev.neg h6 (Ev.pos (by omega) (Ev.bind ei (Ev.pos rfl ?_))), eb, fun h => by rw [eb] at h; cases h⟩
        by_cases hq : (wdt t : Int) = (s.size : Int)
        · exact Ev.pos hq (Ev.pos (by simp) (Ev.bind hy (Ev.neg e (Ev.now _))))
        · exact Ev.neg hq (Ev.now _)
    · rw [show prR t (bytesOf s) = ([], 0, false) from if_neg hw] at es ei
      exact ⟨(0, ⟨#[]⟩, false), (0, ⟨#[]⟩, false), Ev.neg h6 (Ev.pos (by omega) (Ev.bind es (Ev.neg (by decide) (Ev.now _)))), Ev.neg h6 (Ev.pos (by omega) (Ev.bind ei (Ev.neg (by decide) (Ev.now _)))), rfl, fun _ => rfl⟩
/-- The text of a part. -/
def txR (L : List S57) (r : Option Nat) : ByteArray × Bool := match r with
  | none => (⟨#[]⟩, false)
  | some q => if (nd L q).f0 = 8 then ((nd L q).f3, true) else (⟨#[]⟩, false)
theorem text_both (L : List S57) (hL : L.length ≤ 1500) (A : List Int) (hA : AllNoted L A) (p : Nat) (hp : p < L.length) (id : Int) :
    ∃ r : Option Nat, (∀ q, r = some q → q < L.length) ∧ Ev (fun k => spec_l4Find.f k L (p : Int) id) (oN r) ∧ Ev (fun k => impl_tree_find.f k L A (p : Int) id) (oN r) ∧ Ev (fun k => spec_l4TextOf.f k L (p : Int) id) (txR L r) ∧
      ∃ a b c d : Int, Ev (fun k => impl_tree_part.f k L A (p : Int) id 8) (a, b, c, (txR L r).1, d, (txR L r).2) := by
  obtain ⟨r, hr, hs, hi⟩ := find_both L hL A hA p hp id
  refine ⟨r, hr, hs, hi, ?_, ?_⟩
  · unfold spec_l4TextOf.f
    refine Ev.bind hs ?_
    cases r with
    | none => exact Ev.pos (by decide) (Ev.now _)
    | some q =>
      have hq := hr q rfl
      refine Ev.neg (by rw [oN_some]; omega) (Ev.pos (by rw [oN_some]; omega) (Ev.pos (by rw [oN_some]; omega) ?_))
      rw [oN_some, rd_nd]
      unfold txR
      by_cases h : (nd L q).f0 = 8
      · exact Ev.pos h (Ev.const (by simp [h]))
      · exact Ev.neg h (Ev.const (by simp [h]))
  · unfold impl_tree_part.f
    cases r with
    | none => exact ⟨0, 0, 0, 0, Ev.bind hi (Ev.pos (by decide) (Ev.now _))⟩
    | some q =>
      have hq := hr q rfl
      unfold txR
      by_cases h : (nd L q).f0 = 8
      · refine ⟨(nd L q).f0, (nd L q).f1, (nd L q).f2, (nd L q).f4, Ev.bind hi (Ev.neg (by rw [oN_some]; omega) (Ev.pos (by rw [oN_some]; omega) (Ev.pos (by rw [oN_some]; omega) ?_)))⟩
        rw [oN_some, rd_nd]
        exact Ev.pos h (Ev.const (by simp [h]))
      · refine ⟨0, 0, 0, 0, Ev.bind hi (Ev.neg (by rw [oN_some]; omega) (Ev.pos (by rw [oN_some]; omega) (Ev.pos (by rw [oN_some]; omega) ?_)))⟩
        rw [oN_some, rd_nd]
        exact Ev.neg h (Ev.const (by simp [h]))
theorem plain_at {L : List S57} {A : List Int} (hA : AllNoted L A) (q : Nat) (hq : q < L.length) : plainB (nd L q) = true := by
  obtain ⟨x, e, _, hx⟩ := hA.2 q hq
  cases e with
  | zero => simp [cF] at hx
  | succ e =>
    rw [cF, if_pos hq] at hx
    by_cases h : plainB (nd L q) = true
    · exact h
    · rw [if_neg h] at hx; cases hx
theorem txR_small {L : List S57} {A : List Int} (hA : AllNoted L A) (r : Option Nat) (hr : ∀ q, r = some q → q < L.length) : (txR L r).1.size ≤ 300 := by
  unfold txR
  cases r with
  | none => show (0 : Nat) ≤ 300; omega
  | some q =>
    by_cases h : (nd L q).f0 = 8
    · have hp := plain_at hA q (hr q rfl)
      unfold plainB at hp
      rw [if_neg (by omega), if_neg (by omega), if_neg (by omega), if_pos h] at hp
      simp only [Bool.and_eq_true, decide_eq_true_eq] at hp
      simp only [h, if_true]
      omega
    · simp only [h, if_false]
      show (0 : Nat) ≤ 300; omega
theorem find_none (L : List S57) (r : Option Nat) (h : ¬ oN r ≥ 0) : r = none := by
  cases r with
  | none => rfl
  | some q => exact absurd (by rw [oN_some]; omega) h
abbrev StR := Int × Bool × Int × ByteArray × Int × ByteArray × Bool
def st0 : StR := (0, false, 0, ⟨#[]⟩, 0, ⟨#[]⟩, false)
theorem stats_both (L : List S57) (hL : L.length ≤ 1500) (A : List Int) (hA : AllNoted L A) (p : Nat) (hp : p < L.length) (a b c : Int) (hk : lOk a b c = true) :
    ∃ r : StR, Ev (fun k => spec_l15From.f k a b c L (p : Int)) r ∧ Ev (fun k => impl_tree_stats.f k L A a b c (p : Int)) r := by
  have ht : tOk a = true := by unfold lOk at hk; exact (Bool.and_eq_true_iff.mp hk).1
  obtain ⟨r3, _, n1, n2⟩ := num_both L hL A hA p hp 3
  obtain ⟨r5, h5, f5, g5, s5, a5, b5, c5, d5, i5⟩ := text_both L hL A hA p hp 5
  obtain ⟨r6, h6, f6, g6, s6, a6, b6, c6, d6, i6⟩ := text_both L hL A hA p hp 6
  have z5 := txR_small hA r5 h5
  have z6 := txR_small hA r6 h6
  unfold spec_l15From.f impl_tree_stats.f
  have sbad : ∀ n x ok y, Ev (fun k => spec_l15From.j0 k n x ok y true a b c 0 false 0 (⟨#[]⟩ : ByteArray) 0 (⟨#[]⟩ : ByteArray)) st0 := fun n x ok y => Ev.step (fun k => by rw [spec_l15From.j0]) (by exact Ev.pos rfl (Ev.now _))
  have lk := impl_LeafOk_some a b c
  rw [hk] at lk
  generalize hN : numR L r3 = N at n1 n2
  obtain ⟨n, ok⟩ := N
  cases ok with
  | false =>
    refine ⟨st0, Ev.bind n1 (Ev.bind s5 (Ev.bind s6 (Ev.neg Bool.false_ne_true (sbad _ _ _ _)))), Ev.bind n2 (Ev.neg Bool.false_ne_true ?_)⟩
    exact Ev.step (fun k => by rw [impl_tree_stats.j0]) (by exact Ev.pos rfl (Ev.now _))
  | true =>
    -- the program's way to its second join
    have toJ1 : ∀ (r : StR), (if oN r5 ≥ 0 ∨ oN r6 ≥ 0 then Ev (fun k => impl_tree_stats.j1 k (p : Int) true L A a b c n false 0 (⟨#[]⟩ : ByteArray) 0 (⟨#[]⟩ : ByteArray)) r else Ev (fun k => impl_tree_stats.j1 k (p : Int) false L A a b c n false 0 (⟨#[]⟩ : ByteArray) 0 (⟨#[]⟩ : ByteArray)) r) →
        Ev (fun k => (impl_tree_num.f k L A (p : Int) 3).bind fun bt522 => (if bt522.2 = true then ((impl_LeafOk.f a b c).bind fun t524 => (impl_tree_stats.j0 k (p : Int) bt522.1 (!t524) L A a b c)) else (impl_tree_stats.j0 k (p : Int) bt522.1 true L A a b c))) r := by
      intro r h
      refine Ev.bind n2 (Ev.pos rfl (Ev.here lk ?_))
      refine Ev.step (fun k => by rw [impl_tree_stats.j0]) (Ev.neg (by decide) (Ev.bind g5 ?_))
      by_cases q5 : oN r5 ≥ 0
      · rw [if_pos (.inl q5)] at h
        exact Ev.pos q5 h
      · refine Ev.neg q5 (Ev.bind g6 ?_)
        by_cases q6 : oN r6 ≥ 0
        · rw [if_pos (.inr q6)] at h
          rw [decide_eq_true q6]; exact h
        · rw [if_neg (by omega)] at h
          rw [decide_eq_false q6]; exact h
    have ib : ∀ q : StR, q = st0 → ∀ (m : Int) (x : ByteArray) (y : Int) (z : ByteArray) (u : Unit), Ev (fun k => impl_tree_stats.j2 k true a b c n false 0 (⟨#[]⟩ : ByteArray) 0 (⟨#[]⟩ : ByteArray) m x y z) q := fun q hq m x y z _ => by rw [hq]; exact Ev.step (fun k => by rw [impl_tree_stats.j2]) (by exact Ev.pos rfl (Ev.now _))
    obtain ⟨x5, y5, e5, e5', e5b, e5c⟩ := value_both a ht (txR L r5).1 (by omega)
    obtain ⟨x6, y6, e6, e6', e6b, e6c⟩ := value_both a ht (txR L r6).1 (by omega)
    by_cases hboth : (txR L r5).2 = true ∧ (txR L r6).2 = true
    · obtain ⟨o5, o6⟩ := hboth
      have q5 : oN r5 ≥ 0 := by
        cases r5 with
        | none => simp [txR] at o5
        | some q => rw [oN_some]; omega
      have hne : ¬ ((txR L r5).2 != (txR L r6).2) = true := by rw [o5, o6]; decide
      have sgo : ∀ r : StR, Ev (fun k => spec_l15From.j0 k n (txR L r5).1 true (txR L r6).1 false a b c 0 false 0 (⟨#[]⟩ : ByteArray) 0 (⟨#[]⟩ : ByteArray)) r →
          Ev (fun k => (spec_l4NumOf.f k L (p : Int) 3).bind fun bt296 => ((spec_l4TextOf.f k L (p : Int) 5).bind fun bt298 => ((spec_l4TextOf.f k L (p : Int) 6).bind fun bt300 => (if bt296.2 = true then (if (bt298.2 != bt300.2) = true then (spec_l15From.j0 k bt296.1 bt298.1 bt298.2 bt300.1 true a b c 0 false 0 (⟨#[]⟩ : ByteArray) 0 (⟨#[]⟩ : ByteArray)) else (if bt298.2 = true then (spec_l15From.j0 k bt296.1 bt298.1 bt298.2 bt300.1 false a b c 0 false 0 (⟨#[]⟩ : ByteArray) 0 (⟨#[]⟩ : ByteArray)) else ((spec_l4Find.f k L (p : Int) 5).bind fun t302 => (if t302 ≥ 0 then (spec_l15From.j0 k bt296.1 bt298.1 bt298.2 bt300.1 true a b c 0 false 0 (⟨#[]⟩ : ByteArray) 0 (⟨#[]⟩ : ByteArray)) else ((spec_l4Find.f k L (p : Int) 6).bind fun t303 => (spec_l15From.j0 k bt296.1 bt298.1 bt298.2 bt300.1 (decide (t303 ≥ 0)) a b c 0 false 0 (⟨#[]⟩ : ByteArray) 0 (⟨#[]⟩ : ByteArray))))))) else (spec_l15From.j0 k bt296.1 bt298.1 bt298.2 bt300.1 true a b c 0 false 0 (⟨#[]⟩ : ByteArray) 0 (⟨#[]⟩ : ByteArray)))))) r := by
        intro r h
        refine Ev.bind n1 (Ev.bind s5 (Ev.bind s6 (Ev.pos rfl (Ev.neg hne (Ev.pos o5 ?_)))))
        rw [o5]; exact h
      cases hx5 : x5.2.2 with
      | false =>
        have nx5 : ¬ x5.2.2 = true := by rw [hx5]; decide
        have ny5 : ¬ y5.2.2 = true := by rw [← e5b, hx5]; decide
        refine ⟨st0, sgo _ ?_, toJ1 _ ?_⟩
        · refine Ev.step (fun k => by rw [spec_l15From.j0]) (Ev.neg (by decide) (Ev.pos rfl (Ev.bind e5 (Ev.bind e6 (Ev.neg nx5 ?_)))))
          exact Ev.step (fun k => by rw [spec_l15From.j1]) (by exact Ev.pos rfl (Ev.now _))
        · rw [if_pos (.inl q5)]
          refine Ev.step (fun k => by rw [impl_tree_stats.j1]) (Ev.pos rfl (Ev.bind i5 (Ev.bind i6 (Ev.bind e5' (Ev.bind e6' (Ev.pos o5 (Ev.pos o6 (Ev.neg ny5 ?_))))))))
          exact ib _ rfl _ _ _ _ ()
      | true =>
        have E5 := e5c hx5
        subst E5
        cases hx6 : x6.2.2 with
        | false =>
          refine ⟨st0, sgo _ ?_, toJ1 _ ?_⟩
          · refine Ev.step (fun k => by rw [spec_l15From.j0]) (Ev.neg (by decide) (Ev.pos rfl (Ev.bind e5 (Ev.bind e6 (Ev.pos hx5 ?_)))))
            rw [hx6]
            exact Ev.step (fun k => by rw [spec_l15From.j1]) (by exact Ev.pos rfl (Ev.now _))
          · rw [if_pos (.inl q5)]
            refine Ev.step (fun k => by rw [impl_tree_stats.j1]) (Ev.pos rfl (Ev.bind i5 (Ev.bind i6 (Ev.bind e5' (Ev.bind e6' (Ev.pos o5 (Ev.pos o6 (Ev.pos hx5 ?_))))))))
            rw [← e6b, hx6]
            exact ib _ rfl _ _ _ _ ()
        | true =>
          have E6 := e6c hx6
          subst E6
          have os := spec_l15Ok_ev a b c n true (⟨x6.1, x6.2.1⟩ : S27) (⟨x5.1, x5.2.1⟩ : S27)
          have oi := impl_statsOk_ev a b c n true (⟨x6.1, x6.2.1⟩ : S27) (⟨x5.1, x5.2.1⟩ : S27)
          generalize stOk a b c n true (⟨x6.1, x6.2.1⟩ : S27) (⟨x5.1, x5.2.1⟩ : S27) = q at os oi
          refine ⟨if q = true then (n, true, x6.1, x6.2.1, x5.1, x5.2.1, true) else st0, sgo _ ?_, toJ1 _ ?_⟩
          · refine Ev.step (fun k => by rw [spec_l15From.j0]) (Ev.neg (by decide) (Ev.pos rfl (Ev.bind e5 (Ev.bind e6 (Ev.pos hx5 ?_)))))
            rw [hx6]
            refine Ev.step (fun k => by rw [spec_l15From.j1]) (Ev.neg (by decide) (Ev.bind os ?_))
            cases q with
            | true => exact Ev.pos rfl (Ev.now _)
            | false => exact Ev.neg (by decide) (Ev.now _)
          · rw [if_pos (.inl q5)]
            refine Ev.step (fun k => by rw [impl_tree_stats.j1]) (Ev.pos rfl (Ev.bind i5 (Ev.bind i6 (Ev.bind e5' (Ev.bind e6' (Ev.pos o5 (Ev.pos o6 (Ev.pos hx5 ?_))))))))
            rw [hx6]
            refine Ev.step (fun k => by rw [impl_tree_stats.j2]) (Ev.neg (by decide) (Ev.bind oi ?_))
            cases q with
            | true => exact Ev.pos rfl (Ev.now _)
            | false => exact Ev.neg (by decide) (Ev.now _)
    · -- not both texts are there
      by_cases hnone : oN r5 ≥ 0 ∨ oN r6 ≥ 0
      · refine ⟨st0, Ev.bind n1 (Ev.bind s5 (Ev.bind s6 (Ev.pos rfl ?_))), toJ1 _ ?_⟩
        · cases o5 : (txR L r5).2 with
          | true =>
            have o6 : (txR L r6).2 = false := by
              cases q : (txR L r6).2 with
              | false => rfl
              | true => exact absurd ⟨o5, q⟩ hboth
            refine Ev.pos (by rw [o6]; decide) (sbad _ _ _ _)
          | false =>
            cases o6 : (txR L r6).2 with
            | true => exact Ev.pos (by decide) (sbad _ _ _ _)
            | false =>
              refine Ev.neg (show ¬ (false != false) = true by decide) (Ev.neg Bool.false_ne_true (Ev.bind f5 ?_))
              by_cases q5 : oN r5 ≥ 0
              · exact Ev.pos q5 (sbad _ _ _ _)
              · refine Ev.neg q5 (Ev.bind f6 ?_)
                rw [decide_eq_true (show oN r6 ≥ 0 by omega)]
                exact sbad _ _ _ _
        · rw [if_pos hnone]
          refine Ev.step (fun k => by rw [impl_tree_stats.j1]) (Ev.pos rfl (Ev.bind i5 (Ev.bind i6 (Ev.bind e5' (Ev.bind e6' ?_)))))
          by_cases o5 : (txR L r5).2 = true
          · refine Ev.pos o5 (Ev.neg (fun o6 => hboth ⟨o5, o6⟩) (ib _ rfl _ _ _ _ ()))
          · exact Ev.neg o5 (ib _ rfl _ _ _ _ ())
      · have e5n := find_none L r5 (by omega)
        have e6n := find_none L r6 (by omega)
        have os := spec_l15Ok_ev a b c n false (⟨0, ⟨#[]⟩⟩ : S27) (⟨0, ⟨#[]⟩⟩ : S27)
        have oi := impl_statsOk_ev a b c n false (⟨0, ⟨#[]⟩⟩ : S27) (⟨0, ⟨#[]⟩⟩ : S27)
        generalize stOk a b c n false (⟨0, ⟨#[]⟩⟩ : S27) (⟨0, ⟨#[]⟩⟩ : S27) = q at os oi
        subst e5n; subst e6n
        refine ⟨if q = true then (n, false, 0, ⟨#[]⟩, 0, ⟨#[]⟩, true) else st0, Ev.bind n1 (Ev.bind s5 (Ev.bind s6 (Ev.pos rfl (Ev.neg (show ¬ (false != false) = true by decide) (Ev.neg Bool.false_ne_true (Ev.bind f5 (Ev.neg (show ¬ (-1 : Int) ≥ 0 by decide) (Ev.bind f6 ?_)))))))), toJ1 _ ?_⟩
        · show Ev (fun k => spec_l15From.j0 k n (⟨#[]⟩ : ByteArray) false (⟨#[]⟩ : ByteArray) false a b c 0 false 0 (⟨#[]⟩ : ByteArray) 0 (⟨#[]⟩ : ByteArray)) _
          refine Ev.step (fun k => by rw [spec_l15From.j0]) (Ev.neg (by decide) (Ev.neg (by decide) (Ev.bind os ?_)))
          cases q with
          | true => exact Ev.pos rfl (Ev.now _)
          | false => exact Ev.neg (by decide) (Ev.now _)
        · rw [if_neg hnone]
          refine Ev.step (fun k => by rw [impl_tree_stats.j1]) (Ev.neg (by decide) (Ev.bind oi ?_))
          cases q with
          | true => exact Ev.pos rfl (Ev.now _)
          | false => exact Ev.neg (by decide) (Ev.now _)
theorem StatsFrom_both (a b c : Int) (L : List S57) (at_ : Int) : ∃ r : StR, Ev (fun k => spec_StatsFrom.f k a b c L at_) r ∧ Ev (fun k => impl_StatsFrom.f k a b c L at_) r := by
  have ht := impl_treeOf_ev L
  have hk := spec_TreeOk_ev L
  have ls := spec_LeafOk_some a b c
  have li := impl_LeafOk_some a b c
  unfold spec_StatsFrom.f impl_StatsFrom.f
  have inum : ∀ {N : Int × Bool} {A : List Int}, Ev (fun k => impl_tree_num.f k L A at_ 3) N → (N.2 = false ∨ lOk a b c = false) → Ev (fun k => impl_tree_stats.f k L A a b c at_) st0 := by
    intro N A h hor
    unfold impl_tree_stats.f
    have bad : Ev (fun k => impl_tree_stats.j0 k at_ N.1 true L A a b c) st0 := Ev.step (fun k => by rw [impl_tree_stats.j0]) (by exact Ev.pos rfl (Ev.now _))
    refine Ev.bind h ?_
    by_cases hN : N.2 = true
    · refine Ev.pos hN (Ev.here li ?_)
      rw [hor.resolve_left (by rw [hN]; decide)]
      exact bad
    · exact Ev.neg hN bad
  cases hb : treeB L with
  | false =>
    rw [hb] at ht hk
    rw [if_neg (by decide)] at ht
    refine ⟨st0, Ev.here ls ?_, Ev.bind ht (Ev.neg (by decide) (Ev.now _))⟩
    cases lOk a b c with
    | true => exact Ev.pos rfl (Ev.bind hk (Ev.neg (by decide) (Ev.now _)))
    | false => exact Ev.neg (by decide) (Ev.now _)
  | true =>
    have hl := treeB_len hb
    have hA := afterR_noted hb
    rw [hb] at ht hk
    rw [if_pos rfl] at ht
    have hw : wrap64 ((L.length : Int) - 1) = (L.length : Int) - 1 := wrap64_id (by omega) (by omega)
    by_cases h1 : 0 ≤ at_ ∧ at_ ≤ (L.length : Int) - 1
    · obtain ⟨p, rfl⟩ : ∃ p : Nat, at_ = (p : Int) := ⟨at_.toNat, by omega⟩
      cases hlk : lOk a b c with
      | false =>
        obtain ⟨r3, _, _, n2⟩ := num_both L hl.2 _ hA p (by omega) 3
        rw [hlk] at ls
        exact ⟨st0, Ev.here ls (Ev.neg (by decide) (Ev.now _)), Ev.bind ht (Ev.pos rfl (Ev.bind (inum n2 (.inr hlk)) (Ev.now _)))⟩
      | true =>
        obtain ⟨r, e1, e2⟩ := stats_both L hl.2 _ hA p (by omega) a b c hlk
        rw [hlk] at ls
        refine ⟨r, Ev.here ls (Ev.pos rfl (Ev.bind hk (Ev.pos rfl (Ev.here (l1In_some _ _ _) ?_)))), Ev.bind ht (Ev.pos rfl (Ev.bind e2 (Ev.now _)))⟩
        rw [hw, decide_eq_true h1]
        exact Ev.pos rfl (Ev.bind e1 (Ev.now _))
    · have hout : Ev (fun k => impl_tree_num.f k L (afterR L) at_ 3) (0, false) := by
        unfold impl_tree_num.f impl_tree_find.f
        refine Ev.bind (a := -1) (Ev.here (within_some _ _ _) ?_) (Ev.pos (by decide) (Ev.now _))
        rw [hw, decide_eq_false h1]
        exact Ev.neg (by decide) (Ev.step (fun k => by rw [impl_tree_find.j0]) (by exact Ev.pos rfl (Ev.now _)))
      refine ⟨st0, Ev.here ls ?_, Ev.bind ht (Ev.pos rfl (Ev.bind (inum hout (.inl rfl)) (Ev.now _)))⟩
      cases lOk a b c with
      | false => exact Ev.neg (by decide) (Ev.now _)
      | true =>
        refine Ev.pos rfl (Ev.bind hk (Ev.pos rfl (Ev.here (l1In_some _ _ _) ?_)))
        rw [hw, decide_eq_false h1]
        exact Ev.neg (by decide) (Ev.now _)
theorem FnExactStatsFrom : ∀ (x0 : S23) (x1 : List (S53)) (x2 : Int), (w23 x0) → (x1.length ≤ maxLen ∧ ∀ y ∈ x1, w53 y) → ((Lit.int .i64 x2).wf = true) → ∃ k, laws_FnExactStatsFrom.f k x0.f0 x0.f1 x0.f2 x1 x2 = some true := by
  intro x l at_ hw hx hat
  refine Ev.rounds ?_
  unfold laws_FnExactStatsFrom.f
  obtain ⟨r1, s1, c1, l1⟩ := szNodeS_ev l hx.1 hx.2 1048576 (by omega) (by omega)
  refine Ev.bind s1 ?_
  by_cases n1 : r1 < 0
  · exact Ev.pos n1 (Ev.now _)
  refine Ev.neg n1 ?_
  have t := toNodeS_ev l (by omega)
  obtain ⟨r, es, ei⟩ := StatsFrom_both x.f0 x.f1 x.f2 (l.map cvNode) at_
  have q := eqNodeS_ev (l.map cvNode) (by simp; omega)
  refine Ev.here rfl (Ev.bind t (Ev.bind es (Ev.bind t (Ev.here rfl (Ev.bind ei (Ev.here (a := true) (by simp [laws_eqStats.f, laws_eqVal.f]) (Ev.pos rfl ?_)))))))
  refine Ev.step (fun k => by rw [laws_FnExactStatsFrom.j0]) ?_
  exact Ev.neg (by simp) (Ev.bind t (Ev.bind q (Ev.pos rfl (Ev.now _))))
end Go.Proofs.Ytgiljoeekpfpmaa.Pure
