/- The pure statement of FnExactStatsOf: the printed functions answer as the law says, for all arguments. No condition. -/
import Derived.Test.YtlohdhkgcfebnaaVFnExactStatsOf
import Derived.Test.YtlohdhkgcfebnaaPFnExactStatsOfx
import Derived.Test.YtlohdhkgcfebnaaArgFnExactStatsOf
namespace Go.Proofs.Ytlohdhkgcfebnaa.Pure
open Go.RowKit Go.Proofs.Ytlohdhkgcfebnaa.PFnExactStatsOf Go.Proofs.Ytlohdhkgcfebnaa.Core Go.Proofs.YtlohdhkgcfebnaaW.PrintWords Go.Proofs.YtlohdhkgcfebnaaW.PrintLast Go.Proofs.YtlohdhkgcfebnaaW.PrintMore Go.Proofs.Ytlohdhkgcfebnaa.AFnExactStatsOf
set_option linter.unusedVariables false
set_option linter.unusedSimpArgs false
def cvVal (x : S112) : S83 := ⟨x.f0, x.f1⟩
def cvTriple (x : S124) : S127 := ⟨x.f0, x.f1, cvVal x.f2⟩
theorem toTripleS_ev (l : List S124) (hl : l.length ≤ 1048576) : Ev (fun k => laws_toTripleS.f k l) (l.map cvTriple) := by
  unfold laws_toTripleS.f
  refine Ev.pos (by omega) (Ev.pos (by omega) ?_)
  refine copy_loop (fun k out i => laws_toTripleS.l0 k l out i) l cvTriple (fun out i r h ho hr => ?_) (fun out ho => ?_) (List.replicate ((l.length : Int)).toNat z127) (by simp)
  · refine Ev.step (fun k => by rw [laws_toTripleS.l0]) ?_
    refine Ev.pos (by omega) (Ev.pos (by omega) (Ev.here rfl (Ev.pos (by omega) ?_)))
    rw [wrap64_id (by omega) (by omega)]
    have e : rd_T124 l (i : Int) = l[i] := getD_eq (by simpa using h)
    simp only [e]
    simpa [cvVal, cvTriple] using hr
  · exact Ev.step (fun k => by rw [laws_toTripleS.l0]) (by exact Ev.neg (by omega) (Ev.now _))
theorem szTriple_some (x : S124) (hw : w124 x) (c : Int) (h0 : 0 ≤ c) (h1 : c ≤ 1048576) : ∃ r, laws_szTriple.f x.f0 x.f1 x.f2.f0 x.f2.f1 c = some r ∧ r ≤ c := by
  have b0 : (x.f2.f1.size : Int) ≤ 9223372036854775807 := by have := hw.2.2.2; unfold maxLen at this; omega
  unfold laws_szTriple.f laws_szVal.f
  rw [wrap64_id (x := c - (x.f2.f1.size : Int)) (by omega) (by omega)]
  by_cases n0 : c - (x.f2.f1.size : Int) < 0
  · exact ⟨-1, by simp [n0], by omega⟩
  simp only [if_neg n0, Option.bind_some]
  exact ⟨_, rfl, by omega⟩
theorem szTripleS_ev (l : List S124) (hw : l.length ≤ maxLen) (ht : ∀ x ∈ l, w124 x) (c : Int) (h0 : 0 ≤ c) (h1 : c ≤ 1048576) : ∃ r, Ev (fun k => laws_szTripleS.f k l c) r ∧ r ≤ c ∧ (0 ≤ r → r + l.length ≤ c) := by
  have hm : l.length ≤ 9223372036854775807 := by unfold maxLen at hw; omega
  unfold laws_szTripleS.f
  rw [wrap64_id (by omega) (by omega)]
  by_cases hn : c - (l.length : Int) < 0
  · exact ⟨-1, Ev.pos hn (Ev.now _), by omega, by omega⟩
  · obtain ⟨r, hr, hrc⟩ := budget_loop (fun k c i => laws_szTripleS.l0 k l c i) l.length (fun c i hc0 hc1 hi => by
      have e : rd_T124 l (i : Int) = l[i] := getD_eq (by simpa using hi)
      obtain ⟨c', hc', hle⟩ := szTriple_some l[i] (ht l[i] (List.getElem_mem hi)) c hc0 hc1
      refine ⟨c', hle, fun hneg => ?_, fun hpos r hr => ?_⟩
      · exact Ev.step (fun k => by rw [laws_szTripleS.l0]) (by exact Ev.pos (by omega) (Ev.pos (by omega) (Ev.here (by rw [e]; exact hc') (Ev.pos hneg (Ev.now _)))))
      · refine Ev.step (fun k => by rw [laws_szTripleS.l0]) ?_
        refine Ev.pos (by omega) (Ev.pos (by omega) (Ev.here (by rw [e]; exact hc') (Ev.neg (by omega) ?_)))
        rw [wrap64_id (by omega) (by omega)]
        simpa using hr)
      (fun c => Ev.step (fun k => by rw [laws_szTripleS.l0]) (by exact Ev.neg (by omega) (Ev.now _))) (c - l.length) (by omega) (by omega)
    exact ⟨r, Ev.neg hn hr, by omega, by omega⟩
theorem eqTriple_ev (a : S127) : laws_eqTriple.f a.f0 a.f1 a.f2.f0 a.f2.f1 a.f0 a.f1 a.f2.f0 a.f2.f1 = some true := by
  unfold laws_eqTriple.f laws_eqVal.f
  simp
theorem eqTripleS_ev (l : List S127) (hl : l.length ≤ 9223372036854775806) : Ev (fun k => laws_eqTripleS.f k l l) true := by
  unfold laws_eqTripleS.f
  refine Ev.pos rfl ?_
  refine same_loop (fun k i => laws_eqTripleS.l0 k l l i) l.length (fun i r h hr => ?_) ?_
  · refine Ev.step (fun k => by rw [laws_eqTripleS.l0]) ?_
    refine Ev.pos (by omega) (Ev.pos (by omega) (Ev.pos (by omega) (Ev.here (eqTriple_ev _) (Ev.pos rfl ?_))))
    rw [wrap64_id (by omega) (by omega)]
    simpa using hr
  · exact Ev.step (fun k => by rw [laws_eqTripleS.l0]) (by exact Ev.neg (by omega) (Ev.now _))
def tOk (t : Int) : Bool := decide (t = 0 ∨ t = 1 ∨ t = 2 ∨ t = 5 ∨ t = 6)
theorem l5Type_some (t : Int) : spec_l5Type.f t = some (tOk t) := by
  unfold spec_l5Type.f
  (repeat' split) <;> simp_all [tOk]
theorem l1In_same (x lo hi : Int) : (if x ≥ lo then some (decide (x ≤ hi)) else some false) = some (decide (lo ≤ x ∧ x ≤ hi)) := by
  by_cases h : x ≥ lo
  · rw [if_pos h]; congr 1; simp; omega
  · rw [if_neg h]; congr 1; symm; simp; omega
theorem within_some (x lo hi : Int) : impl_within.f x lo hi = some (decide (lo ≤ x ∧ x ≤ hi)) := by unfold impl_within.f; exact l1In_same x lo hi
theorem typeOk_some (t : Int) : impl_TypeOk.f t = some (tOk t) := by
  unfold impl_TypeOk.f
  rw [within_some]
  simp only [Option.bind_some]
  by_cases h : 0 ≤ t ∧ t ≤ 2
  · rw [if_pos (by simpa using h)]
    have : t = 0 ∨ t = 1 ∨ t = 2 := by omega
    rcases this with rfl | rfl | rfl <;> rfl
  · rw [if_neg (by simpa using h)]
    by_cases h5 : t = 5
    · subst h5; rfl
    · rw [if_neg h5]
      by_cases h6 : t = 6
      · subst h6; rfl
      · have h0 : t ≠ 0 := by omega
        have h1 : t ≠ 1 := by omega
        have h2 : t ≠ 2 := by omega
        simp [tOk, h0, h1, h2, h5, h6]
def noText (s : ByteArray) : Bool := s.toList == ([] : List UInt8)
def vOk (t : Int) (v : S83) : Bool :=
  if t = 0 then decide (0 ≤ v.f0 ∧ v.f0 ≤ 1) && noText v.f1
  else if t = 1 then decide (-2147483648 ≤ v.f0 ∧ v.f0 ≤ 2147483647) && noText v.f1
  else if t = 2 ∨ t = 5 then noText v.f1
  else if t = 6 then decide (v.f0 = 0) && decide ((v.f1.size : Int) ≤ 40) else false
theorem l1In_some (x lo hi : Int) : spec_l1In.f x lo hi = some (decide (lo ≤ x ∧ x ≤ hi)) := by unfold spec_l1In.f; exact l1In_same x lo hi
theorem impl_ValOk_some (t : Int) (v : S83) : impl_ValOk.f t v.f0 v.f1 = some (vOk t v) := by
  unfold impl_ValOk.f impl_isInt32.f vOk noText
  simp only [within_some, Option.bind_some]
  by_cases h0 : t = 0
  · rw [if_pos h0, if_pos h0]; by_cases h : 0 ≤ v.f0 ∧ v.f0 ≤ 1 <;> simp [h]
  rw [if_neg h0, if_neg h0]
  by_cases h1 : t = 1
  · rw [if_pos h1, if_pos h1]; by_cases h : -2147483648 ≤ v.f0 ∧ v.f0 ≤ 2147483647 <;> simp [h]
  rw [if_neg h1, if_neg h1]
  by_cases h2 : t = 2
  · rw [if_pos h2, if_pos (show t = 2 ∨ t = 5 from .inl h2)]
  rw [if_neg h2]
  by_cases h5 : t = 5
  · rw [if_pos h5, if_pos (show t = 2 ∨ t = 5 from .inr h5)]
  rw [if_neg h5, if_neg (show ¬ (t = 2 ∨ t = 5) by omega)]
  by_cases h6 : t = 6
  · rw [if_pos h6, if_pos h6]; by_cases h : v.f0 = 0 <;> simp [h]
  · rw [if_neg h6, if_neg h6]
theorem spec_ValOk_ev (t : Int) (v : S83) : Ev (fun k => spec_ValOk.f k t v.f0 v.f1) (vOk t v) := by
  refine ⟨2, fun k hk => ?_⟩
  obtain ⟨m, rfl⟩ : ∃ m, k = m + 2 := ⟨k - 2, by omega⟩
  unfold spec_ValOk.f spec_l4Int.f vOk noText
  simp only [l1In_some, Option.bind_some, spec_ValOk.j0]
  by_cases h0 : t = 0
  · rw [if_pos h0, if_pos h0]; by_cases h : 0 ≤ v.f0 ∧ v.f0 ≤ 1 <;> simp [h]
  rw [if_neg h0, if_neg h0]
  by_cases h1 : t = 1
  · rw [if_pos h1, if_pos h1]; by_cases h : -2147483648 ≤ v.f0 ∧ v.f0 ≤ 2147483647 <;> simp [h]
  rw [if_neg h1, if_neg h1]
  by_cases h2 : t = 2
  · rw [if_pos (show t = 2 ∨ t = 5 from .inl h2)]; simp [h2]
  rw [if_neg h2]
  by_cases h5 : t = 5
  · rw [if_pos (show t = 2 ∨ t = 5 from .inr h5)]; simp [h5]
  rw [if_neg (show ¬ (t = 2 ∨ t = 5) by omega)]
  by_cases h6 : t = 6
  · rw [if_pos h6]; by_cases h : v.f0 = 0 <;> simp [h, h6]
  · rw [if_neg h6]; simp [h5, h6]
def lOk (a b c : Int) : Bool := tOk a && decide (0 ≤ b ∧ b ≤ c ∧ c ≤ 6)
theorem spec_LeafOk_some (a b c : Int) : spec_LeafOk.f a b c = some (lOk a b c) := by
  unfold spec_LeafOk.f lOk
  rw [l5Type_some]
  simp only [Option.bind_some, l1In_some]
  cases tOk a with
  | false => rfl
  | true =>
    rw [if_pos rfl]
    by_cases h : 0 ≤ b ∧ b ≤ 6
    · rw [if_pos (by simpa using h)]; congr 1; rw [Bool.true_and]; apply decide_eq_decide.2; constructor <;> intro h' <;> omega
    · rw [if_neg (by simpa using h)]; congr 1; symm; rw [Bool.true_and]; apply decide_eq_false; omega
theorem impl_LeafOk_some (a b c : Int) : impl_LeafOk.f a b c = some (lOk a b c) := by
  unfold impl_LeafOk.f lOk
  rw [typeOk_some]
  simp only [Option.bind_some, within_some]
  cases tOk a with
  | false => rfl
  | true =>
    rw [if_pos rfl]
    by_cases h : 0 ≤ c ∧ c ≤ 6
    · rw [if_pos (by simpa using h)]; congr 1; rw [Bool.true_and]; apply decide_eq_decide.2; constructor <;> intro h' <;> omega
    · rw [if_neg (by simpa using h)]; congr 1; symm; rw [Bool.true_and]; apply decide_eq_false; omega
def fk (x : Int) : Int := if x < 0 then Go.bits .xor .i64 x 9223372036854775807 else x
theorem spec_fk (x : Int) : spec_FloatKey.f x = some (fk x) := by unfold spec_FloatKey.f fk; split <;> rfl
theorem impl_fk (x : Int) : impl_FloatKey.f x = some (fk x) := by unfold impl_FloatKey.f fk; split <;> rfl
def vLess (t : Int) (a b : S83) : Bool := vOk t a && vOk t b && (if t = 5 then decide (fk a.f0 < fk b.f0) else if t = 6 then Op.bytesLess a.f1.toList b.f1.toList else decide (a.f0 < b.f0))
theorem toList_at (a : ByteArray) : a.toList.length = a.size := by rw [ByteArray.toList_eq]; rw [Array.length_toList]; rfl
theorem bt_at (a : ByteArray) (i : Nat) (h : i < a.size) : ∃ u : UInt8, a.toList.drop i = u :: a.toList.drop (i + 1) ∧ bt a (i : Int) = u.toNat := by
  have hl := toList_at a
  refine ⟨a.toList[i]'(by omega), List.drop_eq_getElem_cons (by omega), ?_⟩
  unfold bt
  have hd : a.data.size = a.size := rfl
  rw [dif_pos (by simp; omega)]
  simp only [ByteArray.toList_eq]
  simp
  rfl
theorem spec_less_text (a b : ByteArray) (ha : a.size ≤ 1000000) (hb : b.size ≤ 1000000) (n0 n1 : Int) : ∀ (d i : Nat), i ≤ a.size → i ≤ b.size → i + d = a.size → Ev (fun k => spec_ValLess.l0 k (i : Int) n0 a n1 b) (Op.bytesLess (a.toList.drop i) (b.toList.drop i)) := by
  have la := toList_at a
  have lb := toList_at b
  intro d
  induction d with
  | zero =>
    intro i h1 h2 hi
    refine Ev.step (fun k => by rw [spec_ValLess.l0]) ?_
    refine Ev.neg (by omega) ?_
    refine Ev.step (fun k => by rw [spec_ValLess.j2]) ?_
    refine Ev.neg (by decide) (Ev.const ?_)
    congr 1
    rw [show a.toList.drop i = [] from List.drop_eq_nil_of_le (by omega)]
    by_cases hb2 : i < b.size
    · obtain ⟨u, hu, _⟩ := bt_at b i hb2
      rw [hu]; simp [Op.bytesLess]; omega
    · rw [show b.toList.drop i = [] from List.drop_eq_nil_of_le (by omega)]; simp [Op.bytesLess]; omega
  | succ d ih =>
    intro i h1 h2 hi
    obtain ⟨u, hu, eu⟩ := bt_at a i (by omega)
    refine Ev.step (fun k => by rw [spec_ValLess.l0]) ?_
    refine Ev.pos (by omega) ?_
    refine Ev.step (fun k => by rw [spec_ValLess.j2]) ?_
    by_cases hb2 : i < b.size
    · obtain ⟨v, hv, ev⟩ := bt_at b i hb2
      refine Ev.pos (by simp; omega) (Ev.pos (by omega) (Ev.pos (by omega) (Ev.pos (by omega) ?_)))
      rw [eu, ev, hu, hv]
      by_cases he : u = v
      · subst he
        refine Ev.pos rfl ?_
        rw [wrap64_id (by omega) (by omega)]
        have := ih (i + 1) (by omega) (by omega) (by omega)
        have e2 : Op.bytesLess (u :: a.toList.drop (i + 1)) (u :: b.toList.drop (i + 1)) = Op.bytesLess (a.toList.drop (i + 1)) (b.toList.drop (i + 1)) := by simp [Op.bytesLess]
        rw [e2]
        simpa using this
      · have hn : ¬ ((u.toNat : Int) = (v.toNat : Int)) := fun h => he (UInt8.toNat_inj.1 (by exact_mod_cast h))
        refine Ev.neg hn (Ev.const ?_)
        congr 1
        have e2 : Op.bytesLess (u :: a.toList.drop (i + 1)) (v :: b.toList.drop (i + 1)) = decide (u < v) := by simp [Op.bytesLess, he]
        rw [e2]
        simp [UInt8.lt_iff_toNat_lt]
    · refine Ev.neg (by simp; omega) (Ev.const ?_)
      congr 1
      rw [show b.toList.drop i = [] from List.drop_eq_nil_of_le (by omega), hu]; simp [Op.bytesLess]; omega
theorem vOk_text {t : Int} {v : S83} (h : vOk t v = true) (h6 : t = 6) : v.f1.size ≤ 40 := by
  subst h6
  unfold vOk at h
  simp at h; omega
theorem spec_ValLess_ev (t : Int) (a b : S83) : Ev (fun k => spec_ValLess.f k t a.f0 a.f1 b.f0 b.f1) (vLess t a b) := by
  have bad : ∀ {x}, x = true → vLess t a b = false → Ev (fun k => spec_ValLess.j0 k t x a.f0 a.f1 b.f0 b.f1) (vLess t a b) := fun hx h => by
    rw [h, hx]; exact Ev.step (fun k => by rw [spec_ValLess.j0]) (by exact Ev.pos rfl (Ev.now _))
  unfold spec_ValLess.f
  refine Ev.bind (spec_ValOk_ev t a) ?_
  cases ha : vOk t a with
  | false => exact Ev.neg (by decide) (bad rfl (by simp [vLess, ha]))
  | true =>
    refine Ev.pos rfl (Ev.bind (spec_ValOk_ev t b) ?_)
    cases hb : vOk t b with
    | false => exact bad rfl (by simp [vLess, hb])
    | true =>
      refine Ev.step (fun k => by rw [spec_ValLess.j0]) ?_
      refine Ev.neg (by decide) ?_
      by_cases h5 : t = 5
      · refine Ev.pos h5 (Ev.here (spec_fk _) (Ev.here (spec_fk _) (Ev.const ?_)))
        unfold vLess; rw [ha, hb, if_pos h5]; rfl
      refine Ev.neg h5 ?_
      by_cases h6 : t = 6
      · refine Ev.pos h6 ?_
        have := spec_less_text a.f1 b.f1 (by have := vOk_text ha h6; omega) (by have := vOk_text hb h6; omega) a.f0 b.f0 a.f1.size 0 (by omega) (by omega) (by omega)
        refine Ev.cast this ?_
        unfold vLess; rw [ha, hb, if_neg h5, if_pos h6]; rfl
      · refine Ev.neg h6 (Ev.const ?_)
        unfold vLess; rw [ha, hb, if_neg h5, if_neg h6]; rfl
theorem impl_ValLess_ev (t : Int) (a b : S83) : Ev (fun k => impl_ValLess.f k t a.f0 a.f1 b.f0 b.f1) (vLess t a b) := by
  have bad : ∀ {x}, x = true → vLess t a b = false → Ev (fun k => impl_ValLess.j0 k t x a.f0 a.f1 b.f0 b.f1) (vLess t a b) := fun hx h => by
    rw [h, hx]; exact Ev.step (fun k => by rw [impl_ValLess.j0]) (by exact Ev.pos rfl (Ev.now _))
  unfold impl_ValLess.f
  refine Ev.here (impl_ValOk_some t a) ?_
  cases ha : vOk t a with
  | false => exact Ev.neg (by decide) (bad rfl (by simp [vLess, ha]))
  | true =>
    refine Ev.pos rfl (Ev.here (impl_ValOk_some t b) ?_)
    cases hb : vOk t b with
    | false => exact bad rfl (by simp [vLess, hb])
    | true =>
      refine Ev.step (fun k => by rw [impl_ValLess.j0]) ?_
      refine Ev.neg (by decide) ?_
      by_cases h5 : t = 5
      · refine Ev.pos h5 (Ev.here (impl_fk _) (Ev.here (impl_fk _) (Ev.const ?_)))
        unfold vLess; rw [ha, hb, if_pos h5]; rfl
      refine Ev.neg h5 ?_
      by_cases h6 : t = 6
      · refine Ev.pos h6 (Ev.const ?_)
        unfold vLess; rw [ha, hb, if_neg h5, if_pos h6]; rfl
      · refine Ev.neg h6 (Ev.const ?_)
        unfold vLess; rw [ha, hb, if_neg h5, if_neg h6]; rfl
def tripOk (a b c : Int) (t : S127) : Bool := decide (0 ≤ t.f0 ∧ t.f0 ≤ b) && decide (0 ≤ t.f1 ∧ t.f1 ≤ c) && (if t.f1 = c then vOk a t.f2 else decide (t.f2.f0 = 0) && noText t.f2.f1)
def tripsOk (a b c : Int) (l : List S127) : Bool := l.all (tripOk a b c) && decide ((l.length : Int) ≤ 2000)
theorem impl_tripleOk_ev (a b c : Int) (t : S127) : Ev (fun k => impl_tripleOk.f k a b c t.f0 t.f1 t.f2.f0 t.f2.f1) (tripOk a b c t) := by
  have bad : ∀ {x}, x = true → tripOk a b c t = false → Ev (fun k => impl_tripleOk.j0 k x a b c t.f0 t.f1 t.f2.f0 t.f2.f1) (tripOk a b c t) := fun hx h => by
    rw [h, hx]; exact Ev.step (fun k => by rw [impl_tripleOk.j0]) (by exact Ev.pos rfl (Ev.now _))
  unfold impl_tripleOk.f
  refine Ev.here (within_some _ _ _) ?_
  by_cases h1 : 0 ≤ t.f0 ∧ t.f0 ≤ b
  · refine Ev.pos (by simpa using h1) (Ev.here (within_some _ _ _) ?_)
    by_cases h2 : 0 ≤ t.f1 ∧ t.f1 ≤ c
    · refine Ev.step (fun k => by rw [impl_tripleOk.j0]) ?_
      refine Ev.neg (by simpa using h2) ?_
      by_cases h3 : t.f1 = c
      · refine Ev.pos h3 (Ev.here (impl_ValOk_some a t.f2) (Ev.const ?_))
        unfold tripOk; rw [if_pos h3]; simp only [decide_eq_true h1, decide_eq_true h2]; rfl
      · refine Ev.neg h3 (Ev.const ?_)
        unfold tripOk noText; rw [if_neg h3]; simp only [decide_eq_true h1, decide_eq_true h2]; rfl
    · exact bad (by rw [decide_eq_false h2]; rfl) (by unfold tripOk; rw [decide_eq_false h2]; simp)
  · exact Ev.neg (by simpa using h1) (bad rfl (by unfold tripOk; rw [decide_eq_false h1]; simp))
theorem spec_l15Right_ev (a b c : Int) (t : S127) : Ev (fun k => spec_l15Right.f k a b c t.f0 t.f1 t.f2.f0 t.f2.f1) (tripOk a b c t) := by
  have bad : ∀ {x}, x = true → tripOk a b c t = false → Ev (fun k => spec_l15Right.j0 k x a b c t.f0 t.f1 t.f2.f0 t.f2.f1 0 (⟨#[]⟩ : ByteArray)) (tripOk a b c t) := fun hx h => by
    rw [h, hx]; exact Ev.step (fun k => by rw [spec_l15Right.j0]) (by exact Ev.pos rfl (Ev.now _))
  unfold spec_l15Right.f
  refine Ev.here (l1In_some _ _ _) ?_
  by_cases h1 : 0 ≤ t.f0 ∧ t.f0 ≤ b
  · refine Ev.pos (by simpa using h1) (Ev.here (l1In_some _ _ _) ?_)
    by_cases h2 : 0 ≤ t.f1 ∧ t.f1 ≤ c
    · refine Ev.step (fun k => by rw [spec_l15Right.j0]) ?_
      refine Ev.neg (by simpa using h2) ?_
      by_cases h3 : t.f1 = c
      · refine Ev.neg (by omega) (Ev.bind (spec_ValOk_ev a t.f2) (Ev.const ?_))
        unfold tripOk; rw [if_pos h3]; simp only [decide_eq_true h1, decide_eq_true h2]; rfl
      · refine Ev.pos (by omega) (Ev.const ?_)
        have hem : (⟨#[]⟩ : ByteArray).toList = ([] : List UInt8) := by unfold ByteArray.toList; unfold ByteArray.toList.loop; rfl
        rw [hem]
        unfold tripOk noText; rw [if_neg h3]; simp only [decide_eq_true h1, decide_eq_true h2]; rfl
    · exact bad (by rw [decide_eq_false h2]; rfl) (by unfold tripOk; rw [decide_eq_false h2]; simp)
  · exact Ev.neg (by simpa using h1) (bad rfl (by unfold tripOk; rw [decide_eq_false h1]; simp))
theorem impl_triplesRight_ev (a b c : Int) (l : List S127) (hl : l.length ≤ 1048576) : Ev (fun k => impl_triplesRight.f k a b c l) (tripsOk a b c l) := by
  unfold impl_triplesRight.f
  have key := all_loop (fun k i => impl_triplesRight.l0 k l l (l.length : Int) i a b c) (fun i => tripOk a b c (l.getD i z127)) l.length false (decide ((l.length : Int) ≤ 2000))
    (fun i r hi hp hr => by
      have e : rd_T127 l (i : Int) = l.getD i z127 := rfl
      refine Ev.step (fun k => by rw [impl_triplesRight.l0]) ?_
      refine Ev.pos (by omega) (Ev.pos (by omega) (Ev.pos (by omega) (Ev.bind (impl_tripleOk_ev a b c _) ?_)))
      rw [e, hp]
      refine Ev.pos rfl ?_
      rw [wrap64_id (by omega) (by omega)]
      simpa using hr)
    (fun i hi hp => by
      have e : rd_T127 l (i : Int) = l.getD i z127 := rfl
      refine Ev.step (fun k => by rw [impl_triplesRight.l0]) ?_
      refine Ev.pos (by omega) (Ev.pos (by omega) (Ev.pos (by omega) (Ev.bind (impl_tripleOk_ev a b c _) ?_)))
      rw [e, hp]
      exact Ev.neg (by decide) (Ev.now _))
    (by exact Ev.step (fun k => by rw [impl_triplesRight.l0]) (by exact Ev.neg (by omega) (Ev.now _)))
  refine Ev.cast key ?_
  rw [all_range]
  unfold tripsOk
  cases l.all (tripOk a b c) <;> simp
theorem spec_l15All_ev (a b c : Int) (l : List S127) (hl : l.length ≤ 1048576) : Ev (fun k => spec_l15All.f k a b c l) (lOk a b c && tripsOk a b c l) := by
  have bad : ∀ {x}, x = true → (lOk a b c && tripsOk a b c l) = false → Ev (fun k => spec_l15All.j0 k l x a b c) (lOk a b c && tripsOk a b c l) := fun hx h => by
    rw [h, hx]; exact Ev.step (fun k => by rw [spec_l15All.j0]) (by exact Ev.pos rfl (Ev.now _))
  unfold spec_l15All.f
  refine Ev.here (spec_LeafOk_some a b c) ?_
  cases ho : lOk a b c with
  | false => exact Ev.neg (by decide) (by rw [← ho]; exact bad rfl (by simp [ho]))
  | true =>
    refine Ev.pos rfl ?_
    rw [← ho]
    by_cases hn : (l.length : Int) > 2000
    · exact bad (by simpa using hn) (by unfold tripsOk; rw [decide_eq_false (show ¬ ((l.length : Int) ≤ 2000) by omega)]; simp)
    · refine Ev.step (fun k => by rw [spec_l15All.j0]) ?_
      refine Ev.neg (by simpa using hn) ?_
      have key := all_loop (fun k i => spec_l15All.l0 k l i a b c) (fun i => tripOk a b c (l.getD i z127)) l.length false true
        (fun i r hi hp hr => by
          have e : rd_T127 l (i : Int) = l.getD i z127 := rfl
          refine Ev.step (fun k => by rw [spec_l15All.l0]) ?_
          refine Ev.pos (by omega) (Ev.pos (by omega) (Ev.bind (spec_l15Right_ev a b c _) ?_))
          rw [e, hp]
          refine Ev.pos rfl ?_
          rw [wrap64_id (by omega) (by omega)]
          simpa using hr)
        (fun i hi hp => by
          have e : rd_T127 l (i : Int) = l.getD i z127 := rfl
          refine Ev.step (fun k => by rw [spec_l15All.l0]) ?_
          refine Ev.pos (by omega) (Ev.pos (by omega) (Ev.bind (spec_l15Right_ev a b c _) ?_))
          rw [e, hp]
          exact Ev.neg (by decide) (Ev.now _))
        (by exact Ev.step (fun k => by rw [spec_l15All.l0]) (by exact Ev.neg (by omega) (Ev.now _)))
      refine Ev.cast key ?_
      rw [all_range]
      unfold tripsOk
      rw [decide_eq_true (show ((l.length : Int) ≤ 2000) by omega), ho]
      cases l.all (tripOk a b c) <;> simp
/-- Nulls, Has, Min, Max. -/
structure SSt where
  n : Int
  h : Bool
  lo : S83
  hi : S83
def sStep (a c : Int) (s : SSt) (t : S127) : SSt :=
  if t.f1 = c then ⟨s.n, true, if s.h = true then (if vLess a t.f2 s.lo = true then t.f2 else s.lo) else t.f2, if s.h = true then (if vLess a s.hi t.f2 = true then t.f2 else s.hi) else t.f2⟩
  else ⟨wrap64 (s.n + 1), s.h, s.lo, s.hi⟩
def sOut (s : SSt) : Int × Bool × Int × ByteArray × Int × ByteArray × Bool := (s.n, s.h, s.lo.f0, s.lo.f1, s.hi.f0, s.hi.f1, true)
def s0 : SSt := ⟨0, false, ⟨0, ⟨#[]⟩⟩, ⟨0, ⟨#[]⟩⟩⟩
def statsR (a b c : Int) (l : List S127) : Int × Bool × Int × ByteArray × Int × ByteArray × Bool :=
  if (lOk a b c && tripsOk a b c l) = true then sOut ((List.range l.length).foldl (fun s (i : Nat) => sStep a c s (rd_T127 l (i : Int))) s0) else (0, false, 0, (⟨#[]⟩ : ByteArray), 0, (⟨#[]⟩ : ByteArray), false)
theorem impl_StatsOf_ev (a b c : Int) (l : List S127) (hl : l.length ≤ 1048576) : Ev (fun k => impl_StatsOf.f k a b c l) (statsR a b c l) := by
  have bad : ∀ {x}, x = true → (lOk a b c && tripsOk a b c l) = false → Ev (fun k => impl_StatsOf.j0 k l x a b c) (statsR a b c l) := fun hx h => by
    unfold statsR; rw [if_neg (by simp [h]), hx]; exact Ev.step (fun k => by rw [impl_StatsOf.j0]) (by exact Ev.pos rfl (Ev.now _))
  unfold impl_StatsOf.f
  refine Ev.here (impl_LeafOk_some a b c) ?_
  cases ho : lOk a b c with
  | false => exact Ev.neg (by decide) (bad rfl (by simp [ho]))
  | true =>
    refine Ev.pos rfl (Ev.bind (impl_triplesRight_ev a b c l hl) ?_)
    cases ht : tripsOk a b c l with
    | false => exact bad rfl (by simp [ht])
    | true =>
      refine Ev.step (fun k => by rw [impl_StatsOf.j0]) ?_
      refine Ev.neg (by decide) ?_
      unfold statsR
      rw [if_pos (by simp [ho, ht])]
      refine loop_cps (fun k (s : SSt) i => impl_StatsOf.l0 k l (l.length : Int) i a b c s.n s.h s.lo.f0 s.lo.f1 s.hi.f0 s.hi.f1) (fun i s => sStep a c s (rd_T127 l (i : Int))) l.length _ (fun i s hi hr => ?_) s0 ?_
      · have e : (i + 1 : Nat) = (i : Int) + 1 := by push_cast; rfl
        rw [e] at hr
        generalize htr : rd_T127 l (i : Int) = tr at hr
        refine Ev.step (fun k => by rw [impl_StatsOf.l0]) ?_
        refine Ev.pos (by omega) (Ev.pos (by omega) (Ev.pos (by omega) ?_))
        rw [htr, wrap64_id (x := (i : Int) + 1) (by omega) (by omega)]
        obtain ⟨sn, sh, lo, hi'⟩ := s
        by_cases hc : tr.f1 = c
        · skip
          refine Ev.pos hc ?_
          cases sh with
          | true =>
            refine Ev.pos rfl (Ev.bind (impl_ValLess_ev a tr.f2 lo) ?_)
            refine Ev.step (fun k => by rw [impl_StatsOf.j2]) ?_
            rw [wrap64_id (x := (i : Int) + 1) (by omega) (by omega)]
            cases h1 : vLess a tr.f2 lo <;> cases h2 : vLess a hi' tr.f2
            · refine Ev.neg (by decide) (Ev.pos rfl (Ev.bind (impl_ValLess_ev a hi' tr.f2) ?_)); rw [h2]; refine Ev.neg (by decide) ?_; rw [show sStep a c ⟨sn, true, lo, hi'⟩ tr = ⟨sn, true, lo, hi'⟩ from by simp [sStep, hc, h1, h2]] at hr; exact hr
            · refine Ev.neg (by decide) (Ev.pos rfl (Ev.bind (impl_ValLess_ev a hi' tr.f2) ?_)); rw [h2]; refine Ev.pos rfl ?_; rw [show sStep a c ⟨sn, true, lo, hi'⟩ tr = ⟨sn, true, lo, tr.f2⟩ from by simp [sStep, hc, h1, h2]] at hr; exact hr
            · refine Ev.pos rfl (Ev.pos rfl (Ev.bind (impl_ValLess_ev a hi' tr.f2) ?_)); rw [h2]; refine Ev.neg (by decide) ?_; rw [show sStep a c ⟨sn, true, lo, hi'⟩ tr = ⟨sn, true, tr.f2, hi'⟩ from by simp [sStep, hc, h1, h2]] at hr; exact hr
            · refine Ev.pos rfl (Ev.pos rfl (Ev.bind (impl_ValLess_ev a hi' tr.f2) ?_)); rw [h2]; refine Ev.pos rfl ?_; rw [show sStep a c ⟨sn, true, lo, hi'⟩ tr = ⟨sn, true, tr.f2, tr.f2⟩ from by simp [sStep, hc, h1, h2]] at hr; exact hr
          | false =>
            refine Ev.neg (by simp) ?_
            refine Ev.step (fun k => by rw [impl_StatsOf.j2]) ?_
            rw [wrap64_id (x := (i : Int) + 1) (by omega) (by omega)]
            refine Ev.pos rfl (Ev.neg (by simp) ?_)
            rw [show sStep a c ⟨sn, false, lo, hi'⟩ tr = ⟨sn, true, tr.f2, tr.f2⟩ from by simp [sStep, hc]] at hr; exact hr
        · rw [show sStep a c ⟨sn, sh, lo, hi'⟩ tr = ⟨wrap64 (sn + 1), sh, lo, hi'⟩ from by simp [sStep, hc]] at hr
          exact Ev.neg hc hr
      · refine Ev.step (fun k => by rw [impl_StatsOf.l0]) ?_
        exact Ev.neg (by omega) (Ev.now _)
theorem spec_StatsOf_ev (a b c : Int) (l : List S127) (hl : l.length ≤ 1048576) : Ev (fun k => spec_StatsOf.f k a b c l) (statsR a b c l) := by
  unfold spec_StatsOf.f
  refine Ev.bind (spec_l15All_ev a b c l hl) ?_
  unfold statsR
  cases ho : (lOk a b c && tripsOk a b c l) with
  | false => rw [if_neg (by decide)]; exact Ev.neg (by simp) (Ev.now _)
  | true =>
    rw [if_pos rfl]
    refine Ev.pos rfl ?_
    have hall : ∀ i, i < l.length → tripOk a b c (rd_T127 l (i : Int)) = true := by
      intro i hi
      have e : rd_T127 l (i : Int) = l.getD i z127 := rfl
      rw [e, getD_eq hi]
      simp only [tripsOk, Bool.and_eq_true, List.all_eq_true] at ho
      exact ho.2.1 _ (List.getElem_mem _)
    refine loop_cps (fun k (s : SSt) i => spec_StatsOf.l0 k l i a b c s.n s.h s.lo.f0 s.lo.f1 s.hi.f0 s.hi.f1) (fun i s => sStep a c s (rd_T127 l (i : Int))) l.length _ (fun i s hi hr => ?_) s0 ?_
    · have e : (i + 1 : Nat) = (i : Int) + 1 := by push_cast; rfl
      rw [e] at hr
      have hok := hall i hi
      generalize htr : rd_T127 l (i : Int) = tr at hr hok
      have hdef : tr.f1 ≤ c := by
        simp only [tripOk, Bool.and_eq_true, decide_eq_true_eq] at hok
        omega
      refine Ev.step (fun k => by rw [spec_StatsOf.l0]) ?_
      refine Ev.pos (by omega) (Ev.pos (by omega) ?_)
      rw [htr, wrap64_id (x := (i : Int) + 1) (by omega) (by omega)]
      obtain ⟨sn, sh, lo, hi'⟩ := s
      by_cases hc : tr.f1 = c
      · skip
        refine Ev.neg (by omega) ?_
        cases sh with
        | true =>
          refine Ev.pos rfl (Ev.bind (spec_ValLess_ev a tr.f2 lo) ?_)
          cases h1 : vLess a tr.f2 lo <;> cases h2 : vLess a hi' tr.f2
          · refine Ev.neg (by simp) ?_
            refine Ev.step (fun k => by rw [spec_StatsOf.j1]) ?_
            rw [wrap64_id (x := (i : Int) + 1) (by omega) (by omega)]
            refine Ev.bind (spec_ValLess_ev a hi' tr.f2) ?_; rw [h2]; refine Ev.neg (by simp) ?_; rw [show sStep a c ⟨sn, true, lo, hi'⟩ tr = ⟨sn, true, lo, hi'⟩ from by simp [sStep, hc, h1, h2]] at hr; exact hr
          · refine Ev.neg (by simp) ?_
            refine Ev.step (fun k => by rw [spec_StatsOf.j1]) ?_
            rw [wrap64_id (x := (i : Int) + 1) (by omega) (by omega)]
            refine Ev.bind (spec_ValLess_ev a hi' tr.f2) ?_; rw [h2]; refine Ev.pos rfl ?_; rw [show sStep a c ⟨sn, true, lo, hi'⟩ tr = ⟨sn, true, lo, tr.f2⟩ from by simp [sStep, hc, h1, h2]] at hr; exact hr
          · refine Ev.pos rfl ?_
            refine Ev.step (fun k => by rw [spec_StatsOf.j1]) ?_
            rw [wrap64_id (x := (i : Int) + 1) (by omega) (by omega)]
            refine Ev.bind (spec_ValLess_ev a hi' tr.f2) ?_; rw [h2]; refine Ev.neg (by simp) ?_; rw [show sStep a c ⟨sn, true, lo, hi'⟩ tr = ⟨sn, true, tr.f2, hi'⟩ from by simp [sStep, hc, h1, h2]] at hr; exact hr
          · refine Ev.pos rfl ?_
            refine Ev.step (fun k => by rw [spec_StatsOf.j1]) ?_
            rw [wrap64_id (x := (i : Int) + 1) (by omega) (by omega)]
            refine Ev.bind (spec_ValLess_ev a hi' tr.f2) ?_; rw [h2]; refine Ev.pos rfl ?_; rw [show sStep a c ⟨sn, true, lo, hi'⟩ tr = ⟨sn, true, tr.f2, tr.f2⟩ from by simp [sStep, hc, h1, h2]] at hr; exact hr
        | false =>
          refine Ev.neg (by simp) ?_
          rw [show sStep a c ⟨sn, false, lo, hi'⟩ tr = ⟨sn, true, tr.f2, tr.f2⟩ from by simp [sStep, hc]] at hr; exact hr
      · rw [show sStep a c ⟨sn, sh, lo, hi'⟩ tr = ⟨wrap64 (sn + 1), sh, lo, hi'⟩ from by simp [sStep, hc]] at hr
        exact Ev.pos (by omega) hr
    · refine Ev.step (fun k => by rw [spec_StatsOf.l0]) ?_
      exact Ev.neg (by omega) (Ev.now _)
theorem FnExactStatsOf : ∀ (x0 : S81) (x1 : List (S124)), (w81 x0) → (x1.length ≤ maxLen ∧ ∀ y ∈ x1, w124 y) → ∃ k, laws_FnExactStatsOf.f k x0.f0 x0.f1 x0.f2 x1 = some true := by
  intro x l hw hx
  refine Ev.rounds ?_
  unfold laws_FnExactStatsOf.f
  obtain ⟨r1, s1, c1, l1⟩ := szTripleS_ev l hx.1 hx.2 1048576 (by omega) (by omega)
  refine Ev.bind s1 ?_
  by_cases n1 : r1 < 0
  · exact Ev.pos n1 (Ev.now _)
  refine Ev.neg n1 ?_
  have t := toTripleS_ev l (by omega)
  have es := spec_StatsOf_ev x.f0 x.f1 x.f2 (l.map cvTriple) (by simp; omega)
  have ei := impl_StatsOf_ev x.f0 x.f1 x.f2 (l.map cvTriple) (by simp; omega)
  have q := eqTripleS_ev (l.map cvTriple) (by simp; omega)
  refine Ev.here rfl (Ev.bind t (Ev.bind es (Ev.bind t (Ev.here rfl (Ev.bind ei (Ev.here (a := true) (by simp [laws_eqStats.f, laws_eqVal.f]) (Ev.pos rfl ?_)))))))
  refine Ev.step (fun k => by rw [laws_FnExactStatsOf.j0]) ?_
  exact Ev.neg (by simp) (Ev.bind t (Ev.bind q (Ev.pos rfl (Ev.now _))))
end Go.Proofs.Ytlohdhkgcfebnaa.Pure
