/- The pure statement of FnExactRecEmpty: the printed functions answer as the law says, for all arguments. No condition. -/
import Derived.Test.YtlohdhkgcfebnaaCore
import Derived.Test.YtlohdhkgcfebnaaPFnExactRecEmptyx
import Derived.Test.YtlohdhkgcfebnaaArgFnExactRecEmpty
namespace Go.Proofs.Ytlohdhkgcfebnaa.Pure
open Go.RowKit Go.Proofs.Ytlohdhkgcfebnaa.PFnExactRecEmpty Go.Proofs.Ytlohdhkgcfebnaa.Core Go.Proofs.YtlohdhkgcfebnaaW.PrintWords Go.Proofs.YtlohdhkgcfebnaaW.PrintLast Go.Proofs.YtlohdhkgcfebnaaW.PrintMore Go.Proofs.Ytlohdhkgcfebnaa.AFnExactRecEmpty
set_option linter.unusedVariables false
set_option linter.unusedSimpArgs false
def cvCol (x : S169) : S173 := ⟨x.f0, x.f1, x.f2, x.f3⟩
theorem toColS_ev (l : List S169) (hl : l.length ≤ 1048576) : Ev (fun k => laws_toColS.f k l) (l.map cvCol) := by
  unfold laws_toColS.f
  refine Ev.pos (by omega) (Ev.pos (by omega) ?_)
  refine copy_loop (fun k out i => laws_toColS.l0 k l out i) l cvCol (fun out i r h ho hr => ?_) (fun out ho => ?_) (List.replicate ((l.length : Int)).toNat z173) (by simp)
  · refine Ev.step (fun k => by rw [laws_toColS.l0]) ?_
    refine Ev.pos (by omega) (Ev.pos (by omega) (Ev.here rfl (Ev.pos (by omega) ?_)))
    rw [wrap64_id (by omega) (by omega)]
    have e : rd_T169 l (i : Int) = l[i] := getD_eq (by simpa using h)
    simp only [e]
    simpa [cvCol] using hr
  · exact Ev.step (fun k => by rw [laws_toColS.l0]) (by exact Ev.neg (by omega) (Ev.now _))
theorem szCol_some (x : S169) (hw : w169 x) (c : Int) (h0 : 0 ≤ c) (h1 : c ≤ 1048576) : ∃ r, laws_szCol.f x.f0 x.f1 x.f2 x.f3 c = some r ∧ r ≤ c := by
  have b0 : (x.f0.size : Int) ≤ 9223372036854775807 := by have := hw.1; unfold maxLen at this; omega
  unfold laws_szCol.f
  rw [wrap64_id (x := c - (x.f0.size : Int)) (by omega) (by omega)]
  by_cases n0 : c - (x.f0.size : Int) < 0
  · exact ⟨-1, by simp [n0], by omega⟩
  simp only [if_neg n0, Option.bind_some]
  exact ⟨_, rfl, by omega⟩
theorem szColS_ev (l : List S169) (hw : l.length ≤ maxLen) (ht : ∀ x ∈ l, w169 x) (c : Int) (h0 : 0 ≤ c) (h1 : c ≤ 1048576) : ∃ r, Ev (fun k => laws_szColS.f k l c) r ∧ r ≤ c ∧ (0 ≤ r → r + l.length ≤ c) := by
  have hm : l.length ≤ 9223372036854775807 := by unfold maxLen at hw; omega
  unfold laws_szColS.f
  rw [wrap64_id (by omega) (by omega)]
  by_cases hn : c - (l.length : Int) < 0
  · exact ⟨-1, Ev.pos hn (Ev.now _), by omega, by omega⟩
  · obtain ⟨r, hr, hrc⟩ := budget_loop (fun k c i => laws_szColS.l0 k l c i) l.length (fun c i hc0 hc1 hi => by
      have e : rd_T169 l (i : Int) = l[i] := getD_eq (by simpa using hi)
      obtain ⟨c', hc', hle⟩ := szCol_some l[i] (ht l[i] (List.getElem_mem hi)) c hc0 hc1
      refine ⟨c', hle, fun hneg => ?_, fun hpos r hr => ?_⟩
      · exact Ev.step (fun k => by rw [laws_szColS.l0]) (by exact Ev.pos (by omega) (Ev.pos (by omega) (Ev.here (by rw [e]; exact hc') (Ev.pos hneg (Ev.now _)))))
      · refine Ev.step (fun k => by rw [laws_szColS.l0]) ?_
        refine Ev.pos (by omega) (Ev.pos (by omega) (Ev.here (by rw [e]; exact hc') (Ev.neg (by omega) ?_)))
        rw [wrap64_id (by omega) (by omega)]
        simpa using hr)
      (fun c => Ev.step (fun k => by rw [laws_szColS.l0]) (by exact Ev.neg (by omega) (Ev.now _))) (c - l.length) (by omega) (by omega)
    exact ⟨r, Ev.neg hn hr, by omega, by omega⟩
theorem eqCol_ev (a : S173) : laws_eqCol.f a.f0 a.f1 a.f2 a.f3 a.f0 a.f1 a.f2 a.f3 = some true := by
  unfold laws_eqCol.f
  simp
theorem eqColS_ev (l : List S173) (hl : l.length ≤ 9223372036854775806) : Ev (fun k => laws_eqColS.f k l l) true := by
  unfold laws_eqColS.f
  refine Ev.pos rfl ?_
  refine same_loop (fun k i => laws_eqColS.l0 k l l i) l.length (fun i r h hr => ?_) ?_
  · refine Ev.step (fun k => by rw [laws_eqColS.l0]) ?_
    refine Ev.pos (by omega) (Ev.pos (by omega) (Ev.pos (by omega) (Ev.here (eqCol_ev _) (Ev.pos rfl ?_))))
    rw [wrap64_id (by omega) (by omega)]
    simpa using hr
  · exact Ev.step (fun k => by rw [laws_eqColS.l0]) (by exact Ev.neg (by omega) (Ev.now _))
theorem eqVal_ev (a : S83) : laws_eqVal.f a.f0 a.f1 a.f0 a.f1 = some true := by
  unfold laws_eqVal.f
  simp
theorem eqValS_ev (l : List S83) (hl : l.length ≤ 9223372036854775806) : Ev (fun k => laws_eqValS.f k l l) true := by
  unfold laws_eqValS.f
  refine Ev.pos rfl ?_
  refine same_loop (fun k i => laws_eqValS.l0 k l l i) l.length (fun i r h hr => ?_) ?_
  · refine Ev.step (fun k => by rw [laws_eqValS.l0]) ?_
    refine Ev.pos (by omega) (Ev.pos (by omega) (Ev.pos (by omega) (Ev.here (eqVal_ev _) (Ev.pos rfl ?_))))
    rw [wrap64_id (by omega) (by omega)]
    simpa using hr
  · exact Ev.step (fun k => by rw [laws_eqValS.l0]) (by exact Ev.neg (by omega) (Ev.now _))
theorem markText_l0_ev : ∀ (n : Nat) (c : Int) (out : ByteArray), 0 ≤ c → c < 10 ^ n → c ≤ 9223372036854775807 → out.size + n + 1 ≤ 1000 → ∃ t, Ev (fun k => laws_markText.l0 k c out) t := by
  intro n
  induction n with
  | zero =>
    intro c out h0 h1 hb hs
    obtain rfl : c = 0 := by simp at h1; omega
    exact ⟨_, Ev.step (fun k => by rw [laws_markText.l0]) (by exact Ev.neg (by omega) (Ev.pos (by omega) (Ev.now _)))⟩
  | succ n ih =>
    intro c out h0 h1 hb hs
    by_cases hc : c > 0
    · have h2 : c / 10 < 10 ^ n := by
        rw [Int.pow_succ] at h1
        exact Int.ediv_lt_of_lt_mul (by omega) h1
      obtain ⟨t, ht⟩ := ih (c / 10) (strOfNums [(wrap64 (48 + (Int.tmod c 10))) % 256] ++ out) (by omega) h2 (by omega) (by
        rw [ByteArray.size_append, strOfNums_size]; simp; omega)
      refine ⟨t, Ev.step (fun k => by rw [laws_markText.l0]) ?_⟩
      refine Ev.pos hc (Ev.here rfl (Ev.pos (by rw [strOfNums_size]; simp; omega) ?_))
      rw [Int.tdiv_eq_ediv_of_nonneg h0, wrap64_id (x := c / 10) (by omega) (by omega)]
      exact ht
    · obtain rfl : c = 0 := by omega
      exact ⟨_, Ev.step (fun k => by rw [laws_markText.l0]) (by exact Ev.neg (by omega) (Ev.pos (by omega) (Ev.now _)))⟩
theorem markText_ev (c : Int) (h : c ≤ 9223372036854775807) : ∃ t, Ev (fun k => laws_markText.f k c) t := by
  unfold laws_markText.f
  by_cases hc : c ≤ 0
  · exact ⟨_, Ev.pos hc (Ev.now _)⟩
  · obtain ⟨t, ht⟩ := markText_l0_ev 19 c (⟨#[]⟩ : ByteArray) (by omega) (by omega) h (by decide)
    exact ⟨t, Ev.neg hc ht⟩
noncomputable def mtxt (c : Int) : ByteArray := if h : c ≤ 9223372036854775807 then (markText_ev c h).choose else ByteArray.empty
theorem mtxt_ev {c : Int} (h : c ≤ 9223372036854775807) : Ev (fun k => laws_markText.f k c) (mtxt c) := by
  unfold mtxt
  rw [dif_pos h]
  exact (markText_ev c h).choose_spec
theorem markColS_evm (l : List S173) (c : Int) (hc : 0 ≤ c) (hl : c + 4 * l.length ≤ 9223372036854775806) : ∃ m ys, m = c + 4 * l.length ∧ Ev (fun k => laws_markColS.f k l c) (m, ys) ∧ True := by
  obtain ⟨m, ys, hm, h1⟩ := marks_set 4 9223372036854775807 (by omega) (fun c (_ : S173) => (⟨mtxt (c), c + 1, c + 1 + 1, c + 1 + 1 + 1⟩ : S173)) (fun k xs c i => laws_markColS.l0 k xs c i)
    (fun xs c i r h hb h0 hB hr => by
      refine Ev.step (fun k => by rw [laws_markColS.l0]) ?_
      refine Ev.pos (by omega) ?_
      rw [wrap64_id (x := c + 1) (by omega) (by omega), wrap64_id (x := c + 1 + 1) (by omega) (by omega), wrap64_id (x := c + 1 + 1 + 1) (by omega) (by omega), wrap64_id (x := c + 1 + 1 + 1 + 1) (by omega) (by omega), wrap64_id (x := (i : Int) + 1) (by omega) (by omega)]
      refine Ev.bind (mtxt_ev (by omega)) ?_
      refine Ev.pos (by omega) ?_
      refine Ev.here rfl ?_
      refine Ev.here rfl ?_
      refine Ev.here rfl ?_
      have e : c + 1 + 1 + 1 + 1 = c + 4 := by omega
      simpa [rd_T173, h, e] using hr)
    (fun xs c => Ev.step (fun k => by rw [laws_markColS.l0]) (by exact Ev.neg (by omega) (Ev.now _)))
    l c hc (by omega)
  exact ⟨m, ys, by omega, h1, trivial⟩
theorem markValS_ev (l : List S83) (c : Int) (hc : 0 ≤ c) (hl : c + 2 * l.length ≤ 9223372036854775806) : ∃ m ys, m = c + 2 * l.length ∧ Ev (fun k => laws_markValS.f k l c) (m, ys) ∧ Ev (fun k => laws_heldValS.f k ys c) m := by
  obtain ⟨m, ys, _, hm, h1, h2⟩ := marks_held 2 9223372036854775807 (by omega) (fun c (_ : S83) => (⟨c, mtxt (c + 1)⟩ : S83)) (fun k xs c i => laws_markValS.l0 k xs c i) (fun k xs c i => laws_heldValS.l0 k xs c i)
    (fun xs c i r h hb h0 hB hr => by
      refine Ev.step (fun k => by rw [laws_markValS.l0]) ?_
      refine Ev.pos (by omega) (Ev.pos (by omega) ?_)
      rw [wrap64_id (x := c + 1) (by omega) (by omega), wrap64_id (x := c + 1 + 1) (by omega) (by omega), wrap64_id (x := (i : Int) + 1) (by omega) (by omega)]
      refine Ev.here rfl ?_
      refine Ev.bind (mtxt_ev (by omega)) ?_
      have e : c + 1 + 1 = c + 2 := by omega
      simpa [rd_T83, h, e] using hr)
    (fun xs c => Ev.step (fun k => by rw [laws_markValS.l0]) (by exact Ev.neg (by omega) (Ev.now _)))
    (fun xs c i r z h hb h0 hB hz hr => by
      have e : rd_T83 xs (i : Int) = xs[i] := getD_eq (by simpa using h)
      refine Ev.step (fun k => by rw [laws_heldValS.l0]) ?_
      refine Ev.pos (by omega) (Ev.pos (by omega) ?_)
      rw [wrap64_id (x := c + 1) (by omega) (by omega), wrap64_id (x := c + 1 + 1) (by omega) (by omega), wrap64_id (x := (i : Int) + 1) (by omega) (by omega)]
      refine Ev.pos (by rw [e, hz]) ?_
      refine Ev.bind (mtxt_ev (by omega)) (Ev.pos (by rw [e, hz]) ?_)
      have e : c + 1 + 1 = c + 2 := by omega
      simpa [e] using hr)
    (fun xs c => Ev.step (fun k => by rw [laws_heldValS.l0]) (by exact Ev.neg (by omega) (Ev.now _)))
    l c hc (by omega)
  exact ⟨m, ys, by omega, h1, h2⟩
def tOk (t : Int) : Bool := decide (t = 0 ∨ t = 1 ∨ t = 2 ∨ t = 5 ∨ t = 6)
theorem l5Type_some (t : Int) : spec_l5Type.f t = some (tOk t) := by
  unfold spec_l5Type.f
  (repeat' split) <;> simp_all [tOk]
theorem l1In_same (x lo hi : Int) : (if x ≥ lo then some (decide (x ≤ hi)) else some false) = some (decide (lo ≤ x ∧ x ≤ hi)) := by
  by_cases h : x ≥ lo
  · rw [if_pos h]; congr 1; simp; omega
  · rw [if_neg h]; congr 1; symm; simp; omega
theorem within_some (x lo hi : Int) : impl_within.f x lo hi = some (decide (lo ≤ x ∧ x ≤ hi)) := by unfold impl_within.f; exact l1In_same x lo hi
theorem typeOk_some (t : Int) : impl_TypeOk.f t = some (tOk t) := by
  unfold impl_TypeOk.f
  rw [within_some]
  simp only [Option.bind_some]
  by_cases h : 0 ≤ t ∧ t ≤ 2
  · rw [if_pos (by simpa using h)]
    have : t = 0 ∨ t = 1 ∨ t = 2 := by omega
    rcases this with rfl | rfl | rfl <;> rfl
  · rw [if_neg (by simpa using h)]
    by_cases h5 : t = 5
    · subst h5; rfl
    · rw [if_neg h5]
      by_cases h6 : t = 6
      · subst h6; rfl
      · have h0 : t ≠ 0 := by omega
        have h1 : t ≠ 1 := by omega
        have h2 : t ≠ 2 := by omega
        simp [tOk, h0, h1, h2, h5, h6]
theorem l1In_some (x lo hi : Int) : spec_l1In.f x lo hi = some (decide (lo ≤ x ∧ x ≤ hi)) := by unfold spec_l1In.f; exact l1In_same x lo hi
def nameOk (b : ByteArray) : Bool := decide (1 ≤ (b.size : Int) ∧ (b.size : Int) ≤ 20) && (List.range b.size).all (fun (i : Nat) => decide (97 ≤ bt b (i : Int) ∧ bt b (i : Int) ≤ 122))
theorem spec_l5Name_ev (b : ByteArray) (hb : b.size ≤ 9223372036854775807) : Ev (fun k => spec_l5Name.f k b) (nameOk b) := by
  unfold spec_l5Name.f nameOk
  refine Ev.here (l1In_some _ _ _) ?_
  by_cases h : 1 ≤ (b.size : Int) ∧ (b.size : Int) ≤ 20
  · rw [decide_eq_true h]
    refine Ev.pos rfl ?_
    have key := all_loop (fun k i => spec_l5Name.l0 k b i) (fun (i : Nat) => decide (97 ≤ bt b (i : Int) ∧ bt b (i : Int) ≤ 122)) b.size false true
      (fun i r hi hp hr => by
        have hp' := of_decide_eq_true hp
        refine Ev.step (fun k => by rw [spec_l5Name.l0]) ?_
        refine Ev.pos (by omega) (Ev.pos (by omega) (Ev.neg (by omega) (Ev.neg (by omega) ?_)))
        rw [wrap64_id (by omega) (by omega)]
        simpa using hr)
      (fun i hi hp => by
        have hp' := of_decide_eq_false hp
        refine Ev.step (fun k => by rw [spec_l5Name.l0]) ?_
        refine Ev.pos (by omega) (Ev.pos (by omega) ?_)
        by_cases h1 : bt b (i : Int) < 97
        · exact Ev.pos h1 (Ev.now _)
        · exact Ev.neg h1 (Ev.pos (by omega) (Ev.now _)))
      (by exact Ev.step (fun k => by rw [spec_l5Name.l0]) (by exact Ev.neg (by omega) (Ev.now _)))
    refine Ev.cast key ?_
    cases (List.range b.size).all _ <;> rfl
  · rw [decide_eq_false h]
    exact Ev.neg (by decide) (Ev.now _)
theorem impl_isColName_ev (b : ByteArray) (hb : b.size ≤ 9223372036854775807) : Ev (fun k => impl_isColName.f k b) (nameOk b) := by
  unfold impl_isColName.f nameOk
  have key := all_loop (fun k i => impl_isColName.l0 k b (b.size : Int) i) (fun (i : Nat) => decide (97 ≤ bt b (i : Int) ∧ bt b (i : Int) ≤ 122)) b.size false (decide (1 ≤ (b.size : Int) ∧ (b.size : Int) ≤ 20))
    (fun i r hi hp hr => by
      have hp' := of_decide_eq_true hp
      refine Ev.step (fun k => by rw [impl_isColName.l0]) ?_
      rw [wrap64_id (x := bt b (i : Int)) (by omega) (by omega)]
      refine Ev.pos (by omega) (Ev.pos (by omega) (Ev.pos (by omega) (Ev.here (within_some _ _ _) (Ev.pos hp ?_))))
      rw [wrap64_id (by omega) (by omega)]
      simpa using hr)
    (fun i hi hp => by
      have hrg := bt_range b (i : Int)
      refine Ev.step (fun k => by rw [impl_isColName.l0]) ?_
      rw [wrap64_id (x := bt b (i : Int)) (by omega) (by omega)]
      refine Ev.pos (by omega) (Ev.pos (by omega) (Ev.pos (by omega) (Ev.here (within_some _ _ _) ?_)))
      rw [hp]
      exact Ev.neg (by decide) (Ev.now _))
    (by
      refine Ev.step (fun k => by rw [impl_isColName.l0]) ?_
      exact Ev.neg (by omega) (Ev.here (within_some _ _ _) (Ev.now _)))
  refine Ev.cast key ?_
  cases (List.range b.size).all _ <;> simp
def colB (root : Bool) (c : S173) : Bool := (if c.f1 = 7 then decide (1 ≤ c.f3) else tOk c.f1 && decide (c.f3 = 0)) && decide (0 ≤ c.f2 ∧ c.f2 ≤ 2) && (root || nameOk c.f0)
def parts (f : Int → Int) (s : List S173) : Nat → Int → List ByteArray → Int
  | 0, next, _ => next
  | n + 1, next, names => if next ≥ (s.length : Int) then -1 else if names.any (fun x => decide (x.toList = (rd_T173 s next).f0.toList)) then -1 else if f next < 0 then -1 else parts f s n (f next) (names ++ [(rd_T173 s next).f0])
def chk (s : List S173) : Nat → Int → Int
  | 0, _ => -1
  | d + 1, p => if p ≥ (s.length : Int) then -1 else if colB (decide (p = 0)) (rd_T173 s p) = true then parts (chk s d) s (rd_T173 s p).f3.toNat (p + 1) [] else -1
theorem parts_range (f : Int → Int) (s : List S173) (hf : ∀ p, 0 ≤ p → f p = -1 ∨ (p < f p ∧ f p ≤ s.length)) : ∀ (n : Nat) (next : Int) (names : List ByteArray), 0 ≤ next → next ≤ s.length → parts f s n next names = -1 ∨ (next ≤ parts f s n next names ∧ parts f s n next names ≤ s.length)
  | 0, next, names, h0, h1 => .inr ⟨by simp [parts], by simp [parts]; exact h1⟩
  | n + 1, next, names, h0, h1 => by
    unfold parts
    split
    · exact .inl rfl
    split
    · exact .inl rfl
    split
    · exact .inl rfl
    · have hn := hf next h0
      have := parts_range f s hf n (f next) (names ++ [(rd_T173 s next).f0]) (by omega) (by omega)
      omega
theorem chk_range (s : List S173) : ∀ (d : Nat) (p : Int), 0 ≤ p → chk s d p = -1 ∨ (p < chk s d p ∧ chk s d p ≤ s.length)
  | 0, p, h => .inl rfl
  | d + 1, p, h => by
    unfold chk
    split
    · exact .inl rfl
    split
    · have := parts_range (chk s d) s (fun q hq => chk_range s d q hq) (rd_T173 s p).f3.toNat (p + 1) [] (by omega) (by omega)
      omega
    · exact .inl rfl
/-- A row of columns whose names are no longer than Go's int, and that are not too many. -/
def ColsOk (s : List S173) : Prop := s.length ≤ 1048576 ∧ (∀ i : Int, (rd_T173 s i).f0.size ≤ 9223372036854775807) ∧ (∀ i : Int, (rd_T173 s i).f3 ≤ 9223372036854775807)
theorem colOk_some (c : S173) : impl_colOk.f c.f0 c.f1 c.f2 c.f3 = some ((if c.f1 = 7 then decide (1 ≤ c.f3) else tOk c.f1 && decide (c.f3 = 0)) && decide (0 ≤ c.f2 ∧ c.f2 ≤ 2)) := by
  unfold impl_colOk.f
  simp only [typeOk_some, within_some, Option.bind_some]
  by_cases h7 : c.f1 = 7
  · rw [if_pos h7, if_pos h7]
    have ht : tOk c.f1 = false := by rw [h7]; rfl
    rw [ht, if_neg (by decide)]
    by_cases h : c.f3 > 0
    · rw [if_pos h, decide_eq_true (show 1 ≤ c.f3 by omega)]; rfl
    · rw [if_neg h, decide_eq_false (show ¬ 1 ≤ c.f3 by omega)]; rfl
  · rw [if_neg h7, if_neg h7]
    cases ht : tOk c.f1 with
    | false => rw [if_neg (by decide)]; rfl
    | true =>
      rw [if_pos rfl]
      by_cases h : c.f3 = 0
      · rw [if_pos h, decide_eq_true h]; rfl
      · rw [if_neg h, decide_eq_false h]; rfl
theorem impl_colAfter_ev (s : List S173) (hs : ColsOk s) : ∀ (d : Nat) (p : Int), d ≤ 7 → 0 ≤ p → p ≤ s.length → Ev (fun k => impl_colAfter.f k s p (7 - (d : Int))) (chk s d p) := by
  obtain ⟨hl, hn, hm⟩ := hs
  have bad : ∀ p dd, Ev (fun k => impl_colAfter.j0 k s p dd true) (-1) := fun p dd => Ev.step (fun k => by rw [impl_colAfter.j0]) (by exact Ev.pos rfl (Ev.now _))
  intro d
  induction d with
  | zero =>
    intro p _ h0 h1
    refine Ev.step (fun k => by rw [impl_colAfter.f]) ?_
    by_cases h : p ≥ (s.length : Int)
    · exact Ev.pos h (bad _ _)
    · exact Ev.neg h (Ev.pos (by omega) (bad _ _))
  | succ d ih =>
    intro p hd h0 h1
    refine Ev.step (fun k => by rw [impl_colAfter.f]) ?_
    unfold chk
    by_cases h : p ≥ (s.length : Int)
    · rw [if_pos h]; exact Ev.pos h (bad _ _)
    rw [if_neg h]
    refine Ev.neg h (Ev.neg (by omega) (Ev.pos h0 (Ev.pos (by omega) (Ev.here (colOk_some (rd_T173 s p)) ?_))))
    have inner : ∀ (n : Nat) (i next : Int) (names : List ByteArray), i + n = (rd_T173 s p).f3 → 0 ≤ i → 0 ≤ next → next ≤ s.length → (names.length : Int) ≤ next →
        Ev (fun k => impl_colAfter.l0 k s (7 - ((d + 1 : Nat) : Int)) next names (rd_T173 s p).f3 i) (parts (chk s d) s n next names) := by
      intro n
      induction n with
      | zero =>
        intro i next names hi i0 n0 n1 nl
        exact Ev.step (fun k => by rw [impl_colAfter.l0]) (by exact Ev.neg (by omega) (Ev.now _))
      | succ n ihn =>
        intro i next names hi i0 n0 n1 nl
        refine Ev.step (fun k => by rw [impl_colAfter.l0]) ?_
        unfold parts
        refine Ev.pos (by omega) ?_
        by_cases hx : next ≥ (s.length : Int)
        · rw [if_pos hx]; exact Ev.pos hx (Ev.now _)
        rw [if_neg hx]
        refine Ev.neg hx ?_
        have rest : ∀ (m j : Nat), j + m = names.length → Ev (fun k => impl_colAfter.l1 k s (7 - ((d + 1 : Nat) : Int)) next names (rd_T173 s p).f3 i (names.length : Int) (j : Int))
            (if (names.drop j).any (fun x => decide (x.toList = (rd_T173 s next).f0.toList)) then -1 else if chk s d next < 0 then -1 else parts (chk s d) s n (chk s d next) (names ++ [(rd_T173 s next).f0])) := by
          intro m
          induction m with
          | zero =>
            intro j hj
            rw [List.drop_eq_nil_of_le (by omega)]
            rw [if_neg (by simp)]
            refine Ev.step (fun k => by rw [impl_colAfter.l1]) ?_
            refine Ev.neg (by omega) (Ev.pos n0 (Ev.pos (by omega) (Ev.pos (by omega) ?_)))
            have e : wrap64 (7 - ((d + 1 : Nat) : Int) + 1) = 7 - (d : Int) := by rw [wrap64_id (by omega) (by omega)]; omega
            rw [e]
            refine Ev.bind (ih next (by omega) n0 n1) ?_
            have hr := chk_range s d next n0
            by_cases hneg : chk s d next < 0
            · rw [if_pos hneg]; exact Ev.pos hneg (Ev.now _)
            · rw [if_neg hneg]
              refine Ev.neg hneg ?_
              have hmm := hm p
              rw [wrap64_id (x := i + 1) (by omega) (by omega)]
              exact ihn (i + 1) (chk s d next) (names ++ [(rd_T173 s next).f0]) (by omega) (by omega) (by omega) (by omega) (by simp; omega)
          | succ m ihm =>
            intro j hj
            have hjl : j < names.length := by omega
            have ed : names.drop j = names[j] :: names.drop (j + 1) := List.drop_eq_getElem_cons hjl
            refine Ev.step (fun k => by rw [impl_colAfter.l1]) ?_
            refine Ev.pos (by omega) (Ev.pos (by omega) (Ev.pos (by omega) (Ev.pos n0 (Ev.pos (by omega) ?_))))
            rw [rdOf_eq (by omega)]
            have ej : names[((j : Int)).toNat]'(by omega) = names[j] := rfl
            rw [ej, ed, List.any_cons]
            by_cases he : (names[j]).toList = (rd_T173 s next).f0.toList
            · rw [decide_eq_true he]; exact Ev.pos he (Ev.now _)
            · rw [decide_eq_false he]
              refine Ev.neg he ?_
              rw [wrap64_id (x := (j : Int) + 1) (by omega) (by omega)]
              exact ihm (j + 1) (by omega)
        exact rest names.length 0 (by omega)
    have hx : ∀ b : Bool, colB (decide (p = 0)) (rd_T173 s p) = !b → Ev (fun k => impl_colAfter.j0 k s p (7 - ((d + 1 : Nat) : Int)) b) (if colB (decide (p = 0)) (rd_T173 s p) = true then parts (chk s d) s (rd_T173 s p).f3.toNat (p + 1) [] else -1) := by
      intro b hb
      cases b with
      | true => rw [hb, if_neg (by decide)]; exact bad _ _
      | false =>
        rw [hb, if_pos (show (!false) = true from rfl)]
        refine Ev.step (fun k => by rw [impl_colAfter.j0]) ?_
        have hm0 : 0 ≤ (rd_T173 s p).f3 := by
          unfold colB at hb
          by_cases h7 : (rd_T173 s p).f1 = 7
          · rw [if_pos h7] at hb; simp at hb; omega
          · rw [if_neg h7] at hb; simp at hb; omega
        refine Ev.neg (by decide) (Ev.pos h0 (Ev.pos (by omega) ?_))
        rw [wrap64_id (x := p + 1) (by omega) (by omega)]
        exact inner (rd_T173 s p).f3.toNat 0 (p + 1) [] (by omega) (by omega) (by omega) (by omega) (by simp; omega)
    cases hc : ((if (rd_T173 s p).f1 = 7 then decide (1 ≤ (rd_T173 s p).f3) else tOk (rd_T173 s p).f1 && decide ((rd_T173 s p).f3 = 0)) && decide (0 ≤ (rd_T173 s p).f2 ∧ (rd_T173 s p).f2 ≤ 2)) with
    | false => exact Ev.neg (by decide) (hx true (by unfold colB; rw [hc]; rfl))
    | true =>
      refine Ev.pos rfl ?_
      by_cases hp0 : p > 0
      · refine Ev.pos hp0 (Ev.bind (impl_isColName_ev _ (hn p)) ?_)
        exact hx _ (by unfold colB; rw [hc, decide_eq_false (show ¬ p = 0 by omega)]; simp)
      · refine Ev.neg hp0 ?_
        exact hx false (by unfold colB; rw [hc, decide_eq_true (show p = 0 by omega)]; simp)
def rootB (c : S173) : Bool := decide (c.f1 = 7) && decide (c.f2 = 0) && decide (c.f0.toList = ([] : List UInt8))
theorem spec_l5Check_ev (s : List S173) (hs : ColsOk s) : ∀ (d : Nat) (p : Int), d ≤ 7 → 0 ≤ p → p ≤ s.length → Ev (fun k => spec_l5Check.f k s p (7 - (d : Int))) (if p = 0 ∧ rootB (rd_T173 s p) = false then -1 else chk s d p) := by
  obtain ⟨hl, hn, hm⟩ := hs
  have bad : ∀ p dd, Ev (fun k => spec_l5Check.j0 k s p dd true) (-1) := fun p dd => Ev.step (fun k => by rw [spec_l5Check.j0]) (by exact Ev.pos rfl (Ev.now _))
  intro d
  induction d with
  | zero =>
    intro p _ h0 h1
    refine Ev.step (fun k => by rw [spec_l5Check.f]) ?_
    have e : (if p = 0 ∧ rootB (rd_T173 s p) = false then -1 else chk s 0 p) = -1 := by split <;> rfl
    rw [e]
    by_cases h : p ≥ (s.length : Int)
    · exact Ev.pos h (bad _ _)
    · refine Ev.neg h ?_
      have : decide (7 - ((0 : Nat) : Int) > 6) = true := by decide
      rw [this]; exact bad _ _
  | succ d ih =>
    intro p hd h0 h1
    refine Ev.step (fun k => by rw [spec_l5Check.f]) ?_
    by_cases h : p ≥ (s.length : Int)
    · have e : (if p = 0 ∧ rootB (rd_T173 s p) = false then -1 else chk s (d + 1) p) = -1 := by
        split
        · rfl
        · unfold chk; rw [if_pos h]
      rw [e]; exact Ev.pos h (bad _ _)
    refine Ev.neg h ?_
    have hdd : decide (7 - ((d + 1 : Nat) : Int) > 6) = false := decide_eq_false (by omega)
    rw [hdd]
    refine Ev.step (fun k => by rw [spec_l5Check.j0]) ?_
    refine Ev.neg (by decide) (Ev.pos h0 (Ev.pos (by omega) ?_))
    have inner : ∀ (n : Nat) (i next : Int) (names : List ByteArray), i + n = (rd_T173 s p).f3 → 0 ≤ i → 0 < next → next ≤ s.length → (names.length : Int) ≤ next →
        Ev (fun k => spec_l5Check.l0 k s (7 - ((d + 1 : Nat) : Int)) next names i (rd_T173 s p).f0 (rd_T173 s p).f1 (rd_T173 s p).f2 (rd_T173 s p).f3) (parts (chk s d) s n next names) := by
      intro n
      induction n with
      | zero =>
        intro i next names hi i0 n0 n1 nl
        exact Ev.step (fun k => by rw [spec_l5Check.l0]) (by exact Ev.neg (by omega) (Ev.now _))
      | succ n ihn =>
        intro i next names hi i0 n0 n1 nl
        refine Ev.step (fun k => by rw [spec_l5Check.l0]) ?_
        unfold parts
        refine Ev.pos (by omega) ?_
        by_cases hx : next ≥ (s.length : Int)
        · rw [if_pos hx]; exact Ev.pos hx (Ev.now _)
        rw [if_neg hx]
        refine Ev.neg hx ?_
        have rest : ∀ (m j : Nat), j + m = names.length → Ev (fun k => spec_l5Check.l1 k s (7 - ((d + 1 : Nat) : Int)) next names i (j : Int) (rd_T173 s p).f0 (rd_T173 s p).f1 (rd_T173 s p).f2 (rd_T173 s p).f3)
            (if (names.drop j).any (fun x => decide (x.toList = (rd_T173 s next).f0.toList)) then -1 else if chk s d next < 0 then -1 else parts (chk s d) s n (chk s d next) (names ++ [(rd_T173 s next).f0])) := by
          intro m
          induction m with
          | zero =>
            intro j hj
            rw [List.drop_eq_nil_of_le (by omega)]
            rw [if_neg (by simp)]
            refine Ev.step (fun k => by rw [spec_l5Check.l1]) ?_
            refine Ev.neg (by omega) (Ev.pos (by omega) (Ev.pos (by omega) (Ev.pos (by omega) ?_)))
            have e : wrap64 (7 - ((d + 1 : Nat) : Int) + 1) = 7 - (d : Int) := by rw [wrap64_id (by omega) (by omega)]; omega
            rw [e]
            have hih := ih next (by omega) (by omega) n1
            rw [if_neg (by omega)] at hih
            refine Ev.bind hih ?_
            have hr := chk_range s d next (by omega)
            by_cases hneg : chk s d next < 0
            · rw [if_pos hneg]; exact Ev.pos hneg (Ev.now _)
            · rw [if_neg hneg]
              refine Ev.neg hneg ?_
              have hmm := hm p
              rw [wrap64_id (x := i + 1) (by omega) (by omega)]
              exact ihn (i + 1) (chk s d next) (names ++ [(rd_T173 s next).f0]) (by omega) (by omega) (by omega) (by omega) (by simp; omega)
          | succ m ihm =>
            intro j hj
            have hjl : j < names.length := by omega
            have ed : names.drop j = names[j] :: names.drop (j + 1) := List.drop_eq_getElem_cons hjl
            refine Ev.step (fun k => by rw [spec_l5Check.l1]) ?_
            refine Ev.pos (by omega) (Ev.pos (by omega) (Ev.pos (by omega) (Ev.pos (by omega) ?_)))
            rw [rdOf_eq (by omega)]
            have ej : names[((j : Int)).toNat]'(by omega) = names[j] := rfl
            rw [ej, ed, List.any_cons]
            by_cases he : (names[j]).toList = (rd_T173 s next).f0.toList
            · rw [decide_eq_true he]; exact Ev.pos he (Ev.now _)
            · rw [decide_eq_false he]
              refine Ev.neg he ?_
              rw [wrap64_id (x := (j : Int) + 1) (by omega) (by omega)]
              exact ihm (j + 1) (by omega)
        exact rest names.length 0 (by omega)
    -- what stands behind the checks of the name and of the kind of repetition
    have hx : ∀ b : Bool, (!b) = (decide (0 ≤ (rd_T173 s p).f2 ∧ (rd_T173 s p).f2 ≤ 2) && (decide (p = 0) || nameOk (rd_T173 s p).f0)) → Ev (fun k => spec_l5Check.j1 k s p (7 - ((d + 1 : Nat) : Int)) b (rd_T173 s p).f0 (rd_T173 s p).f1 (rd_T173 s p).f2 (rd_T173 s p).f3) (chk s (d + 1) p) := by
      intro b hb
      unfold chk
      rw [if_neg h]
      refine Ev.step (fun k => by rw [spec_l5Check.j1]) ?_
      unfold colB
      rw [Bool.and_assoc, ← hb]
      cases b with
      | true => rw [Bool.not_true, Bool.and_false, if_neg (show ¬ (false = true) by decide)]; exact Ev.pos rfl (Ev.now _)
      | false =>
        rw [Bool.not_false, Bool.and_true]
        refine Ev.neg (by decide) ?_
        by_cases h7 : (rd_T173 s p).f1 = 7
        · refine Ev.pos h7 ?_
          rw [if_pos h7]
          by_cases h3 : (rd_T173 s p).f3 < 1
          · rw [decide_eq_false (show ¬ 1 ≤ (rd_T173 s p).f3 by omega), if_neg (show ¬ (false = true) by decide)]; exact Ev.pos h3 (Ev.now _)
          · rw [decide_eq_true (show 1 ≤ (rd_T173 s p).f3 by omega), if_pos (show true = true from rfl)]
            refine Ev.neg h3 ?_
            rw [wrap64_id (x := p + 1) (by omega) (by omega)]
            exact inner (rd_T173 s p).f3.toNat 0 (p + 1) [] (by omega) (by omega) (by omega) (by omega) (by simp; omega)
        · refine Ev.neg h7 (Ev.here (l5Type_some _) ?_)
          rw [if_neg h7]
          cases ht : tOk (rd_T173 s p).f1 with
          | false => exact Ev.neg (show ¬ (false = true) by decide) (Ev.const rfl)
          | true =>
            refine Ev.pos rfl ?_
            by_cases h3 : (rd_T173 s p).f3 = 0
            · rw [decide_eq_true h3, if_pos (show (true && true) = true from rfl), h3]
              refine Ev.pos rfl (Ev.const ?_)
              rw [wrap64_id (x := p + 1) (by omega) (by omega)]; rfl
            · rw [decide_eq_false h3, if_neg (show ¬ ((true && false) = true) by decide)]; exact Ev.neg h3 (Ev.now _)
    by_cases hp0 : p = 0
    · refine Ev.pos hp0 ?_
      have hbad : rootB (rd_T173 s p) = false → Ev (fun k => spec_l5Check.j1 k s p (7 - ((d + 1 : Nat) : Int)) true (rd_T173 s p).f0 (rd_T173 s p).f1 (rd_T173 s p).f2 (rd_T173 s p).f3) (if p = 0 ∧ rootB (rd_T173 s p) = false then -1 else chk s (d + 1) p) := fun hr => by
        rw [if_pos ⟨hp0, hr⟩]
        exact Ev.step (fun k => by rw [spec_l5Check.j1]) (by exact Ev.pos rfl (Ev.now _))
      by_cases r1 : (rd_T173 s p).f0.toList = ([] : List UInt8)
      · refine Ev.pos r1 ?_
        by_cases r2 : (rd_T173 s p).f2 = 0
        · refine Ev.pos r2 ?_
          by_cases r3 : (rd_T173 s p).f1 = 7
          · refine Ev.pos r3 (Ev.neg (by omega) (Ev.here (l1In_some _ _ _) ?_))
            have hr : rootB (rd_T173 s p) = true := by unfold rootB; rw [decide_eq_true r1, decide_eq_true r2, decide_eq_true r3]; rfl
            rw [if_neg (by rw [hr]; simp)]
            exact hx _ (by rw [decide_eq_true hp0]; simp)
          · exact Ev.neg r3 (hbad (by unfold rootB; rw [decide_eq_false r3]; simp))
        · exact Ev.neg r2 (hbad (by unfold rootB; rw [decide_eq_false r2]; simp))
      · exact Ev.neg r1 (hbad (by unfold rootB; rw [decide_eq_false r1]; simp))
    · rw [if_neg (by omega)]
      refine Ev.neg hp0 (Ev.pos (by omega) (Ev.bind (spec_l5Name_ev _ (hn p)) ?_))
      cases hnm : nameOk (rd_T173 s p).f0 with
      | true =>
        refine Ev.pos rfl (Ev.here (l1In_some _ _ _) ?_)
        exact hx _ (by rw [hnm]; simp)
      | false => exact Ev.neg (by decide) (hx true (by rw [hnm, decide_eq_false hp0]; simp))
def schOk (s : List S173) : Bool := decide (2 ≤ (s.length : Int) ∧ (s.length : Int) ≤ 20) && rootB (rd_T173 s 0) && decide (chk s 6 0 = (s.length : Int))
theorem impl_SchemaOk_ev (s : List S173) (hs : ColsOk s) : Ev (fun k => impl_SchemaOk.f k s) (schOk s) := by
  unfold impl_SchemaOk.f schOk
  refine Ev.here (within_some _ _ _) ?_
  by_cases h : 2 ≤ (s.length : Int) ∧ (s.length : Int) ≤ 20
  · rw [decide_eq_true h]
    refine Ev.pos rfl (Ev.pos (by omega) ?_)
    unfold rootB
    by_cases r3 : (rd_T173 s 0).f1 = 7
    · refine Ev.pos r3 ?_
      by_cases r2 : (rd_T173 s 0).f2 = 0
      · refine Ev.pos r2 ?_
        by_cases r1 : (rd_T173 s 0).f0.toList = ([] : List UInt8)
        · refine Ev.pos r1 (Ev.bind (impl_colAfter_ev s hs 6 0 (by omega) (by omega) (by omega)) (Ev.const ?_))
          rw [decide_eq_true r1, decide_eq_true r2, decide_eq_true r3]
          rfl
        · refine Ev.neg r1 (Ev.const ?_); rw [decide_eq_false r1]; simp
      · refine Ev.neg r2 (Ev.const ?_); rw [decide_eq_false r2]; simp
    · refine Ev.neg r3 (Ev.const ?_); rw [decide_eq_false r3]; simp
  · rw [decide_eq_false h]
    exact Ev.neg (by decide) (Ev.now _)
theorem spec_SchemaOk_ev (s : List S173) (hs : ColsOk s) : Ev (fun k => spec_SchemaOk.f k s) (schOk s) := by
  unfold spec_SchemaOk.f schOk
  refine Ev.here (l1In_some _ _ _) ?_
  by_cases h : 2 ≤ (s.length : Int) ∧ (s.length : Int) ≤ 20
  · rw [decide_eq_true h]
    refine Ev.pos rfl (Ev.bind (spec_l5Check_ev s hs 6 0 (by omega) (by omega) (by omega)) (Ev.const ?_))
    cases hr : rootB (rd_T173 s 0) with
    | false =>
      rw [if_pos ⟨rfl, rfl⟩]
      have : ((-1 : Int) == (s.length : Int)) = false := by simp
      rw [this]; rfl
    | true =>
      rw [if_neg (by simp)]
      rfl
  · rw [decide_eq_false h]
    exact Ev.neg (by decide) (Ev.now _)
theorem parts_mono (f g : Int → Int) (s : List S173) (hr : ∀ p, 0 ≤ p → f p = -1 ∨ (p < f p ∧ f p ≤ s.length)) (hg : ∀ p, 0 ≤ p → f p ≠ -1 → g p = f p) :
    ∀ (n : Nat) (next : Int) (names : List ByteArray), 0 ≤ next → parts f s n next names ≠ -1 → parts g s n next names = parts f s n next names
  | 0, _, _, _, _ => rfl
  | n + 1, next, names, h0, h => by
    unfold parts at h ⊢
    by_cases h1 : next ≥ (s.length : Int)
    · rw [if_pos h1, if_pos h1]
    rw [if_neg h1] at h
    rw [if_neg h1, if_neg h1]
    by_cases h2 : names.any (fun x => decide (x.toList = (rd_T173 s next).f0.toList)) = true
    · rw [if_pos h2, if_pos h2]
    rw [if_neg h2] at h
    rw [if_neg h2, if_neg h2]
    by_cases h3 : f next < 0
    · rw [if_pos h3] at h; exact absurd rfl h
    rw [if_neg h3] at h
    have e := hg next h0 (by omega)
    rw [e, if_neg h3, if_neg h3]
    have := hr next h0
    exact parts_mono f g s hr hg n (f next) _ (by omega) h
theorem chk_mono (s : List S173) : ∀ (d : Nat) (p : Int), 0 ≤ p → chk s d p ≠ -1 → chk s (d + 1) p = chk s d p
  | 0, p, h0, h => absurd rfl h
  | d + 1, p, h0, h => by
    rw [chk] at h ⊢
    rw [show chk s (d + 1) p = if p ≥ (s.length : Int) then -1 else if colB (decide (p = 0)) (rd_T173 s p) = true then parts (chk s d) s (rd_T173 s p).f3.toNat (p + 1) [] else -1 from rfl]
    by_cases h1 : p ≥ (s.length : Int)
    · rw [if_pos h1, if_pos h1]
    rw [if_neg h1] at h
    rw [if_neg h1, if_neg h1]
    by_cases h2 : colB (decide (p = 0)) (rd_T173 s p) = true
    · rw [if_pos h2] at h
      rw [if_pos h2, if_pos h2]
      exact parts_mono (chk s d) (chk s (d + 1)) s (fun q hq => chk_range s d q hq) (fun q hq hn => chk_mono s d q hq hn) _ _ _ (by omega) h
    · rw [if_neg h2, if_neg h2]
/-- Where the column at p and its parts end. -/
def en (s : List S173) (p : Int) : Int := chk s 6 p
theorem chk_en (s : List S173) (p : Int) (h0 : 0 ≤ p) : ∀ (m d : Nat), d + m = 6 → chk s d p ≠ -1 → en s p = chk s d p := by
  intro m
  induction m with
  | zero => intro d hd h; obtain rfl : d = 6 := by omega
            rfl
  | succ m ih =>
    intro d hd h
    have := chk_mono s d p h0 h
    rw [← this]
    exact ih (d + 1) (by omega) (by rw [this]; exact h)
theorem parts_inside (f : Int → Int) (s : List S173) (hr : ∀ p, 0 ≤ p → f p = -1 ∨ (p < f p ∧ f p ≤ s.length)) (hi : ∀ p, 0 ≤ p → f p ≠ -1 → ∀ q, p ≤ q → q < f p → en s q ≠ -1 ∧ en s q ≤ f p) :
    ∀ (n : Nat) (next : Int) (names : List ByteArray), 0 ≤ next → parts f s n next names ≠ -1 → ∀ q, next ≤ q → q < parts f s n next names → en s q ≠ -1 ∧ en s q ≤ parts f s n next names
  | 0, next, _, _, _, q, h1, h2 => by unfold parts at h2; omega
  | n + 1, next, names, h0, h, q, hq1, hq2 => by
    rw [parts] at h hq2 ⊢
    by_cases h1 : next ≥ (s.length : Int)
    · rw [if_pos h1] at h; exact absurd rfl h
    rw [if_neg h1] at h hq2 ⊢
    by_cases h2 : names.any (fun x => decide (x.toList = (rd_T173 s next).f0.toList)) = true
    · rw [if_pos h2] at h; exact absurd rfl h
    rw [if_neg h2] at h hq2 ⊢
    by_cases h3 : f next < 0
    · rw [if_pos h3] at h; exact absurd rfl h
    rw [if_neg h3] at h hq2 ⊢
    have hn := hr next h0
    have hpr := parts_range f s hr n (f next) (names ++ [(rd_T173 s next).f0]) (by omega) (by omega)
    by_cases h4 : q < f next
    · have := hi next h0 (by omega) q hq1 h4
      exact ⟨this.1, by omega⟩
    · exact parts_inside f s hr hi n (f next) _ (by omega) h q (by omega) hq2
theorem chk_inside (s : List S173) : ∀ (d : Nat), d ≤ 6 → ∀ (p : Int), 0 ≤ p → chk s d p ≠ -1 → ∀ q, p ≤ q → q < chk s d p → en s q ≠ -1 ∧ en s q ≤ chk s d p
  | 0, _, p, h0, h, _, _, _ => absurd rfl h
  | d + 1, hd, p, h0, h, q, hq1, hq2 => by
    by_cases e : q = p
    · have := chk_en s p h0 (6 - (d + 1)) (d + 1) (by omega) h
      rw [e, this]; exact ⟨h, Int.le_refl _⟩
    rw [chk] at h hq2 ⊢
    by_cases h1 : p ≥ (s.length : Int)
    · rw [if_pos h1] at h; exact absurd rfl h
    rw [if_neg h1] at h hq2 ⊢
    by_cases h2 : colB (decide (p = 0)) (rd_T173 s p) = true
    · rw [if_pos h2] at h hq2 ⊢
      exact parts_inside (chk s d) s (fun q hq => chk_range s d q hq) (fun r hr hn => chk_inside s d (by omega) r hr hn) _ _ _ (by omega) h q (by omega) hq2
    · rw [if_neg h2] at h; exact absurd rfl h
theorem spec_l5After_ev (s : List S173) (hs : ColsOk s) : ∀ (d : Nat) (p : Int), 0 ≤ p → chk s d p ≠ -1 → Ev (fun k => spec_l5After.f k s p) (chk s d p)
  | 0, p, h0, h => absurd rfl h
  | d + 1, p, h0, h => by
    rw [chk] at h ⊢
    by_cases h1 : p ≥ (s.length : Int)
    · rw [if_pos h1] at h; exact absurd rfl h
    rw [if_neg h1] at h ⊢
    by_cases h2 : colB (decide (p = 0)) (rd_T173 s p) = true
    · rw [if_pos h2] at h ⊢
      have hl := hs.1
      have hm := hs.2.2 p
      have hm0 : 0 ≤ (rd_T173 s p).f3 := by
        unfold colB at h2
        by_cases h7 : (rd_T173 s p).f1 = 7
        · rw [if_pos h7] at h2; simp at h2; omega
        · rw [if_neg h7] at h2; simp at h2; omega
      refine Ev.step (fun k => by rw [spec_l5After.f]) ?_
      rw [wrap64_id (x := p + 1) (by omega) (by omega)]
      have key : ∀ (n : Nat) (i next : Int) (names : List ByteArray), i + n = (rd_T173 s p).f3 → 0 ≤ i → 0 ≤ next → parts (chk s d) s n next names ≠ -1 → Ev (fun k => spec_l5After.l0 k s p next i) (parts (chk s d) s n next names) := by
        intro n
        induction n with
        | zero =>
          intro i next names hi i0 n0 hp
          refine Ev.step (fun k => by rw [spec_l5After.l0]) ?_
          exact Ev.pos h0 (Ev.pos (by omega) (Ev.neg (by omega) (Ev.now _)))
        | succ n ih =>
          intro i next names hi i0 n0 hp
          refine Ev.step (fun k => by rw [spec_l5After.l0]) ?_
          rw [parts] at hp ⊢
          by_cases g1 : next ≥ (s.length : Int)
          · rw [if_pos g1] at hp; exact absurd rfl hp
          rw [if_neg g1] at hp ⊢
          by_cases g2 : names.any (fun x => decide (x.toList = (rd_T173 s next).f0.toList)) = true
          · rw [if_pos g2] at hp; exact absurd rfl hp
          rw [if_neg g2] at hp ⊢
          by_cases g3 : chk s d next < 0
          · rw [if_pos g3] at hp; exact absurd rfl hp
          rw [if_neg g3] at hp ⊢
          refine Ev.pos h0 (Ev.pos (by omega) (Ev.pos (by omega) (Ev.bind (spec_l5After_ev s hs d next n0 (by omega)) ?_)))
          rw [wrap64_id (x := i + 1) (by omega) (by omega)]
          exact ih (i + 1) (chk s d next) _ (by omega) (by omega) (by omega) hp
      exact key _ 0 (p + 1) [] (by omega) (by omega) (by omega) h
    · rw [if_neg h2] at h; exact absurd rfl h
theorem schOk_parts {s : List S173} (h : schOk s = true) : 2 ≤ (s.length : Int) ∧ (s.length : Int) ≤ 20 ∧ rootB (rd_T173 s 0) = true ∧ chk s 6 0 = (s.length : Int) := by
  unfold schOk at h
  simp only [Bool.and_eq_true, decide_eq_true_eq] at h
  exact ⟨h.1.1.1, h.1.1.2, h.1.2, h.2⟩
theorem en_ok {s : List S173} (h : schOk s = true) (q : Int) (h0 : 0 ≤ q) (h1 : q < s.length) : en s q ≠ -1 ∧ q < en s q ∧ en s q ≤ s.length := by
  obtain ⟨_, _, _, h4⟩ := schOk_parts h
  have := chk_inside s 6 (by omega) 0 (by omega) (by omega) q h0 (by omega)
  have hr := chk_range s 6 q h0
  unfold en at this ⊢
  exact ⟨this.1, by omega, by omega⟩
theorem colsOk_of (l : List S169) (hl : l.length ≤ 1048576) (hw : ∀ y ∈ l, w169 y) : ColsOk (l.map cvCol) := by
  have h : ∀ i : Int, (rd_T173 (l.map cvCol) i).f0.size ≤ 9223372036854775807 ∧ (rd_T173 (l.map cvCol) i).f3 ≤ 9223372036854775807 := by
    intro i
    have e : rd_T173 (l.map cvCol) i = (l.map cvCol).getD i.toNat z173 := rfl
    rw [e]
    by_cases hi : i.toNat < l.length
    · rw [getD_eq (by simpa using hi), List.getElem_map]
      have := hw (l[i.toNat]) (List.getElem_mem _)
      obtain ⟨a, b, c, d⟩ := this
      have := i64_of d
      exact ⟨by unfold maxLen at a; exact a, this.2⟩
    · rw [List.getD_eq_getElem?_getD, List.getElem?_eq_none (by simp; omega)]
      exact ⟨by decide, by decide⟩
  exact ⟨by simpa using hl, fun i => (h i).1, fun i => (h i).2⟩
def zv : S83 := ⟨0, ⟨#[]⟩⟩
def grp (s : List S173) (p : Int) : Bool := decide ((rd_T173 s p).f2 = 0) && decide ((rd_T173 s p).f1 = 7)
def eParts (f : Int → List S83) (s : List S173) : Nat → Int → List S83
  | 0, _ => []
  | n + 1, next => f next ++ eParts f s n (en s next)
def emp (s : List S173) : Nat → Int → List S83
  | 0, _ => []
  | d + 1, p => if grp s p = true then eParts (emp s d) s (rd_T173 s p).f3.toNat (p + 1) else [zv]
theorem chk_parts (s : List S173) (d : Nat) (p : Int) (h : chk s (d + 1) p ≠ -1) : p < s.length ∧ 0 ≤ (rd_T173 s p).f3 ∧ chk s (d + 1) p = parts (chk s d) s (rd_T173 s p).f3.toNat (p + 1) [] := by
  rw [chk] at h ⊢
  by_cases h1 : p ≥ (s.length : Int)
  · rw [if_pos h1] at h; exact absurd rfl h
  rw [if_neg h1] at h ⊢
  by_cases h2 : colB (decide (p = 0)) (rd_T173 s p) = true
  · rw [if_pos h2]
    refine ⟨by omega, ?_, rfl⟩
    unfold colB at h2
    by_cases h7 : (rd_T173 s p).f1 = 7
    · rw [if_pos h7] at h2; simp at h2; omega
    · rw [if_neg h7] at h2; simp at h2; omega
  · rw [if_neg h2] at h; exact absurd rfl h
theorem parts_step (f : Int → Int) (s : List S173) (n : Nat) (next : Int) (names : List ByteArray) (h : parts f s (n + 1) next names ≠ -1) : next < s.length ∧ ¬ f next < 0 ∧ ∃ names', parts f s (n + 1) next names = parts f s n (f next) names' := by
  rw [parts] at h ⊢
  by_cases g1 : next ≥ (s.length : Int)
  · rw [if_pos g1] at h; exact absurd rfl h
  rw [if_neg g1] at h ⊢
  by_cases g2 : names.any (fun x => decide (x.toList = (rd_T173 s next).f0.toList)) = true
  · rw [if_pos g2] at h; exact absurd rfl h
  rw [if_neg g2] at h ⊢
  by_cases g3 : f next < 0
  · rw [if_pos g3] at h; exact absurd rfl h
  rw [if_neg g3]
  exact ⟨by omega, g3, _, rfl⟩
theorem emp_length (s : List S173) : ∀ (d : Nat), d ≤ 6 → ∀ (p : Int), 0 ≤ p → chk s d p ≠ -1 → ((emp s d p).length : Int) ≤ chk s d p - p := by
  intro d
  induction d with
  | zero => intro _ p _ h; exact absurd rfl h
  | succ d ih =>
    intro hd p h0 h
    have hr := chk_range s (d + 1) p h0
    obtain ⟨h1, h2, h3⟩ := chk_parts s d p h
    unfold emp
    split
    · rw [h3] at h ⊢
      have key : ∀ (n : Nat) (next : Int) (names : List ByteArray), 0 ≤ next → parts (chk s d) s n next names ≠ -1 → ((eParts (emp s d) s n next).length : Int) ≤ parts (chk s d) s n next names - next := by
        intro n
        induction n with
        | zero => intro next names _ _; simp [eParts, parts]
        | succ n ihn =>
          intro next names hn hp
          obtain ⟨g1, g2, names', g3⟩ := parts_step _ _ _ _ _ hp
          rw [g3] at hp ⊢
          have hcr := chk_range s d next hn
          have hen := chk_en s next hn (6 - d) d (by omega) (by omega)
          unfold eParts
          rw [List.length_append, hen]
          have := ih (by omega) next hn (by omega)
          have := ihn (chk s d next) names' (by omega) hp
          push_cast; omega
      have := key _ (p + 1) [] (by omega) h
      omega
    · simp; omega
theorem spec_l13Empty_ev (s : List S173) (hs : ColsOk s) : ∀ (d : Nat), d ≤ 6 → ∀ (p : Int), 0 ≤ p → (p = 0 → (rd_T173 s p).f2 = 0) → chk s d p ≠ -1 → Ev (fun k => spec_l13Empty.f k s p) (emp s d p) := by
  obtain ⟨hl, _, hm⟩ := hs
  intro d
  induction d with
  | zero => intro _ p _ _ h; exact absurd rfl h
  | succ d ih =>
    intro hd p h0 hroot h
    obtain ⟨h1, h2, h3⟩ := chk_parts s d p h
    have h3f := hm p
    have body : Ev (fun k => spec_l13Empty.j0 k s p (!(grp s p))) (emp s (d + 1) p) := by
      unfold emp
      cases hg : grp s p with
      | false =>
        rw [if_neg (by decide)]
        exact Ev.step (fun k => by rw [spec_l13Empty.j0]) (by exact Ev.pos rfl (Ev.now _))
      | true =>
        rw [if_pos rfl]
        refine Ev.step (fun k => by rw [spec_l13Empty.j0]) ?_
        refine Ev.neg (by decide) ?_
        rw [wrap64_id (x := p + 1) (by omega) (by omega)]
        rw [h3] at h
        have key : ∀ (n : Nat) (i next : Int) (names : List ByteArray) (out : List S83), i + n = (rd_T173 s p).f3 → 0 ≤ i → 0 < next → next ≤ s.length → (out.length : Int) ≤ next → parts (chk s d) s n next names ≠ -1 →
            Ev (fun k => spec_l13Empty.l0 k s p out next i) (out ++ eParts (emp s d) s n next) := by
          intro n
          induction n with
          | zero =>
            intro i next names out hi i0 n0 n1 ho hp
            refine Ev.step (fun k => by rw [spec_l13Empty.l0]) ?_
            exact Ev.pos h0 (Ev.pos h1 (Ev.neg (by omega) (Ev.const (by simp [eParts]))))
          | succ n ihn =>
            intro i next names out hi i0 n0 n1 ho hp
            obtain ⟨g1, g2, names', g3⟩ := parts_step _ _ _ _ _ hp
            rw [g3] at hp
            have hcr := chk_range s d next (by omega)
            have hen := chk_en s next (by omega) (6 - d) d (by omega) (by omega)
            have hlen := emp_length s d (by omega) next (by omega) (by omega)
            refine Ev.step (fun k => by rw [spec_l13Empty.l0]) ?_
            refine Ev.pos h0 (Ev.pos h1 (Ev.pos (by omega) (Ev.bind (ih (by omega) next (by omega) (by omega) (by omega)) (Ev.pos (by omega) (Ev.bind (spec_l5After_ev s ⟨hl, ‹_›, hm⟩ d next (by omega) (by omega)) ?_)))))
            rw [wrap64_id (x := i + 1) (by omega) (by omega)]
            unfold eParts
            rw [hen, ← List.append_assoc]
            exact ihn (i + 1) (chk s d next) names' (out ++ emp s d next) (by omega) (by omega) (by omega) (by omega) (by simp; omega) hp
        exact key _ 0 (p + 1) [] [] (by omega) (by omega) (by omega) (by omega) (by simp; omega) h
    have hgn : ∀ b, b = (!(grp s p)) → Ev (fun k => spec_l13Empty.j0 k s p b) (emp s (d + 1) p) := fun b e => by rw [e]; exact body
    refine Ev.step (fun k => by rw [spec_l13Empty.f]) ?_
    by_cases hp0 : p > 0
    · refine Ev.pos hp0 (Ev.pos h0 (Ev.pos h1 ?_))
      by_cases hf2 : (rd_T173 s p).f2 = 0
      · exact Ev.pos hf2 (hgn _ (by unfold grp; rw [decide_eq_true hf2]; by_cases h7 : (rd_T173 s p).f1 = 7 <;> simp [h7]))
      · exact Ev.neg hf2 (hgn _ (by unfold grp; rw [decide_eq_false hf2]; simp))
    · refine Ev.neg hp0 (Ev.pos h0 (Ev.pos h1 ?_))
      have hf2 := hroot (by omega)
      exact hgn _ (by unfold grp; rw [decide_eq_true hf2]; by_cases h7 : (rd_T173 s p).f1 = 7 <;> simp [h7])
theorem impl_emptyOf_ev (s : List S173) (hs : ColsOk s) : ∀ (d : Nat), d ≤ 6 → ∀ (p : Int), 0 ≤ p → grp s p = true → chk s d p ≠ -1 → Ev (fun k => impl_emptyOf.f k s p) (emp s d p) := by
  have hs' := hs
  obtain ⟨hl, _, hm⟩ := hs
  intro d
  induction d with
  | zero => intro _ p _ _ h; exact absurd rfl h
  | succ d ih =>
    intro hd p h0 hg h
    obtain ⟨h1, h2, h3⟩ := chk_parts s d p h
    have h3f := hm p
    unfold emp
    rw [if_pos hg]
    refine Ev.step (fun k => by rw [impl_emptyOf.f]) ?_
    refine Ev.pos h0 (Ev.pos h1 ?_)
    rw [wrap64_id (x := p + 1) (by omega) (by omega)]
    rw [h3] at h
    have key : ∀ (n : Nat) (i next : Int) (names : List ByteArray) (out : List S83), i + n = (rd_T173 s p).f3 → 0 ≤ i → 0 < next → next ≤ s.length → (out.length : Int) ≤ next → parts (chk s d) s n next names ≠ -1 →
        Ev (fun k => impl_emptyOf.l0 k s out next (rd_T173 s p).f3 i) (out ++ eParts (emp s d) s n next) := by
      intro n
      induction n with
      | zero =>
        intro i next names out hi i0 n0 n1 ho hp
        refine Ev.step (fun k => by rw [impl_emptyOf.l0]) ?_
        exact Ev.neg (by omega) (Ev.const (by simp [eParts]))
      | succ n ihn =>
        intro i next names out hi i0 n0 n1 ho hp
        obtain ⟨g1, g2, names', g3⟩ := parts_step _ _ _ _ _ hp
        rw [g3] at hp
        have hcr := chk_range s d next (by omega)
        have hen := chk_en s next (by omega) (6 - d) d (by omega) (by omega)
        have hlen := emp_length s d (by omega) next (by omega) (by omega)
        have hca : Ev (fun k => impl_colAfter.f k s next 1) (chk s d next) := by
          have := impl_colAfter_ev s hs' 6 next (by omega) (by omega) (by omega)
          rw [← hen]; exact this
        have hrest : ∀ b, b = grp s next → Ev (fun k => impl_emptyOf.j1 k s out next (rd_T173 s p).f3 i b) (out ++ eParts (emp s d) s (n + 1) next) := by
          intro b hb
          refine Ev.step (fun k => by rw [impl_emptyOf.j1]) ?_
          rw [wrap64_id (x := i + 1) (by omega) (by omega)]
          have step := fun o' ho' => ihn (i + 1) (chk s d next) names' o' (by omega) (by omega) (by omega) (by omega) ho' hp
          unfold eParts
          rw [hen, ← List.append_assoc]
          cases hgn : grp s next with
          | true =>
            rw [hb, hgn]
            exact Ev.pos rfl (Ev.bind (ih (by omega) next (by omega) hgn (by omega)) (Ev.pos (by omega) (Ev.bind hca (step _ (by simp; omega)))))
          | false =>
            rw [hb, hgn]
            have ez : emp s d next = [zv] := by
              cases d with
              | zero => exact absurd (show (chk s 0 next) = -1 from rfl) (by omega)
              | succ d => unfold emp; rw [hgn, if_neg (by decide)]
            rw [ez]
            exact Ev.neg (by decide) (Ev.pos (by omega) (Ev.bind hca (step _ (by simp; omega))))
        refine Ev.step (fun k => by rw [impl_emptyOf.l0]) ?_
        refine Ev.pos (by omega) (Ev.pos (by omega) (Ev.pos g1 ?_))
        by_cases hf2 : (rd_T173 s next).f2 = 0
        · exact Ev.pos hf2 (hrest _ (by unfold grp; rw [decide_eq_true hf2]; by_cases h7 : (rd_T173 s next).f1 = 7 <;> simp [h7]))
        · exact Ev.neg hf2 (hrest _ (by unfold grp; rw [decide_eq_false hf2]; simp))
    exact key _ 0 (p + 1) [] [] (by omega) (by omega) (by omega) (by omega) (by simp; omega) h
def recE (s : List S173) : List S83 × Bool := if schOk s = true then (emp s 6 0, true) else ([], false)
theorem recEmpty_both (s : List S173) (hs : ColsOk s) : Ev (fun k => spec_RecEmpty.f k s) (recE s) ∧ Ev (fun k => impl_RecEmpty.f k s) (recE s) ∧ (recE s).1.length ≤ 20 := by
  unfold spec_RecEmpty.f impl_RecEmpty.f recE
  cases hk : schOk s with
  | false => exact ⟨Ev.bind (hk ▸ spec_SchemaOk_ev s hs) (Ev.neg (by decide) (Ev.now _)), Ev.bind (hk ▸ impl_SchemaOk_ev s hs) (Ev.neg (by decide) (Ev.now _)), by simp⟩
  | true =>
    obtain ⟨h1, h2, h3, h4⟩ := schOk_parts hk
    have hne : chk s 6 0 ≠ -1 := by omega
    unfold rootB at h3
    simp only [Bool.and_eq_true, decide_eq_true_eq] at h3
    have hg : grp s 0 = true := by unfold grp; rw [decide_eq_true h3.1.1, decide_eq_true h3.1.2]; rfl
    have hlen := emp_length s 6 (by omega) 0 (by omega) hne
    rw [if_pos rfl]
    exact ⟨Ev.bind (hk ▸ spec_SchemaOk_ev s hs) (Ev.pos rfl (Ev.bind (spec_l13Empty_ev s hs 6 (by omega) 0 (by omega) (fun _ => h3.1.2) hne) (Ev.now _))), Ev.bind (hk ▸ impl_SchemaOk_ev s hs) (Ev.pos rfl (Ev.bind (impl_emptyOf_ev s hs 6 (by omega) 0 (by omega) hg hne) (Ev.now _))), by dsimp only; omega⟩
theorem FnExactRecEmpty : ∀ (x0 : List (S169)), (x0.length ≤ maxLen ∧ ∀ y ∈ x0, w169 y) → ∃ k, laws_FnExactRecEmpty.f k x0 = some true := by
  intro l hx
  refine Ev.rounds ?_
  unfold laws_FnExactRecEmpty.f
  obtain ⟨r1, s1, c1, l1⟩ := szColS_ev l hx.1 hx.2 1048576 (by omega) (by omega)
  refine Ev.bind s1 ?_
  by_cases n1 : r1 < 0
  · exact Ev.pos n1 (Ev.now _)
  refine Ev.neg n1 ?_
  have t1 := toColS_ev l (by omega)
  have hs := colsOk_of l (by omega) hx.2
  obtain ⟨es, ei, hr⟩ := recEmpty_both (l.map cvCol) hs
  generalize recE (l.map cvCol) = r at es ei hr
  have q1 := eqColS_ev (l.map cvCol) (by simp; omega)
  have q2 : Ev (fun k => laws_eqRec.f k r.1 r.1) true := by
    unfold laws_eqRec.f; exact Ev.bind (eqValS_ev r.1 (by omega)) (Ev.pos rfl (Ev.now _))
  obtain ⟨m1, y1, p1, k1, _⟩ := markColS_evm (l.map cvCol) 1 (by omega) (by simp; omega)
  simp only [List.length_map] at p1
  obtain ⟨m2, y2, p2, k2', k3'⟩ := markValS_ev r.1 1 (by omega) (by omega)
  have k2 : Ev (fun k => laws_markRec.f k r.1 1) (m2, y2) := by
    unfold laws_markRec.f; exact Ev.bind k2' (Ev.now _)
  have k3 : Ev (fun k => laws_heldRec.f k y2 1) m2 := by
    unfold laws_heldRec.f; exact Ev.bind k3' (Ev.neg (by omega) (Ev.now _))
  repeat' (first
    | with_reducible exact Ev.now _
    | with_reducible refine Ev.bind t1 ?_ | with_reducible refine Ev.bind es ?_ | with_reducible refine Ev.bind ei ?_
    | with_reducible refine Ev.bind q1 ?_ | with_reducible refine Ev.bind q2 ?_
    | with_reducible refine Ev.bind k1 ?_ | with_reducible refine Ev.bind k2 ?_ | with_reducible refine Ev.bind k3 ?_
    | refine Ev.pos (by first | rfl | omega) ?_
    | refine Ev.neg (by first | omega | decide | simp) ?_
    | refine Ev.step (fun k => by rw [laws_FnExactRecEmpty.j0]) ?_
    | refine Ev.step (fun k => by rw [laws_FnExactRecEmpty.j1]) ?_
    | refine Ev.step (fun k => by rw [laws_FnExactRecEmpty.j2]) ?_)
end Go.Proofs.Ytlohdhkgcfebnaa.Pure
