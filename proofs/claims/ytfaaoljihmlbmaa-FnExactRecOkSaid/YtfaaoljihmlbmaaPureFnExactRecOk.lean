/- The pure statement of FnExactRecOk: the printed functions answer as the law says, for all arguments. No condition. -/
import Derived.Test.YtfaaoljihmlbmaaVFnExactRecOk
import Derived.Test.YtfaaoljihmlbmaaPFnExactRecOkx
import Derived.Test.YtfaaoljihmlbmaaArgFnExactRecOk
namespace Go.Proofs.Ytfaaoljihmlbmaa.Pure
open Go.RowKit Go.Proofs.Ytfaaoljihmlbmaa.PFnExactRecOk Go.Proofs.Ytfaaoljihmlbmaa.Core Go.Proofs.YtfaaoljihmlbmaaW.PrintWords Go.Proofs.YtfaaoljihmlbmaaW.PrintLast Go.Proofs.YtfaaoljihmlbmaaW.PrintMore Go.Proofs.YtfaaoljihmlbmaaW.PrintMore2 Go.Proofs.Ytfaaoljihmlbmaa.AFnExactRecOk
set_option linter.unusedVariables false
set_option linter.unusedSimpArgs false
def cvCol (x : S40) : S44 := ⟨x.f0, x.f1, x.f2, x.f3⟩
def cvVal (x : S55) : S49 := ⟨x.f0, x.f1⟩
theorem toColS_ev (l : List S40) (hl : l.length ≤ 1048576) : Ev (fun k => laws_toColS.f k l) (l.map cvCol) := by
  unfold laws_toColS.f
  refine Ev.pos (by omega) (Ev.pos (by omega) ?_)
  refine copy_loop (fun k out i => laws_toColS.l0 k l out i) l cvCol (fun out i r h ho hr => ?_) (fun out ho => ?_) (List.replicate ((l.length : Int)).toNat z44) (by simp)
  · refine Ev.step (fun k => by rw [laws_toColS.l0]) ?_
    refine Ev.pos (by omega) (Ev.pos (by omega) (Ev.here rfl (Ev.pos (by omega) ?_)))
    rw [wrap64_id (by omega) (by omega)]
    have e : rd_T40 l (i : Int) = l[i] := getD_eq (by simpa using h)
    simp only [e]
    simpa [cvCol] using hr
  · exact Ev.step (fun k => by rw [laws_toColS.l0]) (by exact Ev.neg (by omega) (Ev.now _))
theorem toValS_ev (l : List S55) (hl : l.length ≤ 1048576) : Ev (fun k => laws_toValS.f k l) (l.map cvVal) := by
  unfold laws_toValS.f
  refine Ev.pos (by omega) (Ev.pos (by omega) ?_)
  refine copy_loop (fun k out i => laws_toValS.l0 k l out i) l cvVal (fun out i r h ho hr => ?_) (fun out ho => ?_) (List.replicate ((l.length : Int)).toNat z49) (by simp)
  · refine Ev.step (fun k => by rw [laws_toValS.l0]) ?_
    refine Ev.pos (by omega) (Ev.pos (by omega) (Ev.here rfl (Ev.pos (by omega) ?_)))
    rw [wrap64_id (by omega) (by omega)]
    have e : rd_T55 l (i : Int) = l[i] := getD_eq (by simpa using h)
    simp only [e]
    simpa [cvVal] using hr
  · exact Ev.step (fun k => by rw [laws_toValS.l0]) (by exact Ev.neg (by omega) (Ev.now _))
theorem szCol_some (x : S40) (hw : w40 x) (c : Int) (h0 : 0 ≤ c) (h1 : c ≤ 1048576) : ∃ r, laws_szCol.f x.f0 x.f1 x.f2 x.f3 c = some r ∧ r ≤ c := by
  have b0 : (x.f0.size : Int) ≤ 9223372036854775807 := by have := hw.1; unfold maxLen at this; omega
  unfold laws_szCol.f
  rw [wrap64_id (x := c - (x.f0.size : Int)) (by omega) (by omega)]
  by_cases n0 : c - (x.f0.size : Int) < 0
  · exact ⟨-1, by simp [n0], by omega⟩
  simp only [if_neg n0, Option.bind_some]
  exact ⟨_, rfl, by omega⟩
theorem szColS_ev (l : List S40) (hw : l.length ≤ maxLen) (ht : ∀ x ∈ l, w40 x) (c : Int) (h0 : 0 ≤ c) (h1 : c ≤ 1048576) : ∃ r, Ev (fun k => laws_szColS.f k l c) r ∧ r ≤ c ∧ (0 ≤ r → r + l.length ≤ c) := by
  have hm : l.length ≤ 9223372036854775807 := by unfold maxLen at hw; omega
  unfold laws_szColS.f
  rw [wrap64_id (by omega) (by omega)]
  by_cases hn : c - (l.length : Int) < 0
  · exact ⟨-1, Ev.pos hn (Ev.now _), by omega, by omega⟩
  · obtain ⟨r, hr, hrc⟩ := budget_loop (fun k c i => laws_szColS.l0 k l c i) l.length (fun c i hc0 hc1 hi => by
      have e : rd_T40 l (i : Int) = l[i] := getD_eq (by simpa using hi)
      obtain ⟨c', hc', hle⟩ := szCol_some l[i] (ht l[i] (List.getElem_mem hi)) c hc0 hc1
      refine ⟨c', hle, fun hneg => ?_, fun hpos r hr => ?_⟩
      · exact Ev.step (fun k => by rw [laws_szColS.l0]) (by exact Ev.pos (by omega) (Ev.pos (by omega) (Ev.here (by rw [e]; exact hc') (Ev.pos hneg (Ev.now _)))))
      · refine Ev.step (fun k => by rw [laws_szColS.l0]) ?_
        refine Ev.pos (by omega) (Ev.pos (by omega) (Ev.here (by rw [e]; exact hc') (Ev.neg (by omega) ?_)))
        rw [wrap64_id (by omega) (by omega)]
        simpa using hr)
      (fun c => Ev.step (fun k => by rw [laws_szColS.l0]) (by exact Ev.neg (by omega) (Ev.now _))) (c - l.length) (by omega) (by omega)
    exact ⟨r, Ev.neg hn hr, by omega, by omega⟩
theorem szVal_some (x : S55) (hw : w55 x) (c : Int) (h0 : 0 ≤ c) (h1 : c ≤ 1048576) : ∃ r, laws_szVal.f x.f0 x.f1 c = some r ∧ r ≤ c := by
  have b0 : (x.f1.size : Int) ≤ 9223372036854775807 := by have := hw.2; unfold maxLen at this; omega
  unfold laws_szVal.f
  rw [wrap64_id (x := c - (x.f1.size : Int)) (by omega) (by omega)]
  by_cases n0 : c - (x.f1.size : Int) < 0
  · exact ⟨-1, by simp [n0], by omega⟩
  simp only [if_neg n0, Option.bind_some]
  exact ⟨_, rfl, by omega⟩
theorem szValS_ev (l : List S55) (hw : l.length ≤ maxLen) (ht : ∀ x ∈ l, w55 x) (c : Int) (h0 : 0 ≤ c) (h1 : c ≤ 1048576) : ∃ r, Ev (fun k => laws_szValS.f k l c) r ∧ r ≤ c ∧ (0 ≤ r → r + l.length ≤ c) := by
  have hm : l.length ≤ 9223372036854775807 := by unfold maxLen at hw; omega
  unfold laws_szValS.f
  rw [wrap64_id (by omega) (by omega)]
  by_cases hn : c - (l.length : Int) < 0
  · exact ⟨-1, Ev.pos hn (Ev.now _), by omega, by omega⟩
  · obtain ⟨r, hr, hrc⟩ := budget_loop (fun k c i => laws_szValS.l0 k l c i) l.length (fun c i hc0 hc1 hi => by
      have e : rd_T55 l (i : Int) = l[i] := getD_eq (by simpa using hi)
      obtain ⟨c', hc', hle⟩ := szVal_some l[i] (ht l[i] (List.getElem_mem hi)) c hc0 hc1
      refine ⟨c', hle, fun hneg => ?_, fun hpos r hr => ?_⟩
      · exact Ev.step (fun k => by rw [laws_szValS.l0]) (by exact Ev.pos (by omega) (Ev.pos (by omega) (Ev.here (by rw [e]; exact hc') (Ev.pos hneg (Ev.now _)))))
      · refine Ev.step (fun k => by rw [laws_szValS.l0]) ?_
        refine Ev.pos (by omega) (Ev.pos (by omega) (Ev.here (by rw [e]; exact hc') (Ev.neg (by omega) ?_)))
        rw [wrap64_id (by omega) (by omega)]
        simpa using hr)
      (fun c => Ev.step (fun k => by rw [laws_szValS.l0]) (by exact Ev.neg (by omega) (Ev.now _))) (c - l.length) (by omega) (by omega)
    exact ⟨r, Ev.neg hn hr, by omega, by omega⟩
theorem eqCol_ev (a : S44) : laws_eqCol.f a.f0 a.f1 a.f2 a.f3 a.f0 a.f1 a.f2 a.f3 = some true := by
  unfold laws_eqCol.f
  simp
theorem eqColS_ev (l : List S44) (hl : l.length ≤ 9223372036854775806) : Ev (fun k => laws_eqColS.f k l l) true := by
  unfold laws_eqColS.f
  refine Ev.pos rfl ?_
  refine same_loop (fun k i => laws_eqColS.l0 k l l i) l.length (fun i r h hr => ?_) ?_
  · refine Ev.step (fun k => by rw [laws_eqColS.l0]) ?_
    refine Ev.pos (by omega) (Ev.pos (by omega) (Ev.pos (by omega) (Ev.here (eqCol_ev _) (Ev.pos rfl ?_))))
    rw [wrap64_id (by omega) (by omega)]
    simpa using hr
  · exact Ev.step (fun k => by rw [laws_eqColS.l0]) (by exact Ev.neg (by omega) (Ev.now _))
theorem eqVal_ev (a : S49) : laws_eqVal.f a.f0 a.f1 a.f0 a.f1 = some true := by
  unfold laws_eqVal.f
  simp
theorem eqValS_ev (l : List S49) (hl : l.length ≤ 9223372036854775806) : Ev (fun k => laws_eqValS.f k l l) true := by
  unfold laws_eqValS.f
  refine Ev.pos rfl ?_
  refine same_loop (fun k i => laws_eqValS.l0 k l l i) l.length (fun i r h hr => ?_) ?_
  · refine Ev.step (fun k => by rw [laws_eqValS.l0]) ?_
    refine Ev.pos (by omega) (Ev.pos (by omega) (Ev.pos (by omega) (Ev.here (eqVal_ev _) (Ev.pos rfl ?_))))
    rw [wrap64_id (by omega) (by omega)]
    simpa using hr
  · exact Ev.step (fun k => by rw [laws_eqValS.l0]) (by exact Ev.neg (by omega) (Ev.now _))
def tOk (t : Int) : Bool := decide (t = 0 ∨ t = 1 ∨ t = 2 ∨ t = 5 ∨ t = 6)
theorem l5Type_some (t : Int) : spec_l5Type.f t = some (tOk t) := by
  unfold spec_l5Type.f
  (repeat' split) <;> simp_all [tOk]
theorem l1In_same (x lo hi : Int) : (if x ≥ lo then some (decide (x ≤ hi)) else some false) = some (decide (lo ≤ x ∧ x ≤ hi)) := by
  by_cases h : x ≥ lo
  · rw [if_pos h]; congr 1; simp; omega
  · rw [if_neg h]; congr 1; symm; simp; omega
theorem within_some (x lo hi : Int) : impl_within.f x lo hi = some (decide (lo ≤ x ∧ x ≤ hi)) := by unfold impl_within.f; exact l1In_same x lo hi
theorem typeOk_some (t : Int) : impl_TypeOk.f t = some (tOk t) := by
  unfold impl_TypeOk.f
  rw [within_some]
  simp only [Option.bind_some]
  by_cases h : 0 ≤ t ∧ t ≤ 2
  · rw [if_pos (by simpa using h)]
    have : t = 0 ∨ t = 1 ∨ t = 2 := by omega
    rcases this with rfl | rfl | rfl <;> rfl
  · rw [if_neg (by simpa using h)]
    by_cases h5 : t = 5
    · subst h5; rfl
    · rw [if_neg h5]
      by_cases h6 : t = 6
      · subst h6; rfl
      · have h0 : t ≠ 0 := by omega
        have h1 : t ≠ 1 := by omega
        have h2 : t ≠ 2 := by omega
        simp [tOk, h0, h1, h2, h5, h6]
def noText (s : ByteArray) : Bool := s.toList == ([] : List UInt8)
def vOk (t : Int) (v : S49) : Bool :=
  if t = 0 then decide (0 ≤ v.f0 ∧ v.f0 ≤ 1) && noText v.f1
  else if t = 1 then decide (-2147483648 ≤ v.f0 ∧ v.f0 ≤ 2147483647) && noText v.f1
  else if t = 2 ∨ t = 5 then noText v.f1
  else if t = 6 then decide (v.f0 = 0) && decide ((v.f1.size : Int) ≤ 40) else false
theorem l1In_some (x lo hi : Int) : spec_l1In.f x lo hi = some (decide (lo ≤ x ∧ x ≤ hi)) := by unfold spec_l1In.f; exact l1In_same x lo hi
theorem impl_ValOk_some (t : Int) (v : S49) : impl_ValOk.f t v.f0 v.f1 = some (vOk t v) := by
  unfold impl_ValOk.f impl_isInt32.f vOk noText
  simp only [within_some, Option.bind_some]
  by_cases h0 : t = 0
  · rw [if_pos h0, if_pos h0]; by_cases h : 0 ≤ v.f0 ∧ v.f0 ≤ 1 <;> simp [h]
  rw [if_neg h0, if_neg h0]
  by_cases h1 : t = 1
  · rw [if_pos h1, if_pos h1]; by_cases h : -2147483648 ≤ v.f0 ∧ v.f0 ≤ 2147483647 <;> simp [h]
  rw [if_neg h1, if_neg h1]
  by_cases h2 : t = 2
  · rw [if_pos h2, if_pos (show t = 2 ∨ t = 5 from .inl h2)]
  rw [if_neg h2]
  by_cases h5 : t = 5
  · rw [if_pos h5, if_pos (show t = 2 ∨ t = 5 from .inr h5)]
  rw [if_neg h5, if_neg (show ¬ (t = 2 ∨ t = 5) by omega)]
  by_cases h6 : t = 6
  · rw [if_pos h6, if_pos h6]; by_cases h : v.f0 = 0 <;> simp [h]
  · rw [if_neg h6, if_neg h6]
theorem spec_ValOk_ev (t : Int) (v : S49) : Ev (fun k => spec_ValOk.f k t v.f0 v.f1) (vOk t v) := by
  refine ⟨2, fun k hk => ?_⟩
  obtain ⟨m, rfl⟩ : ∃ m, k = m + 2 := ⟨k - 2, by omega⟩
  unfold spec_ValOk.f spec_l4Int.f vOk noText
  simp only [l1In_some, Option.bind_some, spec_ValOk.j0]
  by_cases h0 : t = 0
  · rw [if_pos h0, if_pos h0]; by_cases h : 0 ≤ v.f0 ∧ v.f0 ≤ 1 <;> simp [h]
  rw [if_neg h0, if_neg h0]
  by_cases h1 : t = 1
  · rw [if_pos h1, if_pos h1]; by_cases h : -2147483648 ≤ v.f0 ∧ v.f0 ≤ 2147483647 <;> simp [h]
  rw [if_neg h1, if_neg h1]
  by_cases h2 : t = 2
  · rw [if_pos (show t = 2 ∨ t = 5 from .inl h2)]; simp [h2]
  rw [if_neg h2]
  by_cases h5 : t = 5
  · rw [if_pos (show t = 2 ∨ t = 5 from .inr h5)]; simp [h5]
  rw [if_neg (show ¬ (t = 2 ∨ t = 5) by omega)]
  by_cases h6 : t = 6
  · rw [if_pos h6]; by_cases h : v.f0 = 0 <;> simp [h, h6]
  · rw [if_neg h6]; simp [h5, h6]
def nameOk (b : ByteArray) : Bool := decide (1 ≤ (b.size : Int) ∧ (b.size : Int) ≤ 20) && (List.range b.size).all (fun (i : Nat) => decide (97 ≤ bt b (i : Int) ∧ bt b (i : Int) ≤ 122))
theorem spec_l5Name_ev (b : ByteArray) (hb : b.size ≤ 9223372036854775807) : Ev (fun k => spec_l5Name.f k b) (nameOk b) := by
  unfold spec_l5Name.f nameOk
  refine Ev.here (l1In_some _ _ _) ?_
  by_cases h : 1 ≤ (b.size : Int) ∧ (b.size : Int) ≤ 20
  · rw [decide_eq_true h]
    refine Ev.pos rfl ?_
    have key := all_loop (fun k i => spec_l5Name.l0 k b i) (fun (i : Nat) => decide (97 ≤ bt b (i : Int) ∧ bt b (i : Int) ≤ 122)) b.size false true
      (fun i r hi hp hr => by
        have hp' := of_decide_eq_true hp
        refine Ev.step (fun k => by rw [spec_l5Name.l0]) ?_
        refine Ev.pos (by omega) (Ev.pos (by omega) (Ev.neg (by omega) (Ev.neg (by omega) ?_)))
        rw [wrap64_id (by omega) (by omega)]
        simpa using hr)
      (fun i hi hp => by
        have hp' := of_decide_eq_false hp
        refine Ev.step (fun k => by rw [spec_l5Name.l0]) ?_
        refine Ev.pos (by omega) (Ev.pos (by omega) ?_)
        by_cases h1 : bt b (i : Int) < 97
        · exact Ev.pos h1 (Ev.now _)
        · exact Ev.neg h1 (Ev.pos (by omega) (Ev.now _)))
      (by exact Ev.step (fun k => by rw [spec_l5Name.l0]) (by exact Ev.neg (by omega) (Ev.now _)))
    refine Ev.cast key ?_
    cases (List.range b.size).all _ <;> rfl
  · rw [decide_eq_false h]
    exact Ev.neg (by decide) (Ev.now _)
theorem impl_isColName_ev (b : ByteArray) (hb : b.size ≤ 9223372036854775807) : Ev (fun k => impl_isColName.f k b) (nameOk b) := by
  unfold impl_isColName.f nameOk
  have key := all_loop (fun k i => impl_isColName.l0 k b (b.size : Int) i) (fun (i : Nat) => decide (97 ≤ bt b (i : Int) ∧ bt b (i : Int) ≤ 122)) b.size false (decide (1 ≤ (b.size : Int) ∧ (b.size : Int) ≤ 20))
    (fun i r hi hp hr => by
      have hp' := of_decide_eq_true hp
      refine Ev.step (fun k => by rw [impl_isColName.l0]) ?_
      rw [wrap64_id (x := bt b (i : Int)) (by omega) (by omega)]
      refine Ev.pos (by omega) (Ev.pos (by omega) (Ev.pos (by omega) (Ev.here (within_some _ _ _) (Ev.pos hp ?_))))
      rw [wrap64_id (by omega) (by omega)]
      simpa using hr)
    (fun i hi hp => by
      have hrg := bt_range b (i : Int)
      refine Ev.step (fun k => by rw [impl_isColName.l0]) ?_
      rw [wrap64_id (x := bt b (i : Int)) (by omega) (by omega)]
      refine Ev.pos (by omega) (Ev.pos (by omega) (Ev.pos (by omega) (Ev.here (within_some _ _ _) ?_)))
      rw [hp]
      exact Ev.neg (by decide) (Ev.now _))
    (by
      refine Ev.step (fun k => by rw [impl_isColName.l0]) ?_
      exact Ev.neg (by omega) (Ev.here (within_some _ _ _) (Ev.now _)))
  refine Ev.cast key ?_
  cases (List.range b.size).all _ <;> simp
def colB (root : Bool) (c : S44) : Bool := (if c.f1 = 7 then decide (1 ≤ c.f3) else tOk c.f1 && decide (c.f3 = 0)) && decide (0 ≤ c.f2 ∧ c.f2 ≤ 2) && (root || nameOk c.f0)
def parts (f : Int → Int) (s : List S44) : Nat → Int → List ByteArray → Int
  | 0, next, _ => next
  | n + 1, next, names => if next ≥ (s.length : Int) then -1 else if names.any (fun x => decide (x.toList = (rd_T44 s next).f0.toList)) then -1 else if f next < 0 then -1 else parts f s n (f next) (names ++ [(rd_T44 s next).f0])
def chk (s : List S44) : Nat → Int → Int
  | 0, _ => -1
  | d + 1, p => if p ≥ (s.length : Int) then -1 else if colB (decide (p = 0)) (rd_T44 s p) = true then parts (chk s d) s (rd_T44 s p).f3.toNat (p + 1) [] else -1
theorem parts_range (f : Int → Int) (s : List S44) (hf : ∀ p, 0 ≤ p → f p = -1 ∨ (p < f p ∧ f p ≤ s.length)) : ∀ (n : Nat) (next : Int) (names : List ByteArray), 0 ≤ next → next ≤ s.length → parts f s n next names = -1 ∨ (next ≤ parts f s n next names ∧ parts f s n next names ≤ s.length)
  | 0, next, names, h0, h1 => .inr ⟨by simp [parts], by simp [parts]; exact h1⟩
  | n + 1, next, names, h0, h1 => by
    unfold parts
    split
    · exact .inl rfl
    split
    · exact .inl rfl
    split
    · exact .inl rfl
    · have hn := hf next h0
      have := parts_range f s hf n (f next) (names ++ [(rd_T44 s next).f0]) (by omega) (by omega)
      omega
theorem chk_range (s : List S44) : ∀ (d : Nat) (p : Int), 0 ≤ p → chk s d p = -1 ∨ (p < chk s d p ∧ chk s d p ≤ s.length)
  | 0, p, h => .inl rfl
  | d + 1, p, h => by
    unfold chk
    split
    · exact .inl rfl
    split
    · have := parts_range (chk s d) s (fun q hq => chk_range s d q hq) (rd_T44 s p).f3.toNat (p + 1) [] (by omega) (by omega)
      omega
    · exact .inl rfl
/-- A row of columns whose names are no longer than Go's int, and that are not too many. -/
def ColsOk (s : List S44) : Prop := s.length ≤ 1048576 ∧ (∀ i : Int, (rd_T44 s i).f0.size ≤ 9223372036854775807) ∧ (∀ i : Int, (rd_T44 s i).f3 ≤ 9223372036854775807)
theorem colOk_some (c : S44) : impl_colOk.f c.f0 c.f1 c.f2 c.f3 = some ((if c.f1 = 7 then decide (1 ≤ c.f3) else tOk c.f1 && decide (c.f3 = 0)) && decide (0 ≤ c.f2 ∧ c.f2 ≤ 2)) := by
  unfold impl_colOk.f
  simp only [typeOk_some, within_some, Option.bind_some]
  by_cases h7 : c.f1 = 7
  · rw [if_pos h7, if_pos h7]
    have ht : tOk c.f1 = false := by rw [h7]; rfl
    rw [ht, if_neg (by decide)]
    by_cases h : c.f3 > 0
    · rw [if_pos h, decide_eq_true (show 1 ≤ c.f3 by omega)]; rfl
    · rw [if_neg h, decide_eq_false (show ¬ 1 ≤ c.f3 by omega)]; rfl
  · rw [if_neg h7, if_neg h7]
    cases ht : tOk c.f1 with
    | false => rw [if_neg (by decide)]; rfl
    | true =>
      rw [if_pos rfl]
      by_cases h : c.f3 = 0
      · rw [if_pos h, decide_eq_true h]; rfl
      · rw [if_neg h, decide_eq_false h]; rfl
theorem impl_colAfter_ev (s : List S44) (hs : ColsOk s) : ∀ (d : Nat) (p : Int), d ≤ 7 → 0 ≤ p → p ≤ s.length → Ev (fun k => impl_colAfter.f k s p (7 - (d : Int))) (chk s d p) := by
  obtain ⟨hl, hn, hm⟩ := hs
  have bad : ∀ p dd, Ev (fun k => impl_colAfter.j0 k s p dd true) (-1) := fun p dd => Ev.step (fun k => by rw [impl_colAfter.j0]) (by exact Ev.pos rfl (Ev.now _))
  intro d
  induction d with
  | zero =>
    intro p _ h0 h1
    refine Ev.step (fun k => by rw [impl_colAfter.f]) ?_
    by_cases h : p ≥ (s.length : Int)
    · exact Ev.pos h (bad _ _)
    · exact Ev.neg h (Ev.pos (by omega) (bad _ _))
  | succ d ih =>
    intro p hd h0 h1
    refine Ev.step (fun k => by rw [impl_colAfter.f]) ?_
    unfold chk
    by_cases h : p ≥ (s.length : Int)
    · rw [if_pos h]; exact Ev.pos h (bad _ _)
    rw [if_neg h]
    refine Ev.neg h (Ev.neg (by omega) (Ev.pos h0 (Ev.pos (by omega) (Ev.here (colOk_some (rd_T44 s p)) ?_))))
    have inner : ∀ (n : Nat) (i next : Int) (names : List ByteArray), i + n = (rd_T44 s p).f3 → 0 ≤ i → 0 ≤ next → next ≤ s.length → (names.length : Int) ≤ next →
        Ev (fun k => impl_colAfter.l0 k s (7 - ((d + 1 : Nat) : Int)) next names (rd_T44 s p).f3 i) (parts (chk s d) s n next names) := by
      intro n
      induction n with
      | zero =>
        intro i next names hi i0 n0 n1 nl
        exact Ev.step (fun k => by rw [impl_colAfter.l0]) (by exact Ev.neg (by omega) (Ev.now _))
      | succ n ihn =>
        intro i next names hi i0 n0 n1 nl
        refine Ev.step (fun k => by rw [impl_colAfter.l0]) ?_
        unfold parts
        refine Ev.pos (by omega) ?_
        by_cases hx : next ≥ (s.length : Int)
        · rw [if_pos hx]; exact Ev.pos hx (Ev.now _)
        rw [if_neg hx]
        refine Ev.neg hx ?_
        have rest : ∀ (m j : Nat), j + m = names.length → Ev (fun k => impl_colAfter.l1 k s (7 - ((d + 1 : Nat) : Int)) next names (rd_T44 s p).f3 i (names.length : Int) (j : Int))
            (if (names.drop j).any (fun x => decide (x.toList = (rd_T44 s next).f0.toList)) then -1 else if chk s d next < 0 then -1 else parts (chk s d) s n (chk s d next) (names ++ [(rd_T44 s next).f0])) := by
          intro m
          induction m with
          | zero =>
            intro j hj
            rw [List.drop_eq_nil_of_le (by omega)]
            rw [if_neg (by simp)]
            refine Ev.step (fun k => by rw [impl_colAfter.l1]) ?_
            refine Ev.neg (by omega) (Ev.pos n0 (Ev.pos (by omega) (Ev.pos (by omega) ?_)))
            have e : wrap64 (7 - ((d + 1 : Nat) : Int) + 1) = 7 - (d : Int) := by rw [wrap64_id (by omega) (by omega)]; omega
            rw [e]
            refine Ev.bind (ih next (by omega) n0 n1) ?_
            have hr := chk_range s d next n0
            by_cases hneg : chk s d next < 0
            · rw [if_pos hneg]; exact Ev.pos hneg (Ev.now _)
            · rw [if_neg hneg]
              refine Ev.neg hneg ?_
              have hmm := hm p
              rw [wrap64_id (x := i + 1) (by omega) (by omega)]
              exact ihn (i + 1) (chk s d next) (names ++ [(rd_T44 s next).f0]) (by omega) (by omega) (by omega) (by omega) (by simp; omega)
          | succ m ihm =>
            intro j hj
            have hjl : j < names.length := by omega
            have ed : names.drop j = names[j] :: names.drop (j + 1) := List.drop_eq_getElem_cons hjl
            refine Ev.step (fun k => by rw [impl_colAfter.l1]) ?_
            refine Ev.pos (by omega) (Ev.pos (by omega) (Ev.pos (by omega) (Ev.pos n0 (Ev.pos (by omega) ?_))))
            rw [rdOf_eq (by omega)]
            have ej : names[((j : Int)).toNat]'(by omega) = names[j] := rfl
            rw [ej, ed, List.any_cons]
            by_cases he : (names[j]).toList = (rd_T44 s next).f0.toList
            · rw [decide_eq_true he]; exact Ev.pos he (Ev.now _)
            · rw [decide_eq_false he]
              refine Ev.neg he ?_
              rw [wrap64_id (x := (j : Int) + 1) (by omega) (by omega)]
              exact ihm (j + 1) (by omega)
        exact rest names.length 0 (by omega)
    have hx : ∀ b : Bool, colB (decide (p = 0)) (rd_T44 s p) = !b → Ev (fun k => impl_colAfter.j0 k s p (7 - ((d + 1 : Nat) : Int)) b) (if colB (decide (p = 0)) (rd_T44 s p) = true then parts (chk s d) s (rd_T44 s p).f3.toNat (p + 1) [] else -1) := by
      intro b hb
      cases b with
      | true => rw [hb, if_neg (by decide)]; exact bad _ _
      | false =>
        rw [hb, if_pos (show (!false) = true from rfl)]
        refine Ev.step (fun k => by rw [impl_colAfter.j0]) ?_
        have hm0 : 0 ≤ (rd_T44 s p).f3 := by
          unfold colB at hb
          by_cases h7 : (rd_T44 s p).f1 = 7
          · rw [if_pos h7] at hb; simp at hb; omega
          · rw [if_neg h7] at hb; simp at hb; omega
        refine Ev.neg (by decide) (Ev.pos h0 (Ev.pos (by omega) ?_))
        rw [wrap64_id (x := p + 1) (by omega) (by omega)]
        exact inner (rd_T44 s p).f3.toNat 0 (p + 1) [] (by omega) (by omega) (by omega) (by omega) (by simp; omega)
    cases hc : ((if (rd_T44 s p).f1 = 7 then decide (1 ≤ (rd_T44 s p).f3) else tOk (rd_T44 s p).f1 && decide ((rd_T44 s p).f3 = 0)) && decide (0 ≤ (rd_T44 s p).f2 ∧ (rd_T44 s p).f2 ≤ 2)) with
    | false => exact Ev.neg (by decide) (hx true (by unfold colB; rw [hc]; rfl))
    | true =>
      refine Ev.pos rfl ?_
      by_cases hp0 : p > 0
      · refine Ev.pos hp0 (Ev.bind (impl_isColName_ev _ (hn p)) ?_)
        exact hx _ (by unfold colB; rw [hc, decide_eq_false (show ¬ p = 0 by omega)]; simp)
      · refine Ev.neg hp0 ?_
        exact hx false (by unfold colB; rw [hc, decide_eq_true (show p = 0 by omega)]; simp)
def rootB (c : S44) : Bool := decide (c.f1 = 7) && decide (c.f2 = 0) && decide (c.f0.toList = ([] : List UInt8))
theorem spec_l5Check_ev (s : List S44) (hs : ColsOk s) : ∀ (d : Nat) (p : Int), d ≤ 7 → 0 ≤ p → p ≤ s.length → Ev (fun k => spec_l5Check.f k s p (7 - (d : Int))) (if p = 0 ∧ rootB (rd_T44 s p) = false then -1 else chk s d p) := by
  obtain ⟨hl, hn, hm⟩ := hs
  have bad : ∀ p dd, Ev (fun k => spec_l5Check.j0 k s p dd true) (-1) := fun p dd => Ev.step (fun k => by rw [spec_l5Check.j0]) (by exact Ev.pos rfl (Ev.now _))
  intro d
  induction d with
  | zero =>
    intro p _ h0 h1
    refine Ev.step (fun k => by rw [spec_l5Check.f]) ?_
    have e : (if p = 0 ∧ rootB (rd_T44 s p) = false then -1 else chk s 0 p) = -1 := by split <;> rfl
    rw [e]
    by_cases h : p ≥ (s.length : Int)
    · exact Ev.pos h (bad _ _)
    · refine Ev.neg h ?_
      have : decide (7 - ((0 : Nat) : Int) > 6) = true := by decide
      rw [this]; exact bad _ _
  | succ d ih =>
    intro p hd h0 h1
    refine Ev.step (fun k => by rw [spec_l5Check.f]) ?_
    by_cases h : p ≥ (s.length : Int)
    · have e : (if p = 0 ∧ rootB (rd_T44 s p) = false then -1 else chk s (d + 1) p) = -1 := by
        split
        · rfl
        · unfold chk; rw [if_pos h]
      rw [e]; exact Ev.pos h (bad _ _)
    refine Ev.neg h ?_
    have hdd : decide (7 - ((d + 1 : Nat) : Int) > 6) = false := decide_eq_false (by omega)
    rw [hdd]
    refine Ev.step (fun k => by rw [spec_l5Check.j0]) ?_
    refine Ev.neg (by decide) (Ev.pos h0 (Ev.pos (by omega) ?_))
    have inner : ∀ (n : Nat) (i next : Int) (names : List ByteArray), i + n = (rd_T44 s p).f3 → 0 ≤ i → 0 < next → next ≤ s.length → (names.length : Int) ≤ next →
        Ev (fun k => spec_l5Check.l0 k s (7 - ((d + 1 : Nat) : Int)) next names i (rd_T44 s p).f0 (rd_T44 s p).f1 (rd_T44 s p).f2 (rd_T44 s p).f3) (parts (chk s d) s n next names) := by
      intro n
      induction n with
      | zero =>
        intro i next names hi i0 n0 n1 nl
        exact Ev.step (fun k => by rw [spec_l5Check.l0]) (by exact Ev.neg (by omega) (Ev.now _))
      | succ n ihn =>
        intro i next names hi i0 n0 n1 nl
        refine Ev.step (fun k => by rw [spec_l5Check.l0]) ?_
        unfold parts
        refine Ev.pos (by omega) ?_
        by_cases hx : next ≥ (s.length : Int)
        · rw [if_pos hx]; exact Ev.pos hx (Ev.now _)
        rw [if_neg hx]
        refine Ev.neg hx ?_
        have rest : ∀ (m j : Nat), j + m = names.length → Ev (fun k => spec_l5Check.l1 k s (7 - ((d + 1 : Nat) : Int)) next names i (j : Int) (rd_T44 s p).f0 (rd_T44 s p).f1 (rd_T44 s p).f2 (rd_T44 s p).f3)
            (if (names.drop j).any (fun x => decide (x.toList = (rd_T44 s next).f0.toList)) then -1 else if chk s d next < 0 then -1 else parts (chk s d) s n (chk s d next) (names ++ [(rd_T44 s next).f0])) := by
          intro m
          induction m with
          | zero =>
            intro j hj
            rw [List.drop_eq_nil_of_le (by omega)]
            rw [if_neg (by simp)]
            refine Ev.step (fun k => by rw [spec_l5Check.l1]) ?_
            refine Ev.neg (by omega) (Ev.pos (by omega) (Ev.pos (by omega) (Ev.pos (by omega) ?_)))
            have e : wrap64 (7 - ((d + 1 : Nat) : Int) + 1) = 7 - (d : Int) := by rw [wrap64_id (by omega) (by omega)]; omega
            rw [e]
            have hih := ih next (by omega) (by omega) n1
            rw [if_neg (by omega)] at hih
            refine Ev.bind hih ?_
            have hr := chk_range s d next (by omega)
            by_cases hneg : chk s d next < 0
            · rw [if_pos hneg]; exact Ev.pos hneg (Ev.now _)
            · rw [if_neg hneg]
              refine Ev.neg hneg ?_
              have hmm := hm p
              rw [wrap64_id (x := i + 1) (by omega) (by omega)]
              exact ihn (i + 1) (chk s d next) (names ++ [(rd_T44 s next).f0]) (by omega) (by omega) (by omega) (by omega) (by simp; omega)
          | succ m ihm =>
            intro j hj
            have hjl : j < names.length := by omega
            have ed : names.drop j = names[j] :: names.drop (j + 1) := List.drop_eq_getElem_cons hjl
            refine Ev.step (fun k => by rw [spec_l5Check.l1]) ?_
            refine Ev.pos (by omega) (Ev.pos (by omega) (Ev.pos (by omega) (Ev.pos (by omega) ?_)))
            rw [rdOf_eq (by omega)]
            have ej : names[((j : Int)).toNat]'(by omega) = names[j] := rfl
            rw [ej, ed, List.any_cons]
            by_cases he : (names[j]).toList = (rd_T44 s next).f0.toList
            · rw [decide_eq_true he]; exact Ev.pos he (Ev.now _)
            · rw [decide_eq_false he]
              refine Ev.neg he ?_
              rw [wrap64_id (x := (j : Int) + 1) (by omega) (by omega)]
              exact ihm (j + 1) (by omega)
        exact rest names.length 0 (by omega)
    -- what stands behind the checks of the name and of the kind of repetition
    have hx : ∀ b : Bool, (!b) = (decide (0 ≤ (rd_T44 s p).f2 ∧ (rd_T44 s p).f2 ≤ 2) && (decide (p = 0) || nameOk (rd_T44 s p).f0)) → Ev (fun k => spec_l5Check.j1 k s p (7 - ((d + 1 : Nat) : Int)) b (rd_T44 s p).f0 (rd_T44 s p).f1 (rd_T44 s p).f2 (rd_T44 s p).f3) (chk s (d + 1) p) := by
      intro b hb
      unfold chk
      rw [if_neg h]
      refine Ev.step (fun k => by rw [spec_l5Check.j1]) ?_
      unfold colB
      rw [Bool.and_assoc, ← hb]
      cases b with
      | true => rw [Bool.not_true, Bool.and_false, if_neg (show ¬ (false = true) by decide)]; exact Ev.pos rfl (Ev.now _)
      | false =>
        rw [Bool.not_false, Bool.and_true]
        refine Ev.neg (by decide) ?_
        by_cases h7 : (rd_T44 s p).f1 = 7
        · refine Ev.pos h7 ?_
          rw [if_pos h7]
          by_cases h3 : (rd_T44 s p).f3 < 1
          · rw [decide_eq_false (show ¬ 1 ≤ (rd_T44 s p).f3 by omega), if_neg (show ¬ (false = true) by decide)]; exact Ev.pos h3 (Ev.now _)
          · rw [decide_eq_true (show 1 ≤ (rd_T44 s p).f3 by omega), if_pos (show true = true from rfl)]
            refine Ev.neg h3 ?_
            rw [wrap64_id (x := p + 1) (by omega) (by omega)]
            exact inner (rd_T44 s p).f3.toNat 0 (p + 1) [] (by omega) (by omega) (by omega) (by omega) (by simp; omega)
        · refine Ev.neg h7 (Ev.here (l5Type_some _) ?_)
          rw [if_neg h7]
          cases ht : tOk (rd_T44 s p).f1 with
          | false => exact Ev.neg (show ¬ (false = true) by decide) (Ev.const rfl)
          | true =>
            refine Ev.pos rfl ?_
            by_cases h3 : (rd_T44 s p).f3 = 0
            · rw [decide_eq_true h3, if_pos (show (true && true) = true from rfl), h3]
              refine Ev.pos rfl (Ev.const ?_)
              rw [wrap64_id (x := p + 1) (by omega) (by omega)]; rfl
            · rw [decide_eq_false h3, if_neg (show ¬ ((true && false) = true) by decide)]; exact Ev.neg h3 (Ev.now _)
    by_cases hp0 : p = 0
    · refine Ev.pos hp0 ?_
      have hbad : rootB (rd_T44 s p) = false → Ev (fun k => spec_l5Check.j1 k s p (7 - ((d + 1 : Nat) : Int)) true (rd_T44 s p).f0 (rd_T44 s p).f1 (rd_T44 s p).f2 (rd_T44 s p).f3) (if p = 0 ∧ rootB (rd_T44 s p) = false then -1 else chk s (d + 1) p) := fun hr => by
        rw [if_pos ⟨hp0, hr⟩]
        exact Ev.step (fun k => by rw [spec_l5Check.j1]) (by exact Ev.pos rfl (Ev.now _))
      by_cases r1 : (rd_T44 s p).f0.toList = ([] : List UInt8)
      · refine Ev.pos r1 ?_
        by_cases r2 : (rd_T44 s p).f2 = 0
        · refine Ev.pos r2 ?_
          by_cases r3 : (rd_T44 s p).f1 = 7
          · refine Ev.pos r3 (Ev.neg (by omega) (Ev.here (l1In_some _ _ _) ?_))
            have hr : rootB (rd_T44 s p) = true := by unfold rootB; rw [decide_eq_true r1, decide_eq_true r2, decide_eq_true r3]; rfl
            rw [if_neg (by rw [hr]; simp)]
            exact hx _ (by rw [decide_eq_true hp0]; simp)
          · exact Ev.neg r3 (hbad (by unfold rootB; rw [decide_eq_false r3]; simp))
        · exact Ev.neg r2 (hbad (by unfold rootB; rw [decide_eq_false r2]; simp))
      · exact Ev.neg r1 (hbad (by unfold rootB; rw [decide_eq_false r1]; simp))
    · rw [if_neg (by omega)]
      refine Ev.neg hp0 (Ev.pos (by omega) (Ev.bind (spec_l5Name_ev _ (hn p)) ?_))
      cases hnm : nameOk (rd_T44 s p).f0 with
      | true =>
        refine Ev.pos rfl (Ev.here (l1In_some _ _ _) ?_)
        exact hx _ (by rw [hnm]; simp)
      | false => exact Ev.neg (by decide) (hx true (by rw [hnm, decide_eq_false hp0]; simp))
def schOk (s : List S44) : Bool := decide (2 ≤ (s.length : Int) ∧ (s.length : Int) ≤ 20) && rootB (rd_T44 s 0) && decide (chk s 6 0 = (s.length : Int))
theorem impl_SchemaOk_ev (s : List S44) (hs : ColsOk s) : Ev (fun k => impl_SchemaOk.f k s) (schOk s) := by
  unfold impl_SchemaOk.f schOk
  refine Ev.here (within_some _ _ _) ?_
  by_cases h : 2 ≤ (s.length : Int) ∧ (s.length : Int) ≤ 20
  · rw [decide_eq_true h]
    refine Ev.pos rfl (Ev.pos (by omega) ?_)
    unfold rootB
    by_cases r3 : (rd_T44 s 0).f1 = 7
    · refine Ev.pos r3 ?_
      by_cases r2 : (rd_T44 s 0).f2 = 0
      · refine Ev.pos r2 ?_
        by_cases r1 : (rd_T44 s 0).f0.toList = ([] : List UInt8)
        · refine Ev.pos r1 (Ev.bind (impl_colAfter_ev s hs 6 0 (by omega) (by omega) (by omega)) (Ev.const ?_))
          rw [decide_eq_true r1, decide_eq_true r2, decide_eq_true r3]
          rfl
        · refine Ev.neg r1 (Ev.const ?_); rw [decide_eq_false r1]; simp
      · refine Ev.neg r2 (Ev.const ?_); rw [decide_eq_false r2]; simp
    · refine Ev.neg r3 (Ev.const ?_); rw [decide_eq_false r3]; simp
  · rw [decide_eq_false h]
    exact Ev.neg (by decide) (Ev.now _)
theorem spec_SchemaOk_ev (s : List S44) (hs : ColsOk s) : Ev (fun k => spec_SchemaOk.f k s) (schOk s) := by
  unfold spec_SchemaOk.f schOk
  refine Ev.here (l1In_some _ _ _) ?_
  by_cases h : 2 ≤ (s.length : Int) ∧ (s.length : Int) ≤ 20
  · rw [decide_eq_true h]
    refine Ev.pos rfl (Ev.bind (spec_l5Check_ev s hs 6 0 (by omega) (by omega) (by omega)) (Ev.const ?_))
    cases hr : rootB (rd_T44 s 0) with
    | false =>
      rw [if_pos ⟨rfl, rfl⟩]
      have : ((-1 : Int) == (s.length : Int)) = false := by simp
      rw [this]; rfl
    | true =>
      rw [if_neg (by simp)]
      rfl
  · rw [decide_eq_false h]
    exact Ev.neg (by decide) (Ev.now _)
theorem parts_mono (f g : Int → Int) (s : List S44) (hr : ∀ p, 0 ≤ p → f p = -1 ∨ (p < f p ∧ f p ≤ s.length)) (hg : ∀ p, 0 ≤ p → f p ≠ -1 → g p = f p) :
    ∀ (n : Nat) (next : Int) (names : List ByteArray), 0 ≤ next → parts f s n next names ≠ -1 → parts g s n next names = parts f s n next names
  | 0, _, _, _, _ => rfl
  | n + 1, next, names, h0, h => by
    unfold parts at h ⊢
    by_cases h1 : next ≥ (s.length : Int)
    · rw [if_pos h1, if_pos h1]
    rw [if_neg h1] at h
    rw [if_neg h1, if_neg h1]
    by_cases h2 : names.any (fun x => decide (x.toList = (rd_T44 s next).f0.toList)) = true
    · rw [if_pos h2, if_pos h2]
    rw [if_neg h2] at h
    rw [if_neg h2, if_neg h2]
    by_cases h3 : f next < 0
    · rw [if_pos h3] at h; exact absurd rfl h
    rw [if_neg h3] at h
    have e := hg next h0 (by omega)
    rw [e, if_neg h3, if_neg h3]
    have := hr next h0
    exact parts_mono f g s hr hg n (f next) _ (by omega) h
theorem chk_mono (s : List S44) : ∀ (d : Nat) (p : Int), 0 ≤ p → chk s d p ≠ -1 → chk s (d + 1) p = chk s d p
  | 0, p, h0, h => absurd rfl h
  | d + 1, p, h0, h => by
    rw [chk] at h ⊢
    rw [show chk s (d + 1) p = if p ≥ (s.length : Int) then -1 else if colB (decide (p = 0)) (rd_T44 s p) = true then parts (chk s d) s (rd_T44 s p).f3.toNat (p + 1) [] else -1 from rfl]
    by_cases h1 : p ≥ (s.length : Int)
    · rw [if_pos h1, if_pos h1]
    rw [if_neg h1] at h
    rw [if_neg h1, if_neg h1]
    by_cases h2 : colB (decide (p = 0)) (rd_T44 s p) = true
    · rw [if_pos h2] at h
      rw [if_pos h2, if_pos h2]
      exact parts_mono (chk s d) (chk s (d + 1)) s (fun q hq => chk_range s d q hq) (fun q hq hn => chk_mono s d q hq hn) _ _ _ (by omega) h
    · rw [if_neg h2, if_neg h2]
/-- Where the column at p and its parts end. -/
def en (s : List S44) (p : Int) : Int := chk s 6 p
theorem chk_en (s : List S44) (p : Int) (h0 : 0 ≤ p) : ∀ (m d : Nat), d + m = 6 → chk s d p ≠ -1 → en s p = chk s d p := by
  intro m
  induction m with
  | zero => intro d hd h; obtain rfl : d = 6 := by omega
            rfl
  | succ m ih =>
    intro d hd h
    have := chk_mono s d p h0 h
    rw [← this]
    exact ih (d + 1) (by omega) (by rw [this]; exact h)
theorem parts_inside (f : Int → Int) (s : List S44) (hr : ∀ p, 0 ≤ p → f p = -1 ∨ (p < f p ∧ f p ≤ s.length)) (hi : ∀ p, 0 ≤ p → f p ≠ -1 → ∀ q, p ≤ q → q < f p → en s q ≠ -1 ∧ en s q ≤ f p) :
    ∀ (n : Nat) (next : Int) (names : List ByteArray), 0 ≤ next → parts f s n next names ≠ -1 → ∀ q, next ≤ q → q < parts f s n next names → en s q ≠ -1 ∧ en s q ≤ parts f s n next names
  | 0, next, _, _, _, q, h1, h2 => by unfold parts at h2; omega
  | n + 1, next, names, h0, h, q, hq1, hq2 => by
    rw [parts] at h hq2 ⊢
    by_cases h1 : next ≥ (s.length : Int)
    · rw [if_pos h1] at h; exact absurd rfl h
    rw [if_neg h1] at h hq2 ⊢
    by_cases h2 : names.any (fun x => decide (x.toList = (rd_T44 s next).f0.toList)) = true
    · rw [if_pos h2] at h; exact absurd rfl h
    rw [if_neg h2] at h hq2 ⊢
    by_cases h3 : f next < 0
    · rw [if_pos h3] at h; exact absurd rfl h
    rw [if_neg h3] at h hq2 ⊢
    have hn := hr next h0
    have hpr := parts_range f s hr n (f next) (names ++ [(rd_T44 s next).f0]) (by omega) (by omega)
    by_cases h4 : q < f next
    · have := hi next h0 (by omega) q hq1 h4
      exact ⟨this.1, by omega⟩
    · exact parts_inside f s hr hi n (f next) _ (by omega) h q (by omega) hq2
theorem chk_inside (s : List S44) : ∀ (d : Nat), d ≤ 6 → ∀ (p : Int), 0 ≤ p → chk s d p ≠ -1 → ∀ q, p ≤ q → q < chk s d p → en s q ≠ -1 ∧ en s q ≤ chk s d p
  | 0, _, p, h0, h, _, _, _ => absurd rfl h
  | d + 1, hd, p, h0, h, q, hq1, hq2 => by
    by_cases e : q = p
    · have := chk_en s p h0 (6 - (d + 1)) (d + 1) (by omega) h
      rw [e, this]; exact ⟨h, Int.le_refl _⟩
    rw [chk] at h hq2 ⊢
    by_cases h1 : p ≥ (s.length : Int)
    · rw [if_pos h1] at h; exact absurd rfl h
    rw [if_neg h1] at h hq2 ⊢
    by_cases h2 : colB (decide (p = 0)) (rd_T44 s p) = true
    · rw [if_pos h2] at h hq2 ⊢
      exact parts_inside (chk s d) s (fun q hq => chk_range s d q hq) (fun r hr hn => chk_inside s d (by omega) r hr hn) _ _ _ (by omega) h q (by omega) hq2
    · rw [if_neg h2] at h; exact absurd rfl h
theorem spec_l5After_ev (s : List S44) (hs : ColsOk s) : ∀ (d : Nat) (p : Int), 0 ≤ p → chk s d p ≠ -1 → Ev (fun k => spec_l5After.f k s p) (chk s d p)
  | 0, p, h0, h => absurd rfl h
  | d + 1, p, h0, h => by
    rw [chk] at h ⊢
    by_cases h1 : p ≥ (s.length : Int)
    · rw [if_pos h1] at h; exact absurd rfl h
    rw [if_neg h1] at h ⊢
    by_cases h2 : colB (decide (p = 0)) (rd_T44 s p) = true
    · rw [if_pos h2] at h ⊢
      have hl := hs.1
      have hm := hs.2.2 p
      have hm0 : 0 ≤ (rd_T44 s p).f3 := by
        unfold colB at h2
        by_cases h7 : (rd_T44 s p).f1 = 7
        · rw [if_pos h7] at h2; simp at h2; omega
        · rw [if_neg h7] at h2; simp at h2; omega
      refine Ev.step (fun k => by rw [spec_l5After.f]) ?_
      rw [wrap64_id (x := p + 1) (by omega) (by omega)]
      have key : ∀ (n : Nat) (i next : Int) (names : List ByteArray), i + n = (rd_T44 s p).f3 → 0 ≤ i → 0 ≤ next → parts (chk s d) s n next names ≠ -1 → Ev (fun k => spec_l5After.l0 k s p next i) (parts (chk s d) s n next names) := by
        intro n
        induction n with
        | zero =>
          intro i next names hi i0 n0 hp
          refine Ev.step (fun k => by rw [spec_l5After.l0]) ?_
          exact Ev.pos h0 (Ev.pos (by omega) (Ev.neg (by omega) (Ev.now _)))
        | succ n ih =>
          intro i next names hi i0 n0 hp
          refine Ev.step (fun k => by rw [spec_l5After.l0]) ?_
          rw [parts] at hp ⊢
          by_cases g1 : next ≥ (s.length : Int)
          · rw [if_pos g1] at hp; exact absurd rfl hp
          rw [if_neg g1] at hp ⊢
          by_cases g2 : names.any (fun x => decide (x.toList = (rd_T44 s next).f0.toList)) = true
          · rw [if_pos g2] at hp; exact absurd rfl hp
          rw [if_neg g2] at hp ⊢
          by_cases g3 : chk s d next < 0
          · rw [if_pos g3] at hp; exact absurd rfl hp
          rw [if_neg g3] at hp ⊢
          refine Ev.pos h0 (Ev.pos (by omega) (Ev.pos (by omega) (Ev.bind (spec_l5After_ev s hs d next n0 (by omega)) ?_)))
          rw [wrap64_id (x := i + 1) (by omega) (by omega)]
          exact ih (i + 1) (chk s d next) _ (by omega) (by omega) (by omega) hp
      exact key _ 0 (p + 1) [] (by omega) (by omega) (by omega) h
    · rw [if_neg h2] at h; exact absurd rfl h
theorem schOk_parts {s : List S44} (h : schOk s = true) : 2 ≤ (s.length : Int) ∧ (s.length : Int) ≤ 20 ∧ rootB (rd_T44 s 0) = true ∧ chk s 6 0 = (s.length : Int) := by
  unfold schOk at h
  simp only [Bool.and_eq_true, decide_eq_true_eq] at h
  exact ⟨h.1.1.1, h.1.1.2, h.1.2, h.2⟩
theorem en_ok {s : List S44} (h : schOk s = true) (q : Int) (h0 : 0 ≤ q) (h1 : q < s.length) : en s q ≠ -1 ∧ q < en s q ∧ en s q ≤ s.length := by
  obtain ⟨_, _, _, h4⟩ := schOk_parts h
  have := chk_inside s 6 (by omega) 0 (by omega) (by omega) q h0 (by omega)
  have hr := chk_range s 6 q h0
  unfold en at this ⊢
  exact ⟨this.1, by omega, by omega⟩
theorem colsOk_of (l : List S40) (hl : l.length ≤ 1048576) (hw : ∀ y ∈ l, w40 y) : ColsOk (l.map cvCol) := by
  have h : ∀ i : Int, (rd_T44 (l.map cvCol) i).f0.size ≤ 9223372036854775807 ∧ (rd_T44 (l.map cvCol) i).f3 ≤ 9223372036854775807 := by
    intro i
    have e : rd_T44 (l.map cvCol) i = (l.map cvCol).getD i.toNat z44 := rfl
    rw [e]
    by_cases hi : i.toNat < l.length
    · rw [getD_eq (by simpa using hi), List.getElem_map]
      have := hw (l[i.toNat]) (List.getElem_mem _)
      obtain ⟨a, b, c, d⟩ := this
      have := i64_of d
      exact ⟨by unfold maxLen at a; exact a, this.2⟩
    · rw [List.getD_eq_getElem?_getD, List.getElem?_eq_none (by simp; omega)]
      exact ⟨by decide, by decide⟩
  exact ⟨by simpa using hl, fun i => (h i).1, fun i => (h i).2⟩
theorem chk_parts (s : List S44) (d : Nat) (p : Int) (h : chk s (d + 1) p ≠ -1) : p < s.length ∧ 0 ≤ (rd_T44 s p).f3 ∧ chk s (d + 1) p = parts (chk s d) s (rd_T44 s p).f3.toNat (p + 1) [] := by
  rw [chk] at h ⊢
  by_cases h1 : p ≥ (s.length : Int)
  · rw [if_pos h1] at h; exact absurd rfl h
  rw [if_neg h1] at h ⊢
  by_cases h2 : colB (decide (p = 0)) (rd_T44 s p) = true
  · rw [if_pos h2]
    refine ⟨by omega, ?_, rfl⟩
    unfold colB at h2
    by_cases h7 : (rd_T44 s p).f1 = 7
    · rw [if_pos h7] at h2; simp at h2; omega
    · rw [if_neg h7] at h2; simp at h2; omega
  · rw [if_neg h2] at h; exact absurd rfl h
theorem parts_step (f : Int → Int) (s : List S44) (n : Nat) (next : Int) (names : List ByteArray) (h : parts f s (n + 1) next names ≠ -1) : next < s.length ∧ ¬ f next < 0 ∧ ∃ names', parts f s (n + 1) next names = parts f s n (f next) names' := by
  rw [parts] at h ⊢
  by_cases g1 : next ≥ (s.length : Int)
  · rw [if_pos g1] at h; exact absurd rfl h
  rw [if_neg g1] at h ⊢
  by_cases g2 : names.any (fun x => decide (x.toList = (rd_T44 s next).f0.toList)) = true
  · rw [if_pos g2] at h; exact absurd rfl h
  rw [if_neg g2] at h ⊢
  by_cases g3 : f next < 0
  · rw [if_pos g3] at h; exact absurd rfl h
  rw [if_neg g3]
  exact ⟨by omega, g3, _, rfl⟩
theorem eqRec_ev (l : List S49) (hl : l.length ≤ 1048576) : Ev (fun k => laws_eqRec.f k l l) true := by
  unfold laws_eqRec.f
  exact Ev.bind (eqValS_ev l (by omega)) (Ev.pos rfl (Ev.now _))
theorem szRec_ev (l : List S55) (hw : l.length ≤ maxLen) (ht : ∀ x ∈ l, w55 x) (c : Int) (h0 : 0 ≤ c) (h1 : c ≤ 1048576) : ∃ r, Ev (fun k => laws_szRec.f k l c) r ∧ r ≤ c ∧ (0 ≤ r → r + l.length ≤ c) := by
  obtain ⟨r, hr, hc, hl⟩ := szValS_ev l hw ht c h0 h1
  unfold laws_szRec.f
  by_cases hn : r < 0
  · exact ⟨-1, Ev.bind hr (Ev.pos hn (Ev.now _)), by omega, by omega⟩
  · exact ⟨r, Ev.bind hr (Ev.neg hn (Ev.now _)), hc, hl⟩
theorem toRec_ev (l : List S55) (hl : l.length ≤ 1048576) : Ev (fun k => laws_toRec.f k l) (l.map cvVal) := by
  unfold laws_toRec.f
  exact Ev.bind (toValS_ev l hl) (Ev.now _)
/-- What a value that tells how many tells. -/
def vcount (v : S49) (most : Int) : Int := if v.f1.toList = [] ∧ 0 ≤ v.f0 ∧ v.f0 ≤ most then v.f0 else -1
theorem l13Count_some (v : S49) (most : Int) : spec_l13Count.f v.f0 v.f1 most = some (vcount v most) := by
  unfold spec_l13Count.f vcount
  by_cases h1 : v.f1.toList = []
  · rw [if_pos h1, l1In_some, Option.bind_some]
    by_cases h2 : 0 ≤ v.f0 ∧ v.f0 ≤ most
    · rw [if_pos (decide_eq_true h2), if_pos ⟨h1, h2⟩]
    · rw [if_neg (by rw [decide_eq_false h2]; decide), if_neg (fun h => h2 h.2)]
  · rw [if_neg h1, if_neg (fun h => h1 h.1)]
theorem wkNext_bad (vs : List S49) : wkNext ⟨vs, true⟩ = (z49, ⟨vs, true⟩) := if_pos (Or.inl rfl)
theorem wkNext_end (L : List S49) (pos : Nat) (h : L.length ≤ pos) : wkNext ⟨L.drop pos, false⟩ = (z49, ⟨L.drop pos, true⟩) := if_pos (Or.inr (by simp only [List.length_drop]; omega))
theorem wkNext_in (L : List S49) (pos : Nat) (h : pos < L.length) : wkNext ⟨L.drop pos, false⟩ = (rd_T49 L (pos : Int), ⟨L.drop (pos + 1), false⟩) := by
  have e : ¬ ((⟨L.drop pos, false⟩ : WS).bad = true ∨ ((⟨L.drop pos, false⟩ : WS).vals.length : Int) = 0) := by
    intro h'
    rcases h' with h' | h'
    · cases h'
    · simp only [List.length_drop] at h'; omega
  unfold wkNext
  rw [if_neg e]
  dsimp only
  rw [List.drop_drop]
  congr 1
  unfold rd_T49
  simp [List.getD_eq_getElem?_getD]
theorem wkCount_bad (most : Int) (h0 : 0 ≤ most) (vs : List S49) : wkCount most ⟨vs, true⟩ = (0, ⟨vs, true⟩) := by
  unfold wkCount
  rw [wkNext_bad]
  exact if_pos ⟨by first | rfl | decide | simp [z49], Int.le_refl _, h0⟩
theorem wkCount_end (most : Int) (h0 : 0 ≤ most) (L : List S49) (pos : Nat) (h : L.length ≤ pos) : wkCount most ⟨L.drop pos, false⟩ = (0, ⟨L.drop pos, true⟩) := by
  unfold wkCount
  rw [wkNext_end L pos h]
  exact if_pos ⟨by first | rfl | decide | simp [z49], Int.le_refl _, h0⟩
theorem wkCount_in (most : Int) (L : List S49) (pos : Nat) (h : pos < L.length) : wkCount most ⟨L.drop pos, false⟩ = if vcount (rd_T49 L (pos : Int)) most = -1 then (0, ⟨L.drop (pos + 1), true⟩) else (vcount (rd_T49 L (pos : Int)) most, ⟨L.drop (pos + 1), false⟩) := by
  unfold wkCount vcount
  rw [wkNext_in L pos h]
  dsimp only
  by_cases c : (rd_T49 L (pos : Int)).f1.toList = [] ∧ 0 ≤ (rd_T49 L (pos : Int)).f0 ∧ (rd_T49 L (pos : Int)).f0 ≤ most
  · rw [if_pos c, if_pos c, if_neg (by omega)]
  · rw [if_neg c, if_neg c, if_pos rfl]
/-- How both sides stand behind a column: at the same place, or both have given up. -/
def Same (L : List S49) (r : Int) (st : WS) : Prop := (r = -1 ∧ st.bad = true) ∨ (∃ q : Nat, r = (q : Int) ∧ q ≤ L.length ∧ st = ⟨L.drop q, false⟩)
section
variable (s : List S44) (L : List S49)
def ContentBoth (d : Nat) : Prop := ∀ (p : Int), 0 ≤ p → chk s d p ≠ -1 → ∀ pos : Nat, pos ≤ L.length → ∃ (r x : Int) (st : WS), Ev (fun k => spec_l13Content.f k s p L (pos : Int)) r ∧ Ev (fun k => wkBody k s ⟨L.drop pos, false⟩ p) (x, st) ∧ Same L r st ∧ (r ≠ -1 → x = chk s d p)
def PartBoth (d : Nat) : Prop := ∀ (p : Int), 0 ≤ p → chk s d p ≠ -1 → ∀ pos : Nat, pos ≤ L.length → ∃ (r x : Int) (st : WS), Ev (fun k => spec_l13Part.f k s p L (pos : Int)) r ∧ Ev (fun k => wkCol k s ⟨L.drop pos, false⟩ p) (x, st) ∧ Same L r st ∧ (r ≠ -1 → x = chk s d p)
theorem parts_both (hs : ColsOk s) (d : Nat) (hd : d ≤ 5) (ih : PartBoth s L d) (p : Int) (h0 : 0 ≤ p) (h1 : p < s.length) : ∀ (n : Nat) (i next : Int) (names : List ByteArray) (pos : Nat), i + n = (rd_T44 s p).f3 → 0 ≤ i → 0 ≤ next → parts (chk s d) s n next names ≠ -1 → pos ≤ L.length →
    ∃ (r x : Int) (st : WS), Ev (fun k => spec_l13Content.l0 k s p L (pos : Int) next i) r ∧ Ev (fun k => wkParts k s ⟨L.drop pos, false⟩ next i (rd_T44 s p).f3) (x, st) ∧ Same L r st ∧ (r ≠ -1 → x = parts (chk s d) s n next names) := by
  have hm := hs.2.2 p
  intro n
  induction n with
  | zero =>
    intro i next names pos hi i0 n0 hp hpos
    refine ⟨(pos : Int), next, ⟨L.drop pos, false⟩, ?_, ?_, Or.inr ⟨pos, rfl, hpos, rfl⟩, fun _ => rfl⟩
    · refine Ev.step (fun k => by rw [spec_l13Content.l0]) ?_
      exact Ev.pos h0 (Ev.pos h1 (Ev.neg (by omega) (Ev.now _)))
    · refine Ev.step (fun k => by rw [wkParts]) ?_
      exact Ev.neg (by omega) (Ev.now _)
  | succ n ihn =>
    intro i next names pos hi i0 n0 hp hpos
    obtain ⟨g1, g2, names', g3⟩ := parts_step (chk s d) s n next names hp
    have w1 : wrap64 (i + 1) = i + 1 := wrap64_id (by omega) (by omega)
    obtain ⟨r, x, st, e1, e2, e3, e4⟩ := ih next n0 (by omega) pos hpos
    rcases e3 with ⟨rfl, hb⟩ | ⟨q, rfl, hq, rfl⟩
    · refine ⟨-1, x, st, ?_, ?_, Or.inl ⟨rfl, hb⟩, fun h => absurd rfl h⟩
      · refine Ev.step (fun k => by rw [spec_l13Content.l0]) ?_
        exact Ev.pos h0 (Ev.pos h1 (Ev.pos (by omega) (Ev.bind e1 (Ev.pos (by omega) (Ev.now _)))))
      · refine Ev.step (fun k => by rw [wkParts]) ?_
        refine Ev.pos (by omega) (Ev.neg Bool.false_ne_true (Ev.bind e2 ?_))
        refine Ev.step (fun k => by rw [wkParts]) ?_
        by_cases c : wrap64 (i + 1) < (rd_T44 s p).f3
        · exact Ev.pos c (Ev.pos hb (Ev.now _))
        · exact Ev.neg c (Ev.now _)
    · have ex := e4 (by omega)
      subst ex
      rw [g3] at hp
      obtain ⟨r2, x2, st2, f1, f2, f3, f4⟩ := ihn (i + 1) (chk s d next) names' q (by omega) (by omega) (by omega) hp hq
      refine ⟨r2, x2, st2, ?_, ?_, f3, fun h => by rw [g3]; exact f4 h⟩
      · refine Ev.step (fun k => by rw [spec_l13Content.l0]) ?_
        refine Ev.pos h0 (Ev.pos h1 (Ev.pos (by omega) (Ev.bind e1 (Ev.neg (by omega) (Ev.bind (spec_l5After_ev s hs d next n0 (by omega)) ?_)))))
        rw [w1]; exact f1
      · refine Ev.step (fun k => by rw [wkParts]) ?_
        refine Ev.pos (by omega) (Ev.neg Bool.false_ne_true (Ev.bind e2 ?_))
        rw [w1]; exact f2
theorem content_both (hs : ColsOk s) (hL : L.length ≤ 300) (d : Nat) (hd : d ≤ 5) (ih : PartBoth s L d) : ContentBoth s L (d + 1) := by
  intro p h0 h pos hpos
  obtain ⟨h1, hm0, hc⟩ := chk_parts s d p h
  have hl := hs.1
  have w1 : wrap64 (p + 1) = p + 1 := wrap64_id (by omega) (by omega)
  have w2 : wrap64 ((pos : Int) + 1) = ((pos + 1 : Nat) : Int) := by rw [wrap64_id (by omega) (by omega)]; omega
  by_cases h7 : (rd_T44 s p).f1 = 7
  · obtain ⟨r, x, st, e1, e2, e3, e4⟩ := parts_both s L hs d hd ih p h0 h1 (rd_T44 s p).f3.toNat 0 (p + 1) [] pos (by omega) (by omega) (by omega) (by rw [← hc]; exact h) hpos
    refine ⟨r, x, st, ?_, ?_, e3, fun h => by rw [hc]; exact e4 h⟩
    · refine Ev.step (fun k => by rw [spec_l13Content.f]) ?_
      refine Ev.pos h0 (Ev.pos h1 (Ev.pos h7 ?_))
      rw [w1]; exact e1
    · refine Ev.step (fun k => by rw [wkBody]) ?_
      exact Ev.pos ⟨h0, h1⟩ (Ev.pos h7 e2)
  · have hz : (rd_T44 s p).f3 = 0 := by
      have hk := h
      rw [chk, if_neg (by omega)] at hk
      by_cases h2 : colB (decide (p = 0)) (rd_T44 s p) = true
      · unfold colB at h2; rw [if_neg h7] at h2; simp at h2; omega
      · rw [if_neg h2] at hk; exact absurd rfl hk
    have hx : chk s (d + 1) p = p + 1 := by rw [hc, hz]; rfl
    by_cases hp : L.length ≤ pos
    · refine ⟨-1, p + 1, ⟨L.drop pos, true⟩, ?_, ?_, Or.inl ⟨rfl, rfl⟩, fun h => absurd rfl h⟩
      · refine Ev.step (fun k => by rw [spec_l13Content.f]) ?_
        exact Ev.pos h0 (Ev.pos h1 (Ev.neg h7 (Ev.pos (by omega) (Ev.now _))))
      · refine Ev.step (fun k => by rw [wkBody]) ?_
        rw [wkNext_end L pos hp]
        exact Ev.pos ⟨h0, h1⟩ (Ev.neg h7 (Ev.pos rfl (Ev.now _)))
    · have hsp : ∀ r, Ev (fun _ : Nat => if vOk (rd_T44 s p).f1 (rd_T49 L (pos : Int)) = true then some (wrap64 ((pos : Int) + 1)) else some (-1)) r → Ev (fun k => spec_l13Content.f k s p L (pos : Int)) r := by
        intro r hr
        refine Ev.step (fun k => by rw [spec_l13Content.f]) ?_
        exact Ev.pos h0 (Ev.pos h1 (Ev.neg h7 (Ev.neg (by omega) (Ev.pos (by omega) (Ev.pos (by omega) (Ev.bind (spec_ValOk_ev _ _) hr))))))
      have him : ∀ r, Ev (fun _ : Nat => if vOk (rd_T44 s p).f1 (rd_T49 L (pos : Int)) = true then some (p + 1, (⟨L.drop (pos + 1), false⟩ : WS)) else some (p + 1, ⟨L.drop (pos + 1), true⟩)) r → Ev (fun k => wkBody k s ⟨L.drop pos, false⟩ p) r := by
        intro r hr
        refine Ev.step (fun k => by rw [wkBody]) ?_
        rw [wkNext_in L pos (by omega)]
        exact Ev.pos ⟨h0, h1⟩ (Ev.neg h7 (Ev.neg Bool.false_ne_true (Ev.here (impl_ValOk_some _ _) hr)))
      by_cases hv : vOk (rd_T44 s p).f1 (rd_T49 L (pos : Int)) = true
      · refine ⟨((pos + 1 : Nat) : Int), p + 1, ⟨L.drop (pos + 1), false⟩, hsp _ ?_, him _ (Ev.pos hv (Ev.now _)), Or.inr ⟨pos + 1, rfl, by omega, rfl⟩, fun _ => hx.symm⟩
        rw [w2]; exact Ev.pos hv (Ev.now _)
      · exact ⟨-1, p + 1, ⟨L.drop (pos + 1), true⟩, hsp _ (Ev.neg hv (Ev.now _)), him _ (Ev.neg hv (Ev.now _)), Or.inl ⟨rfl, rfl⟩, fun h => absurd rfl h⟩
theorem miss_ev (hs : ColsOk s) (d : Nat) (hd : d ≤ 6) (p : Int) (h0 : 0 ≤ p) (h : chk s d p ≠ -1) : Ev (fun k => wkMiss k s p) (chk s d p) ∧ Ev (fun k => impl_colAfter.f k s p 1) (chk s d p) := by
  have hr := chk_range s d p h0
  have h6 := chk_en s p h0 (6 - d) d (by omega) h
  unfold en at h6
  have he := impl_colAfter_ev s hs 6 p (by omega) h0 (by omega)
  rw [h6] at he
  have he' : Ev (fun k => impl_colAfter.f k s p 1) (chk s d p) := he
  refine ⟨?_, he'⟩
  unfold wkMiss
  exact Ev.bind he' (Ev.pos ⟨h0, by omega⟩ (Ev.now _))
theorem rep_both (d : Nat) (ih : ContentBoth s L d) (p : Int) (h0 : 0 ≤ p) (h : chk s d p ≠ -1) (n : Int) (hn : n ≤ 20) : ∀ (m : Nat) (i : Int) (pos : Nat), i + m = n → 0 ≤ i → pos ≤ L.length →
    ∃ (r : Int) (st : WS), Ev (fun k => spec_l13Part.l0 k s p L (pos : Int) n i) r ∧ Ev (fun k => wkRep k s ⟨L.drop pos, false⟩ p i n) st ∧ Same L r st := by
  intro m
  induction m with
  | zero =>
    intro i pos hi i0 hpos
    refine ⟨(pos : Int), ⟨L.drop pos, false⟩, ?_, ?_, Or.inr ⟨pos, rfl, hpos, rfl⟩⟩
    · exact Ev.step (fun k => by rw [spec_l13Part.l0]) (by exact Ev.neg (by omega) (Ev.now _))
    · exact Ev.step (fun k => by rw [wkRep]) (by exact Ev.neg (fun h => by have := h.1; omega) (Ev.now _))
  | succ m ihm =>
    intro i pos hi i0 hpos
    have w1 : wrap64 (i + 1) = i + 1 := wrap64_id (by omega) (by omega)
    obtain ⟨r, x, st, e1, e2, e3, e4⟩ := ih p h0 h pos hpos
    rcases e3 with ⟨rfl, hb⟩ | ⟨q, rfl, hq, rfl⟩
    · refine ⟨-1, st, ?_, ?_, Or.inl ⟨rfl, hb⟩⟩
      · refine Ev.step (fun k => by rw [spec_l13Part.l0]) ?_
        exact Ev.pos (by omega) (Ev.bind e1 (Ev.pos (by omega) (Ev.now _)))
      · refine Ev.step (fun k => by rw [wkRep]) ?_
        refine Ev.pos ⟨by omega, rfl⟩ (Ev.bind e2 ?_)
        refine Ev.step (fun k => by rw [wkRep]) ?_
        exact Ev.neg (fun h => by rw [hb] at h; exact absurd h.2 (by decide)) (Ev.now _)
    · obtain ⟨r2, st2, f1, f2, f3⟩ := ihm (i + 1) q (by omega) (by omega) hq
      refine ⟨r2, st2, ?_, ?_, f3⟩
      · refine Ev.step (fun k => by rw [spec_l13Part.l0]) ?_
        refine Ev.pos (by omega) (Ev.bind e1 (Ev.neg (by omega) ?_))
        rw [w1]; exact f1
      · refine Ev.step (fun k => by rw [wkRep]) ?_
        refine Ev.pos ⟨by omega, rfl⟩ (Ev.bind e2 ?_)
        rw [w1]; exact f2
theorem part_both (hs : ColsOk s) (hL : L.length ≤ 300) (d : Nat) (hd : d ≤ 6) (ih : ContentBoth s L d) : PartBoth s L d := by
  intro p h0 h pos hpos
  have hr := chk_range s d p h0
  have h1 : p < s.length := by omega
  obtain ⟨hm, hca⟩ := miss_ev s hs d hd p h0 h
  have hrep : 0 ≤ (rd_T44 s p).f2 ∧ (rd_T44 s p).f2 ≤ 2 := by
    cases d with
    | zero => exact absurd rfl h
    | succ d =>
      have hk := h
      rw [chk, if_neg (by omega)] at hk
      by_cases h2 : colB (decide (p = 0)) (rd_T44 s p) = true
      · unfold colB at h2; simp only [Bool.and_eq_true, decide_eq_true_eq] at h2; exact h2.1.2
      · rw [if_neg h2] at hk; exact absurd rfl hk
  have w2 : wrap64 ((pos : Int) + 1) = ((pos + 1 : Nat) : Int) := by rw [wrap64_id (by omega) (by omega)]; omega
  by_cases hz : (rd_T44 s p).f2 = 0
  · obtain ⟨r, x, st, e1, e2, e3, e4⟩ := ih p h0 h pos hpos
    refine ⟨r, x, st, ?_, ?_, e3, e4⟩
    · refine Ev.step (fun k => by rw [spec_l13Part.f]) ?_
      refine Ev.pos h0 (Ev.pos h1 (Ev.pos hz ?_))
      refine Ev.step (fun k => by rw [spec_l13Part.j1]) ?_
      refine Ev.step (fun k => by rw [spec_l13Part.l0]) ?_
      refine Ev.pos (by omega) (Ev.bind e1 ?_)
      rcases e3 with ⟨rfl, hb⟩ | ⟨q, rfl, hq, rfl⟩
      · exact Ev.pos (by omega) (Ev.now _)
      · refine Ev.neg (by omega) ?_
        rw [wrap64_id (by omega) (by omega)]
        exact Ev.step (fun k => by rw [spec_l13Part.l0]) (by exact Ev.neg (by omega) (Ev.now _))
    · refine Ev.step (fun k => by rw [wkCol]) ?_
      exact Ev.pos ⟨h0, h1⟩ (Ev.neg (by omega) (Ev.neg (by omega) e2))
  -- a value tells how many
  have spf : ∀ (most r : Int), (most = if (rd_T44 s p).f2 = 2 then 20 else 1) → Ev (fun k => spec_l13Part.j0 k s p L (pos : Int) most) r → Ev (fun k => spec_l13Part.f k s p L (pos : Int)) r := by
    intro most r hmo hr'
    refine Ev.step (fun k => by rw [spec_l13Part.f]) ?_
    refine Ev.pos h0 (Ev.pos h1 (Ev.neg hz ?_))
    by_cases h2 : (rd_T44 s p).f2 = 2
    · rw [if_pos h2] at hmo; subst hmo; exact Ev.pos h2 hr'
    · rw [if_neg h2] at hmo; subst hmo; exact Ev.neg h2 hr'
  have imf : ∀ (most : Int) (r : Int × WS), (most = if (rd_T44 s p).f2 = 2 then 20 else 1) → ((wkCount most ⟨L.drop pos, false⟩).1 = 0 → Ev (fun _ : Nat => some (chk s d p, (wkCount most ⟨L.drop pos, false⟩).2)) r) → ((wkCount most ⟨L.drop pos, false⟩).1 ≠ 0 → Ev (fun k => if (rd_T44 s p).f2 = 1 then wkBody k s (wkCount most ⟨L.drop pos, false⟩).2 p else (wkBody k s (wkCount most ⟨L.drop pos, false⟩).2 p).bind fun q => (wkRep k s q.2 p 1 (wkCount most ⟨L.drop pos, false⟩).1).bind fun s3 => some (chk s d p, s3)) r) → Ev (fun k => wkCol k s ⟨L.drop pos, false⟩ p) r := by
    intro most r hmo hA hB
    refine Ev.step (fun k => by rw [wkCol]) ?_
    refine Ev.pos ⟨h0, h1⟩ ?_
    by_cases h2 : (rd_T44 s p).f2 = 2
    · rw [if_pos h2] at hmo; subst hmo
      refine Ev.neg (by omega) (Ev.pos h2 ?_)
      by_cases c : (wkCount 20 ⟨L.drop pos, false⟩).1 = 0
      · exact Ev.pos c (Ev.bind hm (hA c))
      · refine Ev.neg c ?_
        obtain ⟨K, hK⟩ := hB c
        obtain ⟨K2, hK2⟩ := hca
        refine ⟨max K K2, fun k hk => ?_⟩
        have a1 := hK k (by omega)
        have a2 := hK2 k (by omega)
        dsimp only at a1 a2 ⊢
        rw [if_neg (by omega)] at a1
        rw [a2]
        exact a1
    · rw [if_neg h2] at hmo; subst hmo
      have h1' : (rd_T44 s p).f2 = 1 := by omega
      refine Ev.pos h1' ?_
      by_cases c : (wkCount 1 ⟨L.drop pos, false⟩).1 = 0
      · exact Ev.pos c (Ev.bind hm (hA c))
      · refine Ev.neg c ?_
        have := hB c
        simp only [if_pos h1'] at this
        exact this
  obtain ⟨most, hmo⟩ : ∃ most : Int, most = if (rd_T44 s p).f2 = 2 then 20 else 1 := ⟨_, rfl⟩
  have hm20 : 0 ≤ most ∧ most ≤ 20 ∧ ((rd_T44 s p).f2 = 1 → most = 1) := by
    by_cases h2 : (rd_T44 s p).f2 = 2
    · rw [if_pos h2] at hmo; omega
    · rw [if_neg h2] at hmo; omega
  by_cases hp : L.length ≤ pos
  · refine ⟨-1, chk s d p, ⟨L.drop pos, true⟩, spf most _ hmo ?_, imf most _ hmo (fun _ => ?_) (fun hne => ?_), Or.inl ⟨rfl, rfl⟩, fun h => absurd rfl h⟩
    · refine Ev.step (fun k => by rw [spec_l13Part.j0]) ?_
      exact Ev.pos (by omega) (Ev.now _)
    · rw [wkCount_end most hm20.1 L pos hp]; exact Ev.now _
    · rw [wkCount_end most hm20.1 L pos hp] at hne; exact absurd rfl hne
  obtain ⟨c, hc⟩ : ∃ c, c = vcount (rd_T49 L (pos : Int)) most := ⟨_, rfl⟩
  have hcr : c = -1 ∨ (0 ≤ c ∧ c ≤ most) := by
    rw [hc]; unfold vcount
    by_cases q : (rd_T49 L (pos : Int)).f1.toList = [] ∧ 0 ≤ (rd_T49 L (pos : Int)).f0 ∧ (rd_T49 L (pos : Int)).f0 ≤ most
    · rw [if_pos q]; exact Or.inr q.2
    · rw [if_neg q]; exact Or.inl rfl
  have hw := wkCount_in most L pos (by omega)
  rw [← hc] at hw
  have hj0 : ∀ r, Ev (fun k => if c < 0 then some (-1) else spec_l13Part.j1 k s p L ((pos + 1 : Nat) : Int) c) r → Ev (fun k => spec_l13Part.j0 k s p L (pos : Int) most) r := by
    intro r hr'
    refine Ev.step (fun k => by rw [spec_l13Part.j0]) ?_
    refine Ev.neg (by omega) (Ev.pos (by omega) (Ev.pos (by omega) (Ev.here (l13Count_some _ _) ?_)))
    rw [← hc, w2]
    exact hr'
  rcases hcr with hc1 | hc2
  · rw [if_pos hc1] at hw
    refine ⟨-1, chk s d p, ⟨L.drop (pos + 1), true⟩, spf most _ hmo (hj0 _ (Ev.pos (by omega) (Ev.now _))), imf most _ hmo (fun _ => ?_) (fun hne => ?_), Or.inl ⟨rfl, rfl⟩, fun h => absurd rfl h⟩
    · rw [hw]; exact Ev.now _
    · rw [hw] at hne; exact absurd rfl hne
  · rw [if_neg (by omega)] at hw
    by_cases hc0 : c = 0
    · refine ⟨((pos + 1 : Nat) : Int), chk s d p, ⟨L.drop (pos + 1), false⟩, spf most _ hmo (hj0 _ (Ev.neg (by omega) ?_)), imf most _ hmo (fun _ => ?_) (fun hne => ?_), Or.inr ⟨pos + 1, rfl, by omega, rfl⟩, fun _ => rfl⟩
      · refine Ev.step (fun k => by rw [spec_l13Part.j1]) ?_
        exact Ev.step (fun k => by rw [spec_l13Part.l0]) (by exact Ev.neg (by omega) (Ev.now _))
      · rw [hw]; exact Ev.now _
      · rw [hw] at hne; exact absurd hc0 hne
    · obtain ⟨r, x, st, e1, e2, e3, e4⟩ := ih p h0 h (pos + 1) (by omega)
      have hj1 : ∀ r', Ev (fun k => if r < 0 then some (-1) else spec_l13Part.l0 k s p L r c 1) r' → Ev (fun k => spec_l13Part.f k s p L (pos : Int)) r' := by
        intro r' hr'
        refine spf most _ hmo (hj0 _ (Ev.neg (by omega) ?_))
        refine Ev.step (fun k => by rw [spec_l13Part.j1]) ?_
        refine Ev.step (fun k => by rw [spec_l13Part.l0]) ?_
        refine Ev.pos (by omega) (Ev.bind e1 ?_)
        rw [show wrap64 (0 + 1) = 1 from wrap64_id (by omega) (by omega)]
        exact hr'
      by_cases hone : (rd_T44 s p).f2 = 1
      · have hc1 : c = 1 := by have := hm20.2.2 hone; omega
        refine ⟨r, x, st, hj1 _ ?_, imf most _ hmo (fun hz' => ?_) (fun _ => ?_), e3, e4⟩
        · rcases e3 with ⟨rfl, hb⟩ | ⟨q, rfl, hq, rfl⟩
          · exact Ev.pos (by omega) (Ev.now _)
          · refine Ev.neg (by omega) ?_
            exact Ev.step (fun k => by rw [spec_l13Part.l0]) (by exact Ev.neg (by omega) (Ev.now _))
        · rw [hw] at hz'; exact absurd hz' hc0
        · rw [hw]; exact Ev.pos hone e2
      · rcases e3 with ⟨rfl, hb⟩ | ⟨q, rfl, hq, rfl⟩
        · refine ⟨-1, chk s d p, st, hj1 _ (Ev.pos (by omega) (Ev.now _)), imf most _ hmo (fun hz' => ?_) (fun _ => ?_), Or.inl ⟨rfl, hb⟩, fun h => absurd rfl h⟩
          · rw [hw] at hz'; exact absurd hz' hc0
          · rw [hw]
            refine Ev.neg hone (Ev.bind e2 ?_)
            have : Ev (fun k => wkRep k s st p 1 c) st := Ev.step (fun k => by rw [wkRep]) (by exact Ev.neg (fun h => by rw [hb] at h; exact absurd h.2 (by decide)) (Ev.now _))
            exact Ev.bind this (Ev.now _)
        · obtain ⟨r2, st2, f1, f2, f3⟩ := rep_both s L d ih p h0 h c (by omega) (c.toNat - 1) 1 q (by omega) (by omega) hq
          refine ⟨r2, chk s d p, st2, hj1 _ (Ev.neg (by omega) f1), imf most _ hmo (fun hz' => ?_) (fun _ => ?_), f3, fun _ => rfl⟩
          · rw [hw] at hz'; exact absurd hz' hc0
          · rw [hw]
            exact Ev.neg hone (Ev.bind e2 (Ev.bind f2 (Ev.now _)))
theorem all_both (hs : ColsOk s) (hL : L.length ≤ 300) : ∀ d : Nat, d ≤ 6 → ContentBoth s L d ∧ PartBoth s L d := by
  intro d
  induction d with
  | zero => exact fun _ => ⟨fun p h0 h => absurd rfl h, fun p h0 h => absurd rfl h⟩
  | succ d ih =>
    intro hd
    have hc := content_both s L hs hL d (by omega) (ih (by omega)).2
    exact ⟨hc, part_both s L hs hL (d + 1) hd hc⟩
end
theorem RecOk_both (s : List S44) (hs : ColsOk s) (L : List S49) (hl : L.length ≤ 1048576) : ∃ r, Ev (fun k => spec_RecOk.f k s L) r ∧ Ev (fun k => impl_RecOk.f k s L) r := by
  unfold spec_RecOk.f impl_RecOk.f wkWalk
  by_cases hS : schOk s = true
  case neg => exact ⟨false, Ev.bind (spec_SchemaOk_ev s hs) (Ev.neg hS (Ev.now _)), Ev.bind (impl_SchemaOk_ev s hs) (Ev.neg hS (Ev.now _))⟩
  obtain ⟨p1, p2, p3, p4⟩ := schOk_parts hS
  have hroot : (rd_T44 s 0).f1 = 7 := by unfold rootB at p3; simp only [Bool.and_eq_true, decide_eq_true_eq] at p3; exact p3.1.1
  by_cases h3 : (L.length : Int) ≤ 300
  · obtain ⟨r, x, st, e1, e2, e3, e4⟩ := (all_both s L hs (by omega) 6 (Nat.le_refl _)).1 0 (by omega) (by omega) 0 (by omega)
    rw [decide_eq_false (show ¬ ((300 : Int) < (L.length : Int)) by omega)]
    refine ⟨r == (L.length : Int), Ev.bind (spec_SchemaOk_ev s hs) (Ev.pos hS (Ev.pos h3 (Ev.bind e1 (Ev.now _)))), Ev.bind (impl_SchemaOk_ev s hs) (Ev.pos hS (Ev.bind e2 (Ev.cast (Ev.now _) ?_)))⟩
    rcases e3 with ⟨rfl, hb⟩ | ⟨q, rfl, hq, rfl⟩
    · rw [hb]
      simp only [Bool.not_true, Bool.false_and]
      exact (beq_eq_false_iff_ne.mpr (by omega)).symm
    · simp only [Bool.not_false, Bool.true_and, List.length_drop]
      rw [Bool.eq_iff_iff, beq_iff_eq, beq_iff_eq]
      omega
  · obtain ⟨g1, g2, g3⟩ := chk_parts s 5 0 (show chk s 6 0 ≠ -1 by rw [p4]; omega)
    have hf3 : 1 ≤ (rd_T44 s 0).f3 := by
      have hk := p4
      rw [chk, if_neg (by omega)] at hk
      by_cases h2 : colB (decide ((0 : Int) = 0)) (rd_T44 s 0) = true
      · unfold colB at h2; rw [if_pos hroot] at h2; simp at h2; omega
      · rw [if_neg h2] at hk; omega
    rw [decide_eq_true (show (300 : Int) < (L.length : Int) by omega)]
    refine ⟨false, Ev.bind (spec_SchemaOk_ev s hs) (Ev.pos hS (Ev.neg h3 (Ev.now _))), Ev.bind (impl_SchemaOk_ev s hs) (Ev.pos hS ?_)⟩
    have hb : Ev (fun k => wkBody k s ⟨L, true⟩ 0) ((0 + 1 : Int), (⟨L, true⟩ : WS)) := by
      refine Ev.step (fun k => by rw [wkBody]) ?_
      refine Ev.pos ⟨by omega, by omega⟩ (Ev.pos hroot ?_)
      refine Ev.step (fun k => by rw [wkParts]) ?_
      exact Ev.pos (by omega) (Ev.pos rfl (Ev.now _))
    exact Ev.bind hb (Ev.now _)
theorem FnExactRecOk : ∀ (x0 : List (S40)) (x1 : S25), (x0.length ≤ maxLen ∧ ∀ y ∈ x0, w40 y) → (w25 x1) → ∃ k, laws_FnExactRecOk.f k x0 x1.f0 = some true := by
  intro l x hx hy
  obtain ⟨b⟩ := x
  refine Ev.rounds ?_
  unfold laws_FnExactRecOk.f
  obtain ⟨r1, s1, c1, l1⟩ := szColS_ev l hx.1 hx.2 1048576 (by omega) (by omega)
  refine Ev.bind s1 ?_
  by_cases n1 : r1 < 0
  · exact Ev.pos n1 (Ev.now _)
  refine Ev.neg n1 ?_
  obtain ⟨r2, s2, c2, l2⟩ := szRec_ev b hy.1 hy.2 r1 (by omega) (by omega)
  refine Ev.bind s2 ?_
  by_cases n2 : r2 < 0
  · exact Ev.pos n2 (Ev.now _)
  refine Ev.neg n2 ?_
  have t := toColS_ev l (by omega)
  have u := toRec_ev b (by omega)
  have hs := colsOk_of l (by omega) hx.2
  obtain ⟨r, es, ei⟩ := RecOk_both (l.map cvCol) hs (b.map cvVal) (by simp; omega)
  have q := eqColS_ev (l.map cvCol) (by simp; omega)
  have q2 := eqRec_ev (b.map cvVal) (by simp; omega)
  exact Ev.bind t (Ev.bind u (Ev.bind es (Ev.bind t (Ev.bind u (Ev.bind ei (Ev.neg (by simp) (Ev.bind t (Ev.bind q (Ev.pos rfl (Ev.bind u (Ev.bind q2 (Ev.pos rfl (Ev.now _)))))))))))))
end Go.Proofs.Ytfaaoljihmlbmaa.Pure
