/- The pure statement of FnExactTreeNumOf: the printed functions answer as the law says, for all arguments. No condition. -/
import Derived.Test.YthkkglbimapmeaaCore
import Derived.Test.YthkkglbimapmeaaPFnExactTreeNumOfx
import Derived.Test.YthkkglbimapmeaaArgFnExactTreeNumOf
namespace Go.Proofs.Ythkkglbimapmeaa.Pure
open Go.RowKit Go.Proofs.Ythkkglbimapmeaa.PFnExactTreeNumOf Go.Proofs.Ythkkglbimapmeaa.Core Go.Proofs.YthkkglbimapmeaaW.PrintWords Go.Proofs.YthkkglbimapmeaaW.PrintLast Go.Proofs.YthkkglbimapmeaaW.PrintMore Go.Proofs.YthkkglbimapmeaaW.PrintMore2 Go.Proofs.Ythkkglbimapmeaa.AFnExactTreeNumOf
set_option linter.unusedVariables false
set_option linter.unusedSimpArgs false
def cvNode (x : S70) : S72 := ⟨x.f0, x.f1, x.f2, x.f3, x.f4⟩
theorem toNodeS_ev (l : List S70) (hl : l.length ≤ 1048576) : Ev (fun k => laws_toNodeS.f k l) (l.map cvNode) := by
  unfold laws_toNodeS.f
  refine Ev.pos (by omega) (Ev.pos (by omega) ?_)
  refine copy_loop (fun k out i => laws_toNodeS.l0 k l out i) l cvNode (fun out i r h ho hr => ?_) (fun out ho => ?_) (List.replicate ((l.length : Int)).toNat z72) (by simp)
  · refine Ev.step (fun k => by rw [laws_toNodeS.l0]) ?_
    refine Ev.pos (by omega) (Ev.pos (by omega) (Ev.here rfl (Ev.pos (by omega) ?_)))
    rw [wrap64_id (by omega) (by omega)]
    have e : rd_T70 l (i : Int) = l[i] := getD_eq (by simpa using h)
    simp only [e]
    simpa [cvNode] using hr
  · exact Ev.step (fun k => by rw [laws_toNodeS.l0]) (by exact Ev.neg (by omega) (Ev.now _))
theorem szNode_some (x : S70) (hw : w70 x) (c : Int) (h0 : 0 ≤ c) (h1 : c ≤ 1048576) : ∃ r, laws_szNode.f x.f0 x.f1 x.f2 x.f3 x.f4 c = some r ∧ r ≤ c := by
  have b0 : (x.f3.size : Int) ≤ 9223372036854775807 := by have := hw.2.2.2.1; unfold maxLen at this; omega
  unfold laws_szNode.f
  rw [wrap64_id (x := c - (x.f3.size : Int)) (by omega) (by omega)]
  by_cases n0 : c - (x.f3.size : Int) < 0
  · exact ⟨-1, by simp [n0], by omega⟩
  simp only [if_neg n0, Option.bind_some]
  exact ⟨_, rfl, by omega⟩
theorem szNodeS_ev (l : List S70) (hw : l.length ≤ maxLen) (ht : ∀ x ∈ l, w70 x) (c : Int) (h0 : 0 ≤ c) (h1 : c ≤ 1048576) : ∃ r, Ev (fun k => laws_szNodeS.f k l c) r ∧ r ≤ c ∧ (0 ≤ r → r + l.length ≤ c) := by
  have hm : l.length ≤ 9223372036854775807 := by unfold maxLen at hw; omega
  unfold laws_szNodeS.f
  rw [wrap64_id (by omega) (by omega)]
  by_cases hn : c - (l.length : Int) < 0
  · exact ⟨-1, Ev.pos hn (Ev.now _), by omega, by omega⟩
  · obtain ⟨r, hr, hrc⟩ := budget_loop (fun k c i => laws_szNodeS.l0 k l c i) l.length (fun c i hc0 hc1 hi => by
      have e : rd_T70 l (i : Int) = l[i] := getD_eq (by simpa using hi)
      obtain ⟨c', hc', hle⟩ := szNode_some l[i] (ht l[i] (List.getElem_mem hi)) c hc0 hc1
      refine ⟨c', hle, fun hneg => ?_, fun hpos r hr => ?_⟩
      · exact Ev.step (fun k => by rw [laws_szNodeS.l0]) (by exact Ev.pos (by omega) (Ev.pos (by omega) (Ev.here (by rw [e]; exact hc') (Ev.pos hneg (Ev.now _)))))
      · refine Ev.step (fun k => by rw [laws_szNodeS.l0]) ?_
        refine Ev.pos (by omega) (Ev.pos (by omega) (Ev.here (by rw [e]; exact hc') (Ev.neg (by omega) ?_)))
        rw [wrap64_id (by omega) (by omega)]
        simpa using hr)
      (fun c => Ev.step (fun k => by rw [laws_szNodeS.l0]) (by exact Ev.neg (by omega) (Ev.now _))) (c - l.length) (by omega) (by omega)
    exact ⟨r, Ev.neg hn hr, by omega, by omega⟩
theorem eqNode_ev (a : S72) : laws_eqNode.f a.f0 a.f1 a.f2 a.f3 a.f4 a.f0 a.f1 a.f2 a.f3 a.f4 = some true := by
  unfold laws_eqNode.f
  simp
theorem eqNodeS_ev (l : List S72) (hl : l.length ≤ 9223372036854775806) : Ev (fun k => laws_eqNodeS.f k l l) true := by
  unfold laws_eqNodeS.f
  refine Ev.pos rfl ?_
  refine same_loop (fun k i => laws_eqNodeS.l0 k l l i) l.length (fun i r h hr => ?_) ?_
  · refine Ev.step (fun k => by rw [laws_eqNodeS.l0]) ?_
    refine Ev.pos (by omega) (Ev.pos (by omega) (Ev.pos (by omega) (Ev.here (eqNode_ev _) (Ev.pos rfl ?_))))
    rw [wrap64_id (by omega) (by omega)]
    simpa using hr
  · exact Ev.step (fun k => by rw [laws_eqNodeS.l0]) (by exact Ev.neg (by omega) (Ev.now _))
theorem l1In_same (x lo hi : Int) : (if x ≥ lo then some (decide (x ≤ hi)) else some false) = some (decide (lo ≤ x ∧ x ≤ hi)) := by
  by_cases h : x ≥ lo
  · rw [if_pos h]; congr 1; simp; omega
  · rw [if_neg h]; congr 1; symm; simp; omega
theorem within_some (x lo hi : Int) : impl_within.f x lo hi = some (decide (lo ≤ x ∧ x ≤ hi)) := by unfold impl_within.f; exact l1In_same x lo hi
theorem l1In_some (x lo hi : Int) : spec_l1In.f x lo hi = some (decide (lo ≤ x ∧ x ≤ hi)) := by unfold spec_l1In.f; exact l1In_same x lo hi
def itemB (t : Int) : Bool := decide (t = 5 ∨ t = 6 ∨ t = 8 ∨ t = 9 ∨ t = 12)
def noT (s : ByteArray) : Bool := decide (s.toList = ([] : List UInt8))
/-- Is what a node has as told, but for its parts? -/
def plainB (n : S72) : Bool :=
  if n.f0 = 1 ∨ n.f0 = 2 then decide (n.f2 = 0) && (noT n.f3 && n.f4 == 0)
  else if n.f0 = 5 then decide (-2147483648 ≤ n.f2 ∧ n.f2 ≤ 2147483647) && (noT n.f3 && n.f4 == 0)
  else if n.f0 = 6 then noT n.f3 && n.f4 == 0
  else if n.f0 = 8 then decide (n.f2 = 0) && (decide ((n.f3.size : Int) ≤ 300) && n.f4 == 0)
  else if n.f0 = 9 then noT n.f3 && (decide (n.f4 ≥ 0) && (if n.f4 = 0 then decide (n.f2 = 0) else itemB n.f2))
  else if n.f0 = 12 then decide (n.f2 = 0) && (noT n.f3 && decide (n.f4 ≥ 0)) else false
theorem isType_some (t : Int) (b : Bool) : Ev (fun k => impl_isType.f k t b) (if t = 1 ∨ t = 2 then !b else itemB t) := by
  refine ⟨1, fun k hk => ?_⟩
  obtain ⟨m, rfl⟩ : ∃ m, k = m + 1 := ⟨k - 1, by omega⟩
  unfold impl_isType.f itemB
  simp only [impl_isType.j0]
  by_cases h1 : t = 1
  · subst h1; simp
  by_cases h2 : t = 2
  · subst h2; simp
  simp only [if_neg h1, h1, h2, or_self, if_false]
  by_cases h5 : t = 5
  · subst h5; simp
  by_cases h6 : t = 6
  · subst h6; simp
  by_cases h8 : t = 8
  · subst h8; simp
  by_cases h9 : t = 9
  · subst h9; simp
  by_cases h12 : t = 12
  · subst h12; simp
  simp [h1, h2, h5, h6, h8, h9, h12]
theorem l4Item_some (t : Int) : spec_l4Item.f t = some (itemB t) := by
  unfold spec_l4Item.f spec_l4Kind.f itemB
  by_cases h1 : t = 1
  · subst h1; simp
  by_cases h2 : t = 2
  · subst h2; simp
  by_cases h5 : t = 5
  · subst h5; simp
  by_cases h6 : t = 6
  · subst h6; simp
  by_cases h8 : t = 8
  · subst h8; simp
  by_cases h9 : t = 9
  · subst h9; simp
  by_cases h12 : t = 12
  · subst h12; simp
  simp [h1, h2, h5, h6, h8, h9, h12]
theorem impl_nodeOk_ev (n : S72) : Ev (fun k => impl_nodeOk.f k n.f0 n.f1 n.f2 n.f3 n.f4) (plainB n) := by
  have nt : ∀ {g : Nat → Option Bool} {r : Bool}, (n.f3.toList = ([] : List UInt8) → Ev g r) → Ev (fun k => if n.f3.toList = ([] : List UInt8) then g k else some false) (noT n.f3 && r) := by
    intro g r h
    by_cases h3 : n.f3.toList = ([] : List UInt8)
    · rw [show noT n.f3 = true from decide_eq_true h3, Bool.true_and]; exact Ev.pos h3 (h h3)
    · rw [show noT n.f3 = false from decide_eq_false h3, Bool.false_and]; exact Ev.neg h3 (Ev.now _)
  have z : ∀ {c : Prop} [Decidable c] {g : Nat → Option Bool} {r : Bool}, (c → Ev g r) → Ev (fun k => if c then g k else some false) (decide c && r) := by
    intro c _ g r h
    by_cases hc : c
    · rw [decide_eq_true hc, Bool.true_and]; exact Ev.pos hc (h hc)
    · rw [decide_eq_false hc, Bool.false_and]; exact Ev.neg hc (Ev.now _)
  unfold impl_nodeOk.f
  by_cases h5 : n.f0 = 5
  · have e : plainB n = (decide (-2147483648 ≤ n.f2 ∧ n.f2 ≤ 2147483647) && (noT n.f3 && n.f4 == 0)) := by unfold plainB; rw [if_neg (by omega), if_pos h5]
    rw [e]
    refine Ev.pos h5 (Ev.here (a := decide (-2147483648 ≤ n.f2 ∧ n.f2 ≤ 2147483647)) (by unfold impl_isInt32.f; rw [within_some]; rfl) ?_)
    cases decide (-2147483648 ≤ n.f2 ∧ n.f2 ≤ 2147483647) with
    | true => exact Ev.pos rfl (Ev.cast (nt (fun _ => Ev.now _)) (by simp))
    | false => exact Ev.neg (by decide) (Ev.now _)
  refine Ev.neg h5 ?_
  by_cases h6 : n.f0 = 6
  · have e : plainB n = (noT n.f3 && n.f4 == 0) := by unfold plainB; rw [if_neg (by omega), if_neg h5, if_pos h6]
    rw [e]
    exact Ev.pos h6 (nt (fun _ => Ev.now _))
  refine Ev.neg h6 ?_
  by_cases h8 : n.f0 = 8
  · have e : plainB n = (decide (n.f2 = 0) && (decide ((n.f3.size : Int) ≤ 300) && n.f4 == 0)) := by unfold plainB; rw [if_neg (by omega), if_neg h5, if_neg h6, if_pos h8]
    rw [e]
    exact Ev.pos h8 (z (fun _ => z (fun _ => Ev.now _)))
  refine Ev.neg h8 ?_
  by_cases h9 : n.f0 = 9
  · have e : plainB n = (noT n.f3 && (decide (n.f4 ≥ 0) && (if n.f4 = 0 then decide (n.f2 = 0) else itemB n.f2))) := by unfold plainB; rw [if_neg (by omega), if_neg h5, if_neg h6, if_neg h8, if_pos h9]
    rw [e]
    refine Ev.pos h9 (nt (fun _ => z (fun hge => ?_)))
    have it : Ev (fun k => if n.f4 > 0 then ((impl_isType.f k n.f2 true).bind fun t => (some t)) else some false) (decide (n.f4 > 0) && itemB n.f2) := by
      refine z (fun _ => Ev.cast (Ev.bind (isType_some n.f2 true) (Ev.now _)) ?_)
      by_cases h12 : n.f2 = 1 ∨ n.f2 = 2
      · rw [if_pos h12]; unfold itemB; symm; rw [decide_eq_false (by omega)]; rfl
      · rw [if_neg h12]
    by_cases h0 : n.f4 = 0
    · have e2 : (if n.f4 = 0 then decide (n.f2 = 0) else itemB n.f2) = decide (n.f2 = 0) := if_pos h0
      rw [e2]
      refine Ev.pos h0 ?_
      by_cases h2 : n.f2 = 0
      · rw [decide_eq_true h2]; exact Ev.pos h2 (Ev.now _)
      · rw [decide_eq_false h2]; exact Ev.neg h2 (Ev.cast it (by rw [decide_eq_false (by omega)]; rfl))
    · have e2 : (if n.f4 = 0 then decide (n.f2 = 0) else itemB n.f2) = itemB n.f2 := if_neg h0
      rw [e2]
      exact Ev.neg h0 (Ev.cast it (by rw [decide_eq_true (by omega)]; rfl))
  refine Ev.neg h9 ?_
  by_cases h12 : n.f0 = 12
  · have e : plainB n = (decide (n.f2 = 0) && (noT n.f3 && decide (n.f4 ≥ 0))) := by unfold plainB; rw [if_neg (by omega), if_neg h5, if_neg h6, if_neg h8, if_neg h9, if_pos h12]
    rw [e]
    exact Ev.pos h12 (z (fun _ => nt (fun _ => Ev.now _)))
  refine Ev.neg h12 (Ev.bind (isType_some n.f0 false) ?_)
  by_cases h1 : n.f0 = 1 ∨ n.f0 = 2
  · have e : plainB n = (decide (n.f2 = 0) && (noT n.f3 && n.f4 == 0)) := by unfold plainB; rw [if_pos h1]
    rw [e, if_pos h1]
    exact Ev.pos rfl (z (fun _ => nt (fun _ => Ev.now _)))
  · have e : plainB n = false := by unfold plainB; rw [if_neg h1, if_neg h5, if_neg h6, if_neg h8, if_neg h9, if_neg h12]
    rw [e, if_neg h1]
    refine Ev.neg ?_ (Ev.now _)
    unfold itemB; rw [decide_eq_false (by omega)]; decide
theorem spec_l4Plain_ev (n : S72) : Ev (fun k => spec_l4Plain.f k n.f0 n.f1 n.f2 n.f3 n.f4) (plainB n) := by
  have nt : ∀ {g : Nat → Option Bool} {r : Bool}, (n.f3.toList = ([] : List UInt8) → Ev g r) → Ev (fun k => if n.f3.toList = ([] : List UInt8) then g k else some false) (noT n.f3 && r) := by
    intro g r h
    by_cases h3 : n.f3.toList = ([] : List UInt8)
    · rw [show noT n.f3 = true from decide_eq_true h3, Bool.true_and]; exact Ev.pos h3 (h h3)
    · rw [show noT n.f3 = false from decide_eq_false h3, Bool.false_and]; exact Ev.neg h3 (Ev.now _)
  have z : ∀ {c : Prop} [Decidable c] {g : Nat → Option Bool} {r : Bool}, (c → Ev g r) → Ev (fun k => if c then g k else some false) (decide c && r) := by
    intro c _ g r h
    by_cases hc : c
    · rw [decide_eq_true hc, Bool.true_and]; exact Ev.pos hc (h hc)
    · rw [decide_eq_false hc, Bool.false_and]; exact Ev.neg hc (Ev.now _)
  have rest : ∀ b : Bool, (b = decide (n.f0 = 1 ∨ n.f0 = 2)) → Ev (fun k => spec_l4Plain.j0 k n.f0 b n.f0 n.f1 n.f2 n.f3 n.f4) (plainB n) := by
    intro b hb
    subst hb
    refine Ev.step (fun k => by rw [spec_l4Plain.j0]) ?_
    by_cases h1 : n.f0 = 1 ∨ n.f0 = 2
    · have e : plainB n = (decide (n.f2 = 0) && (noT n.f3 && n.f4 == 0)) := by unfold plainB; rw [if_pos h1]
      rw [e]
      exact Ev.pos (decide_eq_true h1) (z (fun _ => nt (fun _ => Ev.now _)))
    refine Ev.neg (by rw [decide_eq_false h1]; decide) ?_
    by_cases h5 : n.f0 = 5
    · have e : plainB n = (decide (-2147483648 ≤ n.f2 ∧ n.f2 ≤ 2147483647) && (noT n.f3 && n.f4 == 0)) := by unfold plainB; rw [if_neg h1, if_pos h5]
      rw [e]
      refine Ev.pos h5 (Ev.here (a := decide (-2147483648 ≤ n.f2 ∧ n.f2 ≤ 2147483647)) (by unfold spec_l4Int.f; rw [l1In_some]; rfl) ?_)
      cases decide (-2147483648 ≤ n.f2 ∧ n.f2 ≤ 2147483647) with
      | true => exact Ev.pos rfl (Ev.cast (nt (fun _ => Ev.now _)) (by simp))
      | false => exact Ev.neg (by decide) (Ev.now _)
    refine Ev.neg h5 ?_
    by_cases h6 : n.f0 = 6
    · have e : plainB n = (noT n.f3 && n.f4 == 0) := by unfold plainB; rw [if_neg h1, if_neg h5, if_pos h6]
      rw [e]
      exact Ev.pos h6 (nt (fun _ => Ev.now _))
    refine Ev.neg h6 ?_
    by_cases h8 : n.f0 = 8
    · have e : plainB n = (decide (n.f2 = 0) && (decide ((n.f3.size : Int) ≤ 300) && n.f4 == 0)) := by unfold plainB; rw [if_neg h1, if_neg h5, if_neg h6, if_pos h8]
      rw [e]
      exact Ev.pos h8 (z (fun _ => z (fun _ => Ev.now _)))
    refine Ev.neg h8 ?_
    by_cases h9 : n.f0 = 9
    · have e : plainB n = (noT n.f3 && (decide (n.f4 ≥ 0) && (if n.f4 = 0 then decide (n.f2 = 0) else itemB n.f2))) := by unfold plainB; rw [if_neg h1, if_neg h5, if_neg h6, if_neg h8, if_pos h9]
      rw [e]
      refine Ev.pos h9 (nt (fun _ => z (fun hge => ?_)))
      have it : Ev (fun (_ : Nat) => if n.f4 > 0 then ((spec_l4Item.f n.f2).bind fun t => (some t)) else some false) (decide (n.f4 > 0) && itemB n.f2) :=
        z (fun _ => Ev.here (l4Item_some n.f2) (Ev.now _))
      by_cases h0 : n.f4 = 0
      · have e2 : (if n.f4 = 0 then decide (n.f2 = 0) else itemB n.f2) = decide (n.f2 = 0) := if_pos h0
        rw [e2]
        refine Ev.pos h0 ?_
        by_cases h2 : n.f2 = 0
        · rw [decide_eq_true h2]; exact Ev.pos h2 (Ev.now _)
        · rw [decide_eq_false h2]; exact Ev.neg h2 (Ev.cast it (by rw [decide_eq_false (by omega)]; rfl))
      · have e2 : (if n.f4 = 0 then decide (n.f2 = 0) else itemB n.f2) = itemB n.f2 := if_neg h0
        rw [e2]
        exact Ev.neg h0 (Ev.cast it (by rw [decide_eq_true (by omega)]; rfl))
    refine Ev.neg h9 ?_
    by_cases h12 : n.f0 = 12
    · have e : plainB n = (decide (n.f2 = 0) && (noT n.f3 && decide (n.f4 ≥ 0))) := by unfold plainB; rw [if_neg h1, if_neg h5, if_neg h6, if_neg h8, if_neg h9, if_pos h12]
      rw [e]
      exact Ev.pos h12 (z (fun _ => nt (fun _ => Ev.now _)))
    have e : plainB n = false := by unfold plainB; rw [if_neg h1, if_neg h5, if_neg h6, if_neg h8, if_neg h9, if_neg h12]
    rw [e]
    exact Ev.neg h12 (Ev.now _)
  unfold spec_l4Plain.f
  by_cases h1 : n.f0 = 1
  · exact Ev.pos h1 (rest _ (by rw [decide_eq_true (by omega)]; simp [h1]))
  · refine Ev.neg h1 (rest _ ?_)
    by_cases h2 : n.f0 = 2
    · rw [decide_eq_true (by omega)]; simp [h2]
    · rw [decide_eq_false (by omega)]; simp [h2]
theorem plainB_many {n : S72} (h : plainB n = true) : n.f0 = 9 ∨ n.f0 = 12 ∨ n.f4 = 0 := by
  unfold plainB at h
  by_cases h9 : n.f0 = 9
  · exact .inl h9
  by_cases h12 : n.f0 = 12
  · exact .inr (.inl h12)
  right; right
  (repeat' split at h) <;> simp_all
def nd (L : List S72) (p : Nat) : S72 := L.getD p z72
theorem rd_nd (L : List S72) (p : Nat) : rd_T72 L (p : Int) = nd L p := rfl
/-- Is this part as told, by the node that it is a part of, and the part ahead of it? -/
def partB (n : S72) (last : Int) (p : S72) : Bool :=
  if n.f0 = 9 then decide (p.f0 = n.f2) && decide (p.f1 = 0) else if n.f0 = 12 then decide (last < p.f1 ∧ p.f1 ≤ 1000) else true
def cLoop (L : List S72) (n : S72) (rec : Nat → Option Nat) : Nat → Nat → Int → Nat → Option Nat
  | 0, _, _, _ => none
  | f + 1, next, last, i => if (i : Int) < n.f4 then (if next < L.length then (if partB n last (nd L next) = true then (match rec next with | none => none | some x => cLoop L n rec f x (nd L next).f1 (i + 1)) else none) else none) else some next
/-- The place behind a node and its parts, at most so deep. -/
def cF (L : List S72) : Nat → Nat → Option Nat
  | 0, _ => none
  | d + 1, p => if p < L.length then (if plainB (nd L p) = true then cLoop L (nd L p) (cF L d) (L.length + 1 - p) (p + 1) 0 0 else none) else none
def oN : Option Nat → Int
  | none => -1
  | some v => v
theorem oN_some (v : Nat) : oN (some v) = (v : Int) := rfl
theorem cLoop_bound (L : List S72) (n : S72) (rec : Nat → Option Nat) (hr : ∀ q x, rec q = some x → q < x ∧ x ≤ L.length) : ∀ f next last i v, next ≤ L.length → cLoop L n rec f next last i = some v → next ≤ v ∧ v ≤ L.length
  | 0, _, _, _, _, _, h => by simp [cLoop] at h
  | f + 1, next, last, i, v, hn, h => by
    unfold cLoop at h
    split at h
    · split at h
      · split at h
        · cases hx : rec next with
          | none => rw [hx] at h; cases h
          | some x =>
            rw [hx] at h
            have h1 := hr next x hx
            have h2 := cLoop_bound L n rec hr f x _ _ v h1.2 h
            omega
        · cases h
      · cases h
    · injection h with h; omega
theorem cF_bound (L : List S72) : ∀ d p v, cF L d p = some v → p < v ∧ v ≤ L.length
  | 0, _, _, h => by simp [cF] at h
  | d + 1, p, v, h => by
    unfold cF at h
    split at h
    · split at h
      · have := cLoop_bound L _ _ (cF_bound L d) _ _ _ _ v (by omega) h; omega
      · cases h
    · cases h
theorem cLoop_mono (L : List S72) (n : S72) (rec rec' : Nat → Option Nat) (hr : ∀ q x, rec q = some x → rec' q = some x) : ∀ f next last i v, cLoop L n rec f next last i = some v → cLoop L n rec' f next last i = some v
  | 0, _, _, _, _, h => by simp [cLoop] at h
  | f + 1, next, last, i, v, h => by
    unfold cLoop at h ⊢
    split at h
    · rename_i h1
      rw [if_pos h1]
      split at h
      · rename_i h2
        rw [if_pos h2]
        split at h
        · rename_i h3
          rw [if_pos h3]
          cases hx : rec next with
          | none => rw [hx] at h; cases h
          | some x =>
            rw [hx] at h
            rw [hr next x hx]
            exact cLoop_mono L n rec rec' hr f x _ _ v h
        · cases h
      · cases h
    · rename_i h1
      rw [if_neg h1]; exact h
theorem cF_mono1 (L : List S72) : ∀ d p v, cF L d p = some v → cF L (d + 1) p = some v
  | 0, _, _, h => by simp [cF] at h
  | d + 1, p, v, h => by
    rw [cF] at h ⊢
    split at h
    · rename_i h1
      rw [if_pos h1]
      split at h
      · rename_i h2
        rw [if_pos h2]
        exact cLoop_mono L _ _ _ (cF_mono1 L d) _ _ _ _ v h
      · cases h
    · cases h
theorem cF_mono (L : List S72) (p v : Nat) (d : Nat) (h : cF L d p = some v) : ∀ e, cF L (d + e) p = some v
  | 0 => h
  | e + 1 => cF_mono1 L (d + e) p v (cF_mono L p v d h e)
theorem cF_det (L : List S72) {p v v' d d' : Nat} (h : cF L d p = some v) (h' : cF L d' p = some v') : v = v' := by
  have h1 := cF_mono L p v d h d'
  have h2 := cF_mono L p v' d' h' d
  rw [Nat.add_comm] at h2
  rw [h1] at h2
  injection h2
/-- The same, with the place behind each node noted. -/
def mLoop (L : List S72) (n : S72) (rec : Nat → List Int → Option Nat × List Int) : Nat → Nat → Int → Nat → List Int → Option Nat × List Int
  | 0, _, _, _, A => (none, A)
  | f + 1, next, last, i, A => if (i : Int) < n.f4 then (if next < L.length then (if partB n last (nd L next) = true then (match (rec next A).1 with | none => (none, (rec next A).2) | some x => mLoop L n rec f x (nd L next).f1 (i + 1) (rec next A).2) else (none, A)) else (none, A)) else (some next, A)
def mF (L : List S72) : Nat → Nat → List Int → Option Nat × List Int
  | 0, _, A => (none, A)
  | d + 1, p, A => if p < L.length then (if plainB (nd L p) = true then (match (mLoop L (nd L p) (mF L d) (L.length + 1 - p) (p + 1) 0 0 A).1 with | none => (none, (mLoop L (nd L p) (mF L d) (L.length + 1 - p) (p + 1) 0 0 A).2) | some x => (some x, (mLoop L (nd L p) (mF L d) (L.length + 1 - p) (p + 1) 0 0 A).2.set p (x : Int))) else (none, A)) else (none, A)
theorem mLoop_fst (L : List S72) (n : S72) (rec : Nat → List Int → Option Nat × List Int) (rec' : Nat → Option Nat) (hr : ∀ q A, (rec q A).1 = rec' q) : ∀ f next last i A, (mLoop L n rec f next last i A).1 = cLoop L n rec' f next last i
  | 0, _, _, _, _ => rfl
  | f + 1, next, last, i, A => by
    unfold mLoop cLoop
    by_cases h1 : (i : Int) < n.f4
    · rw [if_pos h1, if_pos h1]
      by_cases h2 : next < L.length
      · rw [if_pos h2, if_pos h2]
        by_cases h3 : partB n last (nd L next) = true
        · rw [if_pos h3, if_pos h3, hr next A]
          cases rec' next with
          | none => rfl
          | some x => exact mLoop_fst L n rec rec' hr f x _ _ _
        · rw [if_neg h3, if_neg h3]
      · rw [if_neg h2, if_neg h2]
    · rw [if_neg h1, if_neg h1]
theorem mF_fst (L : List S72) : ∀ d p A, (mF L d p A).1 = cF L d p
  | 0, _, _ => rfl
  | d + 1, p, A => by
    unfold mF cF
    by_cases h1 : p < L.length
    · rw [if_pos h1, if_pos h1]
      by_cases h2 : plainB (nd L p) = true
      · rw [if_pos h2, if_pos h2, mLoop_fst L _ _ (cF L d) (fun q A => mF_fst L d q A)]
        cases cLoop L (nd L p) (cF L d) (L.length + 1 - p) (p + 1) 0 0 <;> rfl
      · rw [if_neg h2, if_neg h2]
    · rw [if_neg h1, if_neg h1]
theorem mLoop_len (L : List S72) (n : S72) (rec : Nat → List Int → Option Nat × List Int) (hr : ∀ q A, (rec q A).2.length = A.length) : ∀ f next last i A, (mLoop L n rec f next last i A).2.length = A.length
  | 0, _, _, _, _ => rfl
  | f + 1, next, last, i, A => by
    unfold mLoop
    split
    · split
      · split
        · cases (rec next A).1 with
          | none => exact hr next A
          | some x => exact (mLoop_len L n rec hr f x _ _ _).trans (hr next A)
        · rfl
      · rfl
    · rfl
theorem mF_len (L : List S72) : ∀ d p A, (mF L d p A).2.length = A.length
  | 0, _, _ => rfl
  | d + 1, p, A => by
    unfold mF
    have h := mLoop_len L (nd L p) (mF L d) (mF_len L d) (L.length + 1 - p) (p + 1) 0 0 A
    split
    · split
      · cases (mLoop L (nd L p) (mF L d) (L.length + 1 - p) (p + 1) 0 0 A).1 with
        | none => exact h
        | some x => show ((mLoop L (nd L p) (mF L d) (L.length + 1 - p) (p + 1) 0 0 A).2.set p (x : Int)).length = _; rw [List.length_set]; exact h
      · rfl
    · rfl
/-- What is noted between two places. -/
def Noted (L : List S72) (a b : Nat) (A B : List Int) : Prop := (∀ q, q < a ∨ b ≤ q → B[q]? = A[q]?) ∧ ∀ q, a ≤ q → q < b → ∃ (x : Nat) (e : Nat), B[q]? = some (x : Int) ∧ cF L e q = some x
theorem mLoop_noted (L : List S72) (n : S72) (d : Nat) (hr : ∀ q A v, q < L.length → A.length = L.length → cF L d q = some v → Noted L q v A (mF L d q A).2) : ∀ f next last i A v, next ≤ L.length → A.length = L.length → cLoop L n (cF L d) f next last i = some v → Noted L next v A (mLoop L n (mF L d) f next last i A).2
  | 0, _, _, _, _, _, _, _, h => by simp [cLoop] at h
  | f + 1, next, last, i, A, v, hn, hA, h => by
    unfold cLoop at h
    unfold mLoop
    by_cases h1 : (i : Int) < n.f4
    · rw [if_pos h1] at h ⊢
      by_cases h2 : next < L.length
      · rw [if_pos h2] at h ⊢
        by_cases h3 : partB n last (nd L next) = true
        · rw [if_pos h3] at h ⊢
          rw [mF_fst]
          cases hx : cF L d next with
          | none => rw [hx] at h; cases h
          | some x =>
            rw [hx] at h
            have hb := cF_bound L d next x hx
            have n1 := hr next A x h2 hA hx
            have n2 := mLoop_noted L n d hr f x _ _ (mF L d next A).2 v hb.2 (by rw [mF_len]; exact hA) h
            have hv := cLoop_bound L n (cF L d) (cF_bound L d) f x _ _ v hb.2 h
            refine ⟨fun q hq => (n2.1 q (by omega)).trans (n1.1 q (by omega)), fun q h4 h5 => ?_⟩
            by_cases h6 : q < x
            · obtain ⟨y, e, e1, e2⟩ := n1.2 q h4 h6
              exact ⟨y, e, (n2.1 q (by omega)).trans e1, e2⟩
            · exact n2.2 q (by omega) h5
        · rw [if_neg h3] at h; cases h
      · rw [if_neg h2] at h; cases h
    · rw [if_neg h1] at h ⊢
      injection h with h
      subst h
      exact ⟨fun _ _ => rfl, fun q h4 h5 => by omega⟩
theorem mF_noted (L : List S72) : ∀ d p A v, p < L.length → A.length = L.length → cF L d p = some v → Noted L p v A (mF L d p A).2
  | 0, _, _, _, _, _, h => by simp [cF] at h
  | d + 1, p, A, v, hp, hA, h => by
    have h0 := h
    unfold cF at h
    unfold mF
    rw [if_pos hp] at h ⊢
    by_cases h2 : plainB (nd L p) = true
    · rw [if_pos h2] at h ⊢
      have n1 := mLoop_noted L (nd L p) d (mF_noted L d) (L.length + 1 - p) (p + 1) 0 0 A v (by omega) hA h
      have hl := mLoop_len L (nd L p) (mF L d) (mF_len L d) (L.length + 1 - p) (p + 1) 0 0 A
      have hv := cLoop_bound L (nd L p) (cF L d) (cF_bound L d) _ _ _ _ v (by omega) h
      rw [mLoop_fst L (nd L p) (mF L d) (cF L d) (mF_fst L d), h]
      refine ⟨fun q hq => ?_, fun q h4 h5 => ?_⟩
      · show ((mLoop L (nd L p) (mF L d) (L.length + 1 - p) (p + 1) 0 0 A).2.set p (v : Int))[q]? = _
        rw [List.getElem?_set_ne (by omega)]
        exact n1.1 q (by omega)
      · show ∃ (x : Nat) (e : Nat), ((mLoop L (nd L p) (mF L d) (L.length + 1 - p) (p + 1) 0 0 A).2.set p (v : Int))[q]? = some (x : Int) ∧ _
        by_cases h6 : q = p
        · subst h6
          exact ⟨v, d + 1, by rw [List.getElem?_set_self (by omega)], h0⟩
        · obtain ⟨y, e, e1, e2⟩ := n1.2 q (by omega) h5
          exact ⟨y, e, by rw [List.getElem?_set_ne (by omega)]; exact e1, e2⟩
    · rw [if_neg h2] at h; cases h
theorem spec_part (L : List S72) (deep next i last : Int) (n p : S72) (r : Int) (h : Ev (fun k => spec_l4Check.j2 k L deep next i (!partB n last p) n.f0 n.f1 n.f2 n.f3 n.f4 p.f0 p.f1 p.f2 p.f3 p.f4) r) :
    Ev (fun k => (if n.f0 = 9 then (if (p.f0) = n.f2 then (if (p.f1) = 0 then (if n.f0 = 12 then (if (p.f1) ≤ last then (spec_l4Check.j2 k L deep next i true n.f0 n.f1 n.f2 n.f3 n.f4 p.f0 p.f1 p.f2 p.f3 p.f4) else (spec_l4Check.j2 k L deep next i (decide ((p.f1) > 1000)) n.f0 n.f1 n.f2 n.f3 n.f4 p.f0 p.f1 p.f2 p.f3 p.f4)) else (spec_l4Check.j2 k L deep next i false n.f0 n.f1 n.f2 n.f3 n.f4 p.f0 p.f1 p.f2 p.f3 p.f4)) else (spec_l4Check.j2 k L deep next i true n.f0 n.f1 n.f2 n.f3 n.f4 p.f0 p.f1 p.f2 p.f3 p.f4)) else (spec_l4Check.j2 k L deep next i true n.f0 n.f1 n.f2 n.f3 n.f4 p.f0 p.f1 p.f2 p.f3 p.f4)) else (if n.f0 = 12 then (if (p.f1) ≤ last then (spec_l4Check.j2 k L deep next i true n.f0 n.f1 n.f2 n.f3 n.f4 p.f0 p.f1 p.f2 p.f3 p.f4) else (spec_l4Check.j2 k L deep next i (decide ((p.f1) > 1000)) n.f0 n.f1 n.f2 n.f3 n.f4 p.f0 p.f1 p.f2 p.f3 p.f4)) else (spec_l4Check.j2 k L deep next i false n.f0 n.f1 n.f2 n.f3 n.f4 p.f0 p.f1 p.f2 p.f3 p.f4)))) r := by
  unfold partB at h
  by_cases h9 : n.f0 = 9
  · rw [if_pos h9] at h
    refine Ev.pos h9 ?_
    by_cases h1 : p.f0 = n.f2
    · refine Ev.pos h1 ?_
      by_cases h2 : p.f1 = 0
      · refine Ev.pos h2 (Ev.neg (by omega) ?_)
        rw [decide_eq_true h1, decide_eq_true h2] at h; exact h
      · refine Ev.neg h2 ?_
        rw [decide_eq_true h1, decide_eq_false h2] at h; exact h
    · refine Ev.neg h1 ?_
      rw [decide_eq_false h1] at h; exact h
  · rw [if_neg h9] at h
    refine Ev.neg h9 ?_
    by_cases h12 : n.f0 = 12
    · rw [if_pos h12] at h
      refine Ev.pos h12 ?_
      by_cases h1 : p.f1 ≤ last
      · refine Ev.pos h1 ?_
        rw [decide_eq_false (show ¬ (last < p.f1 ∧ p.f1 ≤ 1000) by omega)] at h; exact h
      · refine Ev.neg h1 ?_
        have e : (decide (p.f1 > 1000)) = !decide (last < p.f1 ∧ p.f1 ≤ 1000) := by
          by_cases h3 : p.f1 > 1000
          · rw [decide_eq_true h3, decide_eq_false (show ¬ (last < p.f1 ∧ p.f1 ≤ 1000) by omega)]; rfl
          · rw [decide_eq_false h3, decide_eq_true (show last < p.f1 ∧ p.f1 ≤ 1000 by omega)]; rfl
        rw [e]; exact h
    · rw [if_neg h12] at h
      exact Ev.neg h12 h
theorem spec_check_ev (L : List S72) (hL : L.length ≤ 1500) : ∀ d p : Nat, d ≤ 12 → p ≤ L.length → Ev (fun k => spec_l4Check.f k L (p : Int) (13 - (d : Int))) (oN (cF L d p)) := by
  intro d
  induction d with
  | zero =>
    intro p _ hp
    have bad : Ev (fun k => spec_l4Check.j0 k L (p : Int) (13 - ((0 : Nat) : Int)) true) (-1) := Ev.step (fun k => by rw [spec_l4Check.j0]) (by exact Ev.pos rfl (Ev.now _))
    refine Ev.step (fun k => by rw [spec_l4Check.f]) ?_
    by_cases h1 : (p : Int) ≥ (L.length : Int)
    · exact Ev.pos h1 bad
    · exact Ev.neg h1 (Ev.pos (by omega) bad)
  | succ d ih =>
    intro p hd hp
    have bad : Ev (fun k => spec_l4Check.j0 k L (p : Int) (13 - ((d + 1 : Nat) : Int)) true) (-1) := Ev.step (fun k => by rw [spec_l4Check.j0]) (by exact Ev.pos rfl (Ev.now _))
    refine Ev.step (fun k => by rw [spec_l4Check.f]) ?_
    unfold cF
    by_cases h1 : p < L.length
    · rw [if_pos h1]
      refine Ev.neg (by omega) (Ev.neg (by omega) (Ev.pos (by omega) (Ev.pos (by omega) ?_)))
      rw [rd_nd]
      refine Ev.bind (spec_l4Plain_ev (nd L p)) ?_
      cases hb : plainB (nd L p) with
      | false => rw [if_neg (by decide)]; exact bad
      | true =>
        rw [if_pos rfl]
        have loop : ∀ f next i : Nat, ∀ last : Int, next ≤ L.length → L.length + 1 ≤ next + f → i + 1 ≤ next → Ev (fun k => spec_l4Check.l0 k L (13 - ((d + 1 : Nat) : Int)) (next : Int) last (i : Int) (nd L p).f0 (nd L p).f1 (nd L p).f2 (nd L p).f3 (nd L p).f4) (oN (cLoop L (nd L p) (cF L d) f next last i)) := by
          intro f
          induction f with
          | zero => intro next i last h2 h3 _; omega
          | succ f ihf =>
            intro next i last h2 h3 h4
            refine Ev.step (fun k => by rw [spec_l4Check.l0]) ?_
            unfold cLoop
            by_cases h5 : (i : Int) < (nd L p).f4
            · rw [if_pos h5]
              refine Ev.pos h5 ?_
              by_cases h6 : next < L.length
              · rw [if_pos h6]
                refine Ev.neg (by omega) (Ev.pos (by omega) (Ev.pos (by omega) ?_))
                rw [rd_nd]
                refine spec_part L _ _ _ last (nd L p) (nd L next) _ ?_
                refine Ev.step (fun k => by rw [spec_l4Check.j2]) ?_
                cases hq : partB (nd L p) last (nd L next) with
                | false => rw [if_neg (by decide)]; exact Ev.pos rfl (Ev.now _)
                | true =>
                  rw [if_pos rfl]
                  refine Ev.neg (by decide) ?_
                  rw [wrap64_id (x := 13 - ((d + 1 : Nat) : Int) + 1) (by omega) (by omega), show 13 - ((d + 1 : Nat) : Int) + 1 = 13 - (d : Int) by omega]
                  refine Ev.bind (ih next (by omega) (by omega)) ?_
                  cases hx : cF L d next with
                  | none => exact Ev.pos (by decide) (Ev.now _)
                  | some x =>
                    have hxb := cF_bound L d next x hx
                    refine Ev.neg (by show ¬ ((x : Nat) : Int) < 0; omega) ?_
                    rw [wrap64_id (x := (i : Int) + 1) (by omega) (by omega)]
                    have := ihf x (i + 1) (nd L next).f1 hxb.2 (by omega) (by omega)
                    simpa [oN_some] using this
              · rw [if_neg h6]
                exact Ev.pos (by omega) (Ev.now _)
            · rw [if_neg h5]
              exact Ev.neg h5 (Ev.now _)
        refine Ev.step (fun k => by rw [spec_l4Check.j0]) ?_
        refine Ev.neg (by decide) (Ev.pos (by omega) (Ev.pos (by omega) ?_))
        rw [wrap64_id (x := (p : Int) + 1) (by omega) (by omega), rd_nd]
        have := loop (L.length + 1 - p) (p + 1) 0 0 (by omega) (by omega) (by omega)
        simpa using this
    · rw [if_neg h1]
      exact Ev.pos (by omega) bad
theorem impl_measure_ev (L : List S72) (hL : L.length ≤ 1500) : ∀ d p : Nat, ∀ A : List Int, d ≤ 12 → p ≤ L.length → A.length = L.length → Ev (fun k => impl_tree_measure.f k L A (p : Int) (13 - (d : Int))) (oN (mF L d p A).1, (mF L d p A).2) := by
  intro d
  induction d with
  | zero =>
    intro p A _ hp hA
    have bad : Ev (fun k => impl_tree_measure.j0 k (p : Int) (13 - ((0 : Nat) : Int)) true L A) (-1, A) := Ev.step (fun k => by rw [impl_tree_measure.j0]) (by exact Ev.pos rfl (Ev.now _))
    refine Ev.step (fun k => by rw [impl_tree_measure.f]) ?_
    by_cases h1 : (p : Int) ≥ (L.length : Int)
    · exact Ev.pos h1 bad
    · exact Ev.neg h1 (Ev.pos (by omega) bad)
  | succ d ih =>
    intro p A hd hp hA
    have bad : Ev (fun k => impl_tree_measure.j0 k (p : Int) (13 - ((d + 1 : Nat) : Int)) true L A) (-1, A) := Ev.step (fun k => by rw [impl_tree_measure.j0]) (by exact Ev.pos rfl (Ev.now _))
    refine Ev.step (fun k => by rw [impl_tree_measure.f]) ?_
    unfold mF
    by_cases h1 : p < L.length
    · rw [if_pos h1]
      refine Ev.neg (by omega) (Ev.neg (by omega) (Ev.pos (by omega) (Ev.pos (by omega) ?_)))
      rw [rd_nd]
      refine Ev.bind (impl_nodeOk_ev (nd L p)) ?_
      cases hb : plainB (nd L p) with
      | false => rw [if_neg (by decide)]; exact bad
      | true =>
        rw [if_pos rfl]
        have fin : Option Nat × List Int → Int × List Int := fun z => match z.1 with | none => (-1, z.2) | some x => ((x : Int), z.2.set p (x : Int))
        have loop : ∀ f next i : Nat, ∀ last : Int, ∀ B : List Int, next ≤ L.length → L.length + 1 ≤ next + f → i + 1 ≤ next → B.length = L.length → ((nd L p).f0 = 12 → 0 ≤ last ∧ last ≤ 1000) → Ev (fun k => impl_tree_measure.l0 k (p : Int) (13 - ((d + 1 : Nat) : Int)) (next : Int) last (nd L p).f4 (i : Int) L B (nd L p).f0 (nd L p).f1 (nd L p).f2 (nd L p).f3 (nd L p).f4)
            (oN (mLoop L (nd L p) (mF L d) f next last i B).1, (match (mLoop L (nd L p) (mF L d) f next last i B).1 with | none => (mLoop L (nd L p) (mF L d) f next last i B).2 | some x => (mLoop L (nd L p) (mF L d) f next last i B).2.set p (x : Int))) := by
          intro f
          induction f with
          | zero => intro next i last B h2 h3 _ _ _; omega
          | succ f ihf =>
            intro next i last B h2 h3 h4 hB hlast
            refine Ev.step (fun k => by rw [impl_tree_measure.l0]) ?_
            unfold mLoop
            by_cases h5 : (i : Int) < (nd L p).f4
            · rw [if_pos h5]
              refine Ev.pos h5 ?_
              by_cases h6 : next < L.length
              · rw [if_pos h6]
                refine Ev.neg (by omega) (Ev.pos (by omega) (Ev.pos (by omega) ?_))
                rw [rd_nd]
                have good : partB (nd L p) last (nd L next) = true → Ev (fun k => impl_tree_measure.j3 k (p : Int) (13 - ((d + 1 : Nat) : Int)) (next : Int) (nd L p).f4 (i : Int) false L B (nd L p).f0 (nd L p).f1 (nd L p).f2 (nd L p).f3 (nd L p).f4 (nd L next).f0 (nd L next).f1 (nd L next).f2 (nd L next).f3 (nd L next).f4)
                    (oN (match (mF L d next B).1 with | none => (none, (mF L d next B).2) | some x => mLoop L (nd L p) (mF L d) f x (nd L next).f1 (i + 1) (mF L d next B).2).1, (match (match (mF L d next B).1 with | none => (none, (mF L d next B).2) | some x => mLoop L (nd L p) (mF L d) f x (nd L next).f1 (i + 1) (mF L d next B).2).1 with | none => (match (mF L d next B).1 with | none => (none, (mF L d next B).2) | some x => mLoop L (nd L p) (mF L d) f x (nd L next).f1 (i + 1) (mF L d next B).2).2 | some x => (match (mF L d next B).1 with | none => (none, (mF L d next B).2) | some x => mLoop L (nd L p) (mF L d) f x (nd L next).f1 (i + 1) (mF L d next B).2).2.set p (x : Int))) := by
                  intro hq
                  have hl2 : (nd L p).f0 = 12 → 0 ≤ (nd L next).f1 ∧ (nd L next).f1 ≤ 1000 := fun h12 => by
                    have h14 := hlast h12
                    unfold partB at hq
                    rw [if_neg (show ¬ (nd L p).f0 = 9 by omega), if_pos h12] at hq
                    have h13 := of_decide_eq_true hq
                    omega
                  refine Ev.step (fun k => by rw [impl_tree_measure.j3]) ?_
                  refine Ev.neg (by decide) ?_
                  rw [wrap64_id (x := 13 - ((d + 1 : Nat) : Int) + 1) (by omega) (by omega), show 13 - ((d + 1 : Nat) : Int) + 1 = 13 - (d : Int) by omega]
                  refine Ev.bind (ih next B (by omega) (by omega) hB) ?_
                  have hfst := mF_fst L d next B
                  have hlen := mF_len L d next B
                  cases hx : (mF L d next B).1 with
                  | none => exact Ev.pos (show (-1 : Int) < 0 by decide) (Ev.now _)
                  | some x =>
                    rw [hx] at hfst
                    have hxb := cF_bound L d next x hfst.symm
                    refine Ev.neg (by show ¬ ((x : Nat) : Int) < 0; omega) ?_
                    rw [wrap64_id (x := (i : Int) + 1) (by omega) (by omega)]
                    have := ihf x (i + 1) (nd L next).f1 (mF L d next B).2 hxb.2 (by omega) (by omega) (by rw [hlen]; exact hB) hl2
                    simpa [oN_some] using this
                have badj3 : Ev (fun k => impl_tree_measure.j3 k (p : Int) (13 - ((d + 1 : Nat) : Int)) (next : Int) (nd L p).f4 (i : Int) true L B (nd L p).f0 (nd L p).f1 (nd L p).f2 (nd L p).f3 (nd L p).f4 (nd L next).f0 (nd L next).f1 (nd L next).f2 (nd L next).f3 (nd L next).f4) (-1, B) :=
                  Ev.step (fun k => by rw [impl_tree_measure.j3]) (by exact Ev.pos rfl (Ev.now _))
                have badj2 : Ev (fun k => impl_tree_measure.j2 k (p : Int) (13 - ((d + 1 : Nat) : Int)) (next : Int) last (nd L p).f4 (i : Int) true L B (nd L p).f0 (nd L p).f1 (nd L p).f2 (nd L p).f3 (nd L p).f4 (nd L next).f0 (nd L next).f1 (nd L next).f2 (nd L next).f3 (nd L next).f4) (-1, B) :=
                  Ev.step (fun k => by rw [impl_tree_measure.j2]) (by exact Ev.pos rfl (Ev.now _))
                cases hq : partB (nd L p) last (nd L next) with
                | false =>
                  rw [if_neg (by decide)]
                  show Ev _ (-1, B)
                  unfold partB at hq
                  by_cases h9 : (nd L p).f0 = 9
                  · rw [if_pos h9] at hq
                    refine Ev.pos h9 ?_
                    by_cases h10 : (nd L next).f0 = (nd L p).f2
                    · refine Ev.pos h10 ?_
                      rw [decide_eq_true h10, Bool.true_and] at hq
                      have h11 := of_decide_eq_false hq
                      rw [show ((nd L next).f1 != 0) = true from by simpa using h11]
                      exact badj2
                    · exact Ev.neg h10 badj2
                  · rw [if_neg h9] at hq
                    refine Ev.neg h9 ?_
                    by_cases h12 : (nd L p).f0 = 12
                    · rw [if_pos h12] at hq
                      have h13 := of_decide_eq_false hq
                      have h14 := hlast h12
                      refine Ev.step (fun k => by rw [impl_tree_measure.j2]) ?_
                      refine Ev.neg (by decide) (Ev.pos h12 (Ev.here (within_some _ _ _) ?_))
                      rw [wrap64_id (x := last + 1) (by omega) (by omega), decide_eq_false (by omega)]
                      exact badj3
                    · rw [if_neg h12] at hq; cases hq
                | true =>
                  rw [if_pos rfl]
                  have gd := good hq
                  unfold partB at hq
                  by_cases h9 : (nd L p).f0 = 9
                  · rw [if_pos h9] at hq
                    simp only [Bool.and_eq_true, decide_eq_true_eq] at hq
                    refine Ev.pos h9 (Ev.pos hq.1 ?_)
                    rw [show ((nd L next).f1 != 0) = false from by simpa using hq.2]
                    refine Ev.step (fun k => by rw [impl_tree_measure.j2]) ?_
                    exact Ev.neg (by decide) (Ev.neg (by omega) gd)
                  · rw [if_neg h9] at hq
                    refine Ev.neg h9 ?_
                    refine Ev.step (fun k => by rw [impl_tree_measure.j2]) ?_
                    refine Ev.neg (by decide) ?_
                    by_cases h12 : (nd L p).f0 = 12
                    · rw [if_pos h12] at hq
                      have h13 := of_decide_eq_true hq
                      have h14 := hlast h12
                      refine Ev.pos h12 (Ev.here (within_some _ _ _) ?_)
                      rw [wrap64_id (x := last + 1) (by omega) (by omega), decide_eq_true (show last + 1 ≤ (nd L next).f1 ∧ (nd L next).f1 ≤ 1000 by omega)]
                      exact gd
                    · exact Ev.neg h12 gd
              · rw [if_neg h6]
                exact Ev.pos (by omega) (Ev.now _)
            · rw [if_neg h5]
              exact Ev.neg h5 (Ev.pos (by omega) (Ev.pos (by omega) (Ev.const (by simp [oN]))))
        refine Ev.step (fun k => by rw [impl_tree_measure.j0]) ?_
        refine Ev.neg (by decide) (Ev.pos (by omega) (Ev.pos (by omega) ?_))
        rw [wrap64_id (x := (p : Int) + 1) (by omega) (by omega), rd_nd]
        have := loop (L.length + 1 - p) (p + 1) 0 0 A (by omega) (by omega) (by omega) hA (fun _ => by omega)
        cases hm : (mLoop L (nd L p) (mF L d) (L.length + 1 - p) (p + 1) 0 0 A).1 with
        | none => rw [hm] at this; simpa [hm] using this
        | some x => rw [hm] at this; simpa [hm] using this
    · rw [if_neg h1]
      exact Ev.pos (by omega) bad
theorem spec_after_ev (L : List S72) (hL : L.length ≤ 1500) : ∀ d p v : Nat, cF L d p = some v → Ev (fun k => spec_l4After.f k L (p : Int)) (v : Int) := by
  intro d
  induction d with
  | zero => intro p v h; simp [cF] at h
  | succ d ih =>
    intro p v h
    unfold cF at h
    by_cases h1 : p < L.length
    · rw [if_pos h1] at h
      by_cases h2 : plainB (nd L p) = true
      · rw [if_pos h2] at h
        have loop : ∀ f next i : Nat, ∀ last : Int, next ≤ L.length → i + 1 ≤ next → cLoop L (nd L p) (cF L d) f next last i = some v → Ev (fun k => spec_l4After.l0 k L (p : Int) (next : Int) (i : Int)) (v : Int) := by
          intro f
          induction f with
          | zero => intro next i last _ _ h; simp [cLoop] at h
          | succ f ihf =>
            intro next i last h3 h4 h
            refine Ev.step (fun k => by rw [spec_l4After.l0]) ?_
            rw [rd_nd]
            refine Ev.pos (by omega) (Ev.pos (by omega) ?_)
            unfold cLoop at h
            by_cases h5 : (i : Int) < (nd L p).f4
            · rw [if_pos h5] at h
              refine Ev.pos h5 ?_
              by_cases h6 : next < L.length
              · rw [if_pos h6] at h
                by_cases h7 : partB (nd L p) last (nd L next) = true
                · rw [if_pos h7] at h
                  cases hx : cF L d next with
                  | none => rw [hx] at h; cases h
                  | some x =>
                    rw [hx] at h
                    have hb := cF_bound L d next x hx
                    refine Ev.bind (ih next x hx) ?_
                    rw [wrap64_id (x := (i : Int) + 1) (by omega) (by omega)]
                    have := ihf x (i + 1) (nd L next).f1 hb.2 (by omega) h
                    simpa using this
                · rw [if_neg h7] at h; cases h
              · rw [if_neg h6] at h; cases h
            · rw [if_neg h5] at h
              injection h with h
              subst h
              exact Ev.neg h5 (Ev.now _)
        refine Ev.step (fun k => by rw [spec_l4After.f]) ?_
        rw [wrap64_id (x := (p : Int) + 1) (by omega) (by omega)]
        have := loop (L.length + 1 - p) (p + 1) 0 0 (by omega) (by omega) h
        simpa using this
      · rw [if_neg h2] at h; cases h
    · rw [if_neg h1] at h; cases h
/-- What is noted of every place. -/
def AllNoted (L : List S72) (A : List Int) : Prop := A.length = L.length ∧ ∀ q, q < L.length → ∃ (x : Nat) (e : Nat), A[q]? = some (x : Int) ∧ cF L e q = some x
theorem find_loop (L : List S72) (hL : L.length ≤ 1500) (A : List Int) (hA : AllNoted L A) (d p : Nat) (hp : p < L.length) (id : Int) (v : Nat) : ∀ f next i : Nat, ∀ last : Int, next ≤ L.length → i + 1 ≤ next → cLoop L (nd L p) (cF L d) f next last i = some v →
    ∃ r : Option Nat, (∀ q, r = some q → q < L.length) ∧ Ev (fun k => spec_l4Find.l0 k L (p : Int) id (next : Int) (i : Int)) (oN r) ∧ Ev (fun k => impl_tree_find.l0 k id (next : Int) (nd L p).f4 (i : Int) L A) (oN r) := by
  intro f
  induction f with
  | zero => intro next i last _ _ h; simp [cLoop] at h
  | succ f ihf =>
    intro next i last h3 h4 h
    unfold cLoop at h
    by_cases h5 : (i : Int) < (nd L p).f4
    · rw [if_pos h5] at h
      by_cases h6 : next < L.length
      · rw [if_pos h6] at h
        by_cases h7 : partB (nd L p) last (nd L next) = true
        · rw [if_pos h7] at h
          cases hx : cF L d next with
          | none => rw [hx] at h; cases h
          | some x =>
            rw [hx] at h
            have hb := cF_bound L d next x hx
            by_cases h8 : (nd L next).f1 = id
            · refine ⟨some next, (fun q hq => by injection hq with hq; omega), ?_, ?_⟩
              · refine Ev.step (fun k => by rw [spec_l4Find.l0]) ?_
                rw [rd_nd, rd_nd]
                exact Ev.pos (by omega) (Ev.pos (by omega) (Ev.pos h5 (Ev.pos (by omega) (Ev.pos (by omega) (Ev.pos h8 (Ev.now _))))))
              · refine Ev.step (fun k => by rw [impl_tree_find.l0]) ?_
                rw [rd_nd]
                exact Ev.pos h5 (Ev.pos (by omega) (Ev.pos (by omega) (Ev.pos h8 (Ev.now _))))
            · obtain ⟨r, hr, hs, hi⟩ := ihf x (i + 1) (nd L next).f1 hb.2 (by omega) h
              refine ⟨r, hr, ?_, ?_⟩
              · refine Ev.step (fun k => by rw [spec_l4Find.l0]) ?_
                rw [rd_nd, rd_nd]
                refine Ev.pos (by omega) (Ev.pos (by omega) (Ev.pos h5 (Ev.pos (by omega) (Ev.pos (by omega) (Ev.neg h8 (Ev.bind (spec_after_ev L hL d next x hx) ?_))))))
                rw [wrap64_id (x := (i : Int) + 1) (by omega) (by omega)]
                simpa using hs
              · obtain ⟨y, e, ha, hy⟩ := hA.2 next h6
                obtain rfl := cF_det L hx hy
                refine Ev.step (fun k => by rw [impl_tree_find.l0]) ?_
                rw [rd_nd]
                have e2 : rd A (next : Int) = (x : Int) := by
                  unfold rd
                  rw [Int.toNat_natCast, List.getD_eq_getElem?_getD, ha]; rfl
                have hl := hA.1
                refine Ev.pos h5 (Ev.pos (by omega) (Ev.pos (by omega) (Ev.neg h8 (Ev.pos (by omega) ?_))))
                rw [e2, wrap64_id (x := (i : Int) + 1) (by omega) (by omega)]
                simpa using hi
        · rw [if_neg h7] at h; cases h
      · rw [if_neg h6] at h; cases h
    · refine ⟨none, (fun q hq => by cases hq), ?_, ?_⟩
      · refine Ev.step (fun k => by rw [spec_l4Find.l0]) ?_
        rw [rd_nd]
        exact Ev.pos (by omega) (Ev.pos (by omega) (Ev.neg h5 (Ev.now _)))
      · exact Ev.step (fun k => by rw [impl_tree_find.l0]) (by exact Ev.neg h5 (Ev.now _))
theorem find_both (L : List S72) (hL : L.length ≤ 1500) (A : List Int) (hA : AllNoted L A) (p : Nat) (hp : p < L.length) (id : Int) :
    ∃ r : Option Nat, (∀ q, r = some q → q < L.length) ∧ Ev (fun k => spec_l4Find.f k L (p : Int) id) (oN r) ∧ Ev (fun k => impl_tree_find.f k L A (p : Int) id) (oN r) := by
  have win : impl_within.f (p : Int) 0 (wrap64 ((L.length : Int) - 1)) = some true := by
    rw [within_some, wrap64_id (by omega) (by omega), decide_eq_true (by omega)]
  by_cases h0 : (nd L p).f0 = 12
  · obtain ⟨x, e, _, hx⟩ := hA.2 p hp
    cases e with
    | zero => simp [cF] at hx
    | succ d =>
      unfold cF at hx
      rw [if_pos hp] at hx
      by_cases h2 : plainB (nd L p) = true
      · rw [if_pos h2] at hx
        obtain ⟨r, hr, hs, hi⟩ := find_loop L hL A hA d p hp id x (L.length + 1 - p) (p + 1) 0 0 (by omega) (by omega) hx
        refine ⟨r, hr, ?_, ?_⟩
        · unfold spec_l4Find.f
          rw [rd_nd, wrap64_id (x := (p : Int) + 1) (by omega) (by omega)]
          refine Ev.pos (by omega) (Ev.pos (by omega) (Ev.pos h0 ?_))
          simpa using hs
        · unfold impl_tree_find.f
          refine Ev.here win (Ev.pos rfl (Ev.pos (by omega) (Ev.pos (by omega) ?_)))
          refine Ev.step (fun k => by rw [impl_tree_find.j0]) ?_
          rw [rd_nd, wrap64_id (x := (p : Int) + 1) (by omega) (by omega)]
          refine Ev.neg (by simp [h0]) (Ev.pos (by omega) (Ev.pos (by omega) ?_))
          simpa using hi
      · rw [if_neg h2] at hx; cases hx
  · refine ⟨none, (fun q hq => by cases hq), ?_, ?_⟩
    · unfold spec_l4Find.f
      rw [rd_nd]
      exact Ev.pos (by omega) (Ev.pos (by omega) (Ev.neg h0 (Ev.now _)))
    · unfold impl_tree_find.f
      refine Ev.here win (Ev.pos rfl (Ev.pos (by omega) (Ev.pos (by omega) ?_)))
      refine Ev.step (fun k => by rw [impl_tree_find.j0]) ?_
      rw [rd_nd]
      exact Ev.pos (by simp [h0]) (Ev.now _)
def treeB (L : List S72) : Bool := decide (1 ≤ (L.length : Int) ∧ (L.length : Int) ≤ 1500) && (decide ((rd_T72 L 0).f0 = 12) && (decide ((rd_T72 L 0).f1 = 0) && decide (oN (cF L 12 0) = (L.length : Int))))
theorem treeB_len {L : List S72} (h : treeB L = true) : 1 ≤ L.length ∧ L.length ≤ 1500 := by
  unfold treeB at h
  simp only [Bool.and_eq_true, decide_eq_true_eq] at h
  omega
theorem treeB_cF {L : List S72} (h : treeB L = true) : cF L 12 0 = some L.length := by
  have hl := treeB_len h
  unfold treeB at h
  simp only [Bool.and_eq_true, decide_eq_true_eq] at h
  have h4 := h.2.2.2
  cases hx : cF L 12 0 with
  | none => rw [hx] at h4; have : (-1 : Int) = (L.length : Int) := h4; omega
  | some v => rw [hx] at h4; have : (v : Int) = (L.length : Int) := h4; rw [show v = L.length by omega]
theorem spec_TreeOk_ev (L : List S72) : Ev (fun k => spec_TreeOk.f k L) (treeB L) := by
  unfold spec_TreeOk.f treeB
  refine Ev.here (l1In_some _ _ _) ?_
  by_cases h1 : 1 ≤ (L.length : Int) ∧ (L.length : Int) ≤ 1500
  · rw [decide_eq_true h1]
    refine Ev.pos rfl (Ev.pos (by omega) ?_)
    by_cases h2 : (rd_T72 L 0).f0 = 12
    · rw [decide_eq_true h2]
      refine Ev.pos h2 ?_
      by_cases h3 : (rd_T72 L 0).f1 = 0
      · rw [decide_eq_true h3]
        have := spec_check_ev L (by omega) 12 0 (by omega) (by omega)
        refine Ev.pos h3 (Ev.bind (by simpa using this) (Ev.cast (Ev.now _) ?_))
        by_cases h4 : oN (cF L 12 0) = (L.length : Int) <;> simp [h4]
      · rw [decide_eq_false h3]; exact Ev.neg h3 (Ev.now _)
    · rw [decide_eq_false h2]; exact Ev.neg h2 (Ev.now _)
  · rw [decide_eq_false h1]; exact Ev.neg (by decide) (Ev.now _)
/-- The places behind the nodes of a right list. -/
def afterR (L : List S72) : List Int := (mF L 12 0 (List.replicate L.length 0)).2
theorem impl_treeOf_ev (L : List S72) : Ev (fun k => impl_treeOf.f k L) (if treeB L = true then (afterR L, true) else ([], false)) := by
  unfold impl_treeOf.f treeB
  refine Ev.here (within_some _ _ _) ?_
  by_cases h1 : 1 ≤ (L.length : Int) ∧ (L.length : Int) ≤ 1500
  · rw [decide_eq_true h1]
    refine Ev.pos rfl ?_
    by_cases h2 : (rd_T72 L 0).f0 = 12
    · rw [decide_eq_true h2]
      refine Ev.pos h2 ?_
      by_cases h3 : (rd_T72 L 0).f1 = 0
      · rw [decide_eq_true h3]
        have := impl_measure_ev L (by omega) 12 0 (List.replicate L.length 0) (by omega) (by omega) (by simp)
        refine Ev.pos h3 (Ev.bind (by simpa using this) ?_)
        rw [mF_fst]
        by_cases h4 : oN (cF L 12 0) = (L.length : Int)
        · rw [decide_eq_true h4]; exact Ev.pos h4 (Ev.now _)
        · rw [decide_eq_false h4]; exact Ev.neg h4 (Ev.now _)
      · rw [decide_eq_false h3]; exact Ev.neg h3 (Ev.now _)
    · rw [decide_eq_false h2]; exact Ev.neg h2 (Ev.now _)
  · rw [decide_eq_false h1]; exact Ev.neg (by decide) (Ev.now _)
theorem afterR_noted {L : List S72} (h : treeB L = true) : AllNoted L (afterR L) := by
  have hl := treeB_len h
  have hn := mF_noted L 12 0 (List.replicate L.length 0) L.length (by omega) (by simp) (treeB_cF h)
  exact ⟨by unfold afterR; rw [mF_len]; simp, fun q hq => hn.2 q (by omega) hq⟩
def numR (L : List S72) (r : Option Nat) : Int × Bool := match r with
  | none => (0, false)
  | some q => if (nd L q).f0 = 5 ∨ (nd L q).f0 = 6 then ((nd L q).f2, true) else (0, false)
theorem num_both (L : List S72) (hL : L.length ≤ 1500) (A : List Int) (hA : AllNoted L A) (p : Nat) (hp : p < L.length) (id : Int) :
    ∃ r : Option Nat, Ev (fun k => spec_l4Find.f k L (p : Int) id) (oN r) ∧ Ev (fun k => spec_l4NumOf.f k L (p : Int) id) (numR L r) ∧ Ev (fun k => impl_tree_num.f k L A (p : Int) id) (numR L r) := by
  obtain ⟨r, hr, hs, hi⟩ := find_both L hL A hA p hp id
  refine ⟨r, hs, ?_, ?_⟩
  · unfold spec_l4NumOf.f
    refine Ev.bind hs ?_
    cases r with
    | none => exact Ev.pos (by decide) (Ev.now _)
    | some q =>
      have hq := hr q rfl
      have e : oN (some q) = (q : Int) := rfl
      rw [e, rd_nd]
      refine Ev.neg (by omega) (Ev.pos (by omega) (Ev.pos (by omega) ?_))
      by_cases h5 : (nd L q).f0 = 5
      · exact Ev.pos h5 (Ev.const (by simp [numR, h5]))
      by_cases h6 : (nd L q).f0 = 6
      · exact Ev.neg h5 (Ev.pos h6 (Ev.const (by simp [numR, h6])))
      · exact Ev.neg h5 (Ev.neg h6 (Ev.const (by simp [numR, h5, h6])))
  · unfold impl_tree_num.f
    refine Ev.bind hi ?_
    cases r with
    | none => exact Ev.pos (by decide) (Ev.now _)
    | some q =>
      have hq := hr q rfl
      have e : oN (some q) = (q : Int) := rfl
      rw [e, rd_nd]
      refine Ev.neg (by omega) (Ev.pos (by omega) (Ev.pos (by omega) ?_))
      by_cases h5 : (nd L q).f0 = 5
      · exact Ev.pos h5 (Ev.const (by simp [numR, h5]))
      by_cases h6 : (nd L q).f0 = 6
      · exact Ev.neg h5 (Ev.pos h6 (Ev.const (by simp [numR, h6])))
      · exact Ev.neg h5 (Ev.neg h6 (Ev.const (by simp [numR, h5, h6])))
theorem TreeNumOf_both (L : List S72) (a1 a2 : Int) : ∃ r : Int × Bool, Ev (fun k => spec_TreeNumOf.f k L a1 a2) r ∧ Ev (fun k => impl_TreeNumOf.f k L a1 a2) r := by
  have ht := impl_treeOf_ev L
  have hk := spec_TreeOk_ev L
  cases hb : treeB L with
  | false =>
    rw [hb] at ht hk
    rw [if_neg (by decide)] at ht
    refine ⟨(0, false), ?_, ?_⟩
    · unfold spec_TreeNumOf.f spec_TreeFind.f
      exact Ev.bind (Ev.bind hk (Ev.neg (by decide) (Ev.now _))) (Ev.pos (by decide) (Ev.now _))
    · unfold impl_TreeNumOf.f
      exact Ev.bind ht (Ev.neg (by decide) (Ev.now _))
  | true =>
    have hl := treeB_len hb
    have hA := afterR_noted hb
    rw [hb] at ht hk
    rw [if_pos rfl] at ht
    have hw : wrap64 ((L.length : Int) - 1) = (L.length : Int) - 1 := wrap64_id (by omega) (by omega)
    by_cases h1 : 0 ≤ a1 ∧ a1 ≤ (L.length : Int) - 1
    · obtain ⟨p, rfl⟩ : ∃ p : Nat, a1 = (p : Int) := ⟨a1.toNat, by omega⟩
      obtain ⟨r, e1, e2, e3⟩ := num_both L hl.2 _ hA p (by omega) a2
      refine ⟨numR L r, ?_, ?_⟩
      · unfold spec_TreeNumOf.f spec_TreeFind.f
        refine Ev.bind (a := oN r) (Ev.bind hk (Ev.pos rfl (Ev.here (l1In_some _ _ _) ?_))) ?_
        · rw [hw, decide_eq_true h1]
          exact Ev.pos rfl (Ev.bind e1 (Ev.now _))
        · cases r with
          | none => exact Ev.pos (by decide) (Ev.now _)
          | some q => exact Ev.neg (show ¬ ((q : Nat) : Int) < 0 by omega) (Ev.bind e2 (Ev.now _))
      · unfold impl_TreeNumOf.f
        exact Ev.bind ht (Ev.pos rfl e3)
    · refine ⟨(0, false), ?_, ?_⟩
      · unfold spec_TreeNumOf.f spec_TreeFind.f
        refine Ev.bind (a := (-1 : Int)) (Ev.bind hk (Ev.pos rfl (Ev.here (l1In_some _ _ _) ?_))) (Ev.pos (by decide) (Ev.now _))
        rw [hw, decide_eq_false h1]
        exact Ev.neg (by decide) (Ev.now _)
      · unfold impl_TreeNumOf.f
        refine Ev.bind ht (Ev.pos rfl ?_)
        unfold impl_tree_num.f impl_tree_find.f
        refine Ev.bind (a := (-1 : Int)) (Ev.here (within_some _ _ _) ?_) (Ev.pos (by decide) (Ev.now _))
        rw [hw, decide_eq_false h1]
        refine Ev.neg (by decide) ?_
        exact Ev.step (fun k => by rw [impl_tree_find.j0]) (by exact Ev.pos rfl (Ev.now _))
theorem FnExactTreeNumOf : ∀ (x0 : List (S70)) (x1 : Int) (x2 : Int), (x0.length ≤ maxLen ∧ ∀ y ∈ x0, w70 y) → ((Lit.int .i64 x1).wf = true) → ((Lit.int .i64 x2).wf = true) → ∃ k, laws_FnExactTreeNumOf.f k x0 x1 x2 = some true := by
  intro l a b hx ha hb
  refine Ev.rounds ?_
  unfold laws_FnExactTreeNumOf.f
  obtain ⟨r1, s1, c1, l1⟩ := szNodeS_ev l hx.1 hx.2 1048576 (by omega) (by omega)
  refine Ev.bind s1 ?_
  by_cases n1 : r1 < 0
  · exact Ev.pos n1 (Ev.now _)
  refine Ev.neg n1 ?_
  have t := toNodeS_ev l (by omega)
  obtain ⟨r, es, ei⟩ := TreeNumOf_both (l.map cvNode) a b
  have q := eqNodeS_ev (l.map cvNode) (by simp; omega)
  refine Ev.bind t (Ev.bind es (Ev.bind t (Ev.bind ei (Ev.pos rfl ?_))))
  refine Ev.step (fun k => by rw [laws_FnExactTreeNumOf.j0]) ?_
  exact Ev.neg (by simp) (Ev.bind t (Ev.bind q (Ev.pos rfl (Ev.now _))))
end Go.Proofs.Ythkkglbimapmeaa.Pure
