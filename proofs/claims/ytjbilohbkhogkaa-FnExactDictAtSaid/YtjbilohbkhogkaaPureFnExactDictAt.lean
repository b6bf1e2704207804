/- The pure statement of FnExactDictAt: the printed functions answer as the law says, for all arguments. No condition. -/
import Derived.Test.YtjbilohbkhogkaaCore
import Derived.Test.YtjbilohbkhogkaaPFnExactDictAtx
import Derived.Test.YtjbilohbkhogkaaArgFnExactDictAt
namespace Go.Proofs.Ytjbilohbkhogkaa.Pure
open Go.RowKit Go.Proofs.Ytjbilohbkhogkaa.PFnExactDictAt Go.Proofs.Ytjbilohbkhogkaa.Core Go.Proofs.YtjbilohbkhogkaaW.PrintWords Go.Proofs.YtjbilohbkhogkaaW.PrintLast Go.Proofs.YtjbilohbkhogkaaW.PrintMore Go.Proofs.Ytjbilohbkhogkaa.AFnExactDictAt
set_option linter.unusedVariables false
set_option linter.unusedSimpArgs false
def cvVal (x : S103) : S101 := ⟨x.f0, x.f1⟩
theorem toValS_ev (l : List S103) (hl : l.length ≤ 1048576) : Ev (fun k => laws_toValS.f k l) (l.map cvVal) := by
  unfold laws_toValS.f
  refine Ev.pos (by omega) (Ev.pos (by omega) ?_)
  refine copy_loop (fun k out i => laws_toValS.l0 k l out i) l cvVal (fun out i r h ho hr => ?_) (fun out ho => ?_) (List.replicate ((l.length : Int)).toNat z101) (by simp)
  · refine Ev.step (fun k => by rw [laws_toValS.l0]) ?_
    refine Ev.pos (by omega) (Ev.pos (by omega) (Ev.here rfl (Ev.pos (by omega) ?_)))
    rw [wrap64_id (by omega) (by omega)]
    have e : rd_T103 l (i : Int) = l[i] := getD_eq (by simpa using h)
    simp only [e]
    simpa [cvVal] using hr
  · exact Ev.step (fun k => by rw [laws_toValS.l0]) (by exact Ev.neg (by omega) (Ev.now _))
theorem szVal_some (x : S103) (hw : w103 x) (c : Int) (h0 : 0 ≤ c) (h1 : c ≤ 1048576) : ∃ r, laws_szVal.f x.f0 x.f1 c = some r ∧ r ≤ c := by
  have b0 : (x.f1.size : Int) ≤ 9223372036854775807 := by have := hw.2; unfold maxLen at this; omega
  unfold laws_szVal.f
  rw [wrap64_id (x := c - (x.f1.size : Int)) (by omega) (by omega)]
  by_cases n0 : c - (x.f1.size : Int) < 0
  · exact ⟨-1, by simp [n0], by omega⟩
  simp only [if_neg n0, Option.bind_some]
  exact ⟨_, rfl, by omega⟩
theorem szValS_ev (l : List S103) (hw : l.length ≤ maxLen) (ht : ∀ x ∈ l, w103 x) (c : Int) (h0 : 0 ≤ c) (h1 : c ≤ 1048576) : ∃ r, Ev (fun k => laws_szValS.f k l c) r ∧ r ≤ c ∧ (0 ≤ r → r + l.length ≤ c) := by
  have hm : l.length ≤ 9223372036854775807 := by unfold maxLen at hw; omega
  unfold laws_szValS.f
  rw [wrap64_id (by omega) (by omega)]
  by_cases hn : c - (l.length : Int) < 0
  · exact ⟨-1, Ev.pos hn (Ev.now _), by omega, by omega⟩
  · obtain ⟨r, hr, hrc⟩ := budget_loop (fun k c i => laws_szValS.l0 k l c i) l.length (fun c i hc0 hc1 hi => by
      have e : rd_T103 l (i : Int) = l[i] := getD_eq (by simpa using hi)
      obtain ⟨c', hc', hle⟩ := szVal_some l[i] (ht l[i] (List.getElem_mem hi)) c hc0 hc1
      refine ⟨c', hle, fun hneg => ?_, fun hpos r hr => ?_⟩
      · exact Ev.step (fun k => by rw [laws_szValS.l0]) (by exact Ev.pos (by omega) (Ev.pos (by omega) (Ev.here (by rw [e]; exact hc') (Ev.pos hneg (Ev.now _)))))
      · refine Ev.step (fun k => by rw [laws_szValS.l0]) ?_
        refine Ev.pos (by omega) (Ev.pos (by omega) (Ev.here (by rw [e]; exact hc') (Ev.neg (by omega) ?_)))
        rw [wrap64_id (by omega) (by omega)]
        simpa using hr)
      (fun c => Ev.step (fun k => by rw [laws_szValS.l0]) (by exact Ev.neg (by omega) (Ev.now _))) (c - l.length) (by omega) (by omega)
    exact ⟨r, Ev.neg hn hr, by omega, by omega⟩
theorem eqVal_ev (a : S101) : laws_eqVal.f a.f0 a.f1 a.f0 a.f1 = some true := by
  unfold laws_eqVal.f
  simp
theorem eqValS_ev (l : List S101) (hl : l.length ≤ 9223372036854775806) : Ev (fun k => laws_eqValS.f k l l) true := by
  unfold laws_eqValS.f
  refine Ev.pos rfl ?_
  refine same_loop (fun k i => laws_eqValS.l0 k l l i) l.length (fun i r h hr => ?_) ?_
  · refine Ev.step (fun k => by rw [laws_eqValS.l0]) ?_
    refine Ev.pos (by omega) (Ev.pos (by omega) (Ev.pos (by omega) (Ev.here (eqVal_ev _) (Ev.pos rfl ?_))))
    rw [wrap64_id (by omega) (by omega)]
    simpa using hr
  · exact Ev.step (fun k => by rw [laws_eqValS.l0]) (by exact Ev.neg (by omega) (Ev.now _))
theorem toIntS_ev (l : List Int) (hl : l.length ≤ 35184372088832) : Ev (fun k => laws_toIntS.f k l) l := by
  unfold laws_toIntS.f
  refine Ev.pos (by omega) (Ev.pos (by omega) ?_)
  have := copy_loop (fun k out i => laws_toIntS.l0 k l out i) l id (fun out i r h ho hr => ?_) (fun out ho => ?_) (List.replicate ((l.length : Int)).toNat 0) (by simp)
  · simpa using this
  · refine Ev.step (fun k => by rw [laws_toIntS.l0]) ?_
    refine Ev.pos (by omega) (Ev.pos (by omega) (Ev.pos (by omega) ?_))
    rw [wrap64_id (by omega) (by omega), rd_eq (by simpa using h)]
    simpa using hr
  · exact Ev.step (fun k => by rw [laws_toIntS.l0]) (by exact Ev.neg (by omega) (Ev.now _))
theorem eqIntS_ev (l : List Int) (hl : l.length ≤ 9223372036854775806) : Ev (fun k => laws_eqIntS.f k l l) true := by
  unfold laws_eqIntS.f
  refine Ev.pos rfl ?_
  refine same_loop (fun k i => laws_eqIntS.l0 k l l i) l.length (fun i r h hr => ?_) ?_
  · refine Ev.step (fun k => by rw [laws_eqIntS.l0]) ?_
    refine Ev.pos (by omega) (Ev.pos (by omega) (Ev.pos (by omega) (Ev.pos rfl ?_)))
    rw [wrap64_id (by omega) (by omega)]
    simpa using hr
  · exact Ev.step (fun k => by rw [laws_eqIntS.l0]) (by exact Ev.neg (by omega) (Ev.now _))
theorem markIntS_evm (l : List Int) (c : Int) (hc : 0 ≤ c) (hl : c + l.length ≤ 9223372036854775806) : ∃ m ys, m = c + l.length ∧ Ev (fun k => laws_markIntS.f k l c) (m, ys) ∧ True := by
  have key : ∀ (d i : Nat) (xs : List Int) (c : Int), 0 ≤ c → i + d = xs.length → c + d ≤ 9223372036854775806 → xs.length ≤ 9223372036854775806 → ∃ ys, Ev (fun k => laws_markIntS.l0 k xs c (i : Int)) (c + d, ys) := by
    intro d
    induction d with
    | zero => intro i xs c h0 hi hc hx; exact ⟨xs, Ev.cast (Ev.step (fun k => by rw [laws_markIntS.l0]) (by exact Ev.neg (by omega) (Ev.now _))) (by simp)⟩
    | succ d ih =>
      intro i xs c h0 hi hc hx
      obtain ⟨ys, hy⟩ := ih (i + 1) (xs.set i c) (c + 1) (by omega) (by simp; omega) (by omega) (by simpa using hx)
      refine ⟨ys, Ev.step (fun k => by rw [laws_markIntS.l0]) (Ev.pos (by omega) (Ev.pos (by omega) ?_))⟩
      rw [wrap64_id (x := c + 1) (by omega) (by omega), wrap64_id (x := (i : Int) + 1) (by omega) (by omega)]
      have e : c + 1 + (d : Int) = c + ((d + 1 : Nat) : Int) := by omega
      rw [e] at hy
      simpa using hy
  obtain ⟨ys, hy⟩ := key l.length 0 l c hc (by omega) hl (by omega)
  exact ⟨_, ys, rfl, hy, trivial⟩
theorem markText_l0_ev : ∀ (n : Nat) (c : Int) (out : ByteArray), 0 ≤ c → c < 10 ^ n → c ≤ 9223372036854775807 → out.size + n + 1 ≤ 1000 → ∃ t, Ev (fun k => laws_markText.l0 k c out) t := by
  intro n
  induction n with
  | zero =>
    intro c out h0 h1 hb hs
    obtain rfl : c = 0 := by simp at h1; omega
    exact ⟨_, Ev.step (fun k => by rw [laws_markText.l0]) (by exact Ev.neg (by omega) (Ev.pos (by omega) (Ev.now _)))⟩
  | succ n ih =>
    intro c out h0 h1 hb hs
    by_cases hc : c > 0
    · have h2 : c / 10 < 10 ^ n := by
        rw [Int.pow_succ] at h1
        exact Int.ediv_lt_of_lt_mul (by omega) h1
      obtain ⟨t, ht⟩ := ih (c / 10) (strOfNums [(wrap64 (48 + (Int.tmod c 10))) % 256] ++ out) (by omega) h2 (by omega) (by
        rw [ByteArray.size_append, strOfNums_size]; simp; omega)
      refine ⟨t, Ev.step (fun k => by rw [laws_markText.l0]) ?_⟩
      refine Ev.pos hc (Ev.here rfl (Ev.pos (by rw [strOfNums_size]; simp; omega) ?_))
      rw [Int.tdiv_eq_ediv_of_nonneg h0, wrap64_id (x := c / 10) (by omega) (by omega)]
      exact ht
    · obtain rfl : c = 0 := by omega
      exact ⟨_, Ev.step (fun k => by rw [laws_markText.l0]) (by exact Ev.neg (by omega) (Ev.pos (by omega) (Ev.now _)))⟩
theorem markText_ev (c : Int) (h : c ≤ 9223372036854775807) : ∃ t, Ev (fun k => laws_markText.f k c) t := by
  unfold laws_markText.f
  by_cases hc : c ≤ 0
  · exact ⟨_, Ev.pos hc (Ev.now _)⟩
  · obtain ⟨t, ht⟩ := markText_l0_ev 19 c (⟨#[]⟩ : ByteArray) (by omega) (by omega) h (by decide)
    exact ⟨t, Ev.neg hc ht⟩
noncomputable def mtxt (c : Int) : ByteArray := if h : c ≤ 9223372036854775807 then (markText_ev c h).choose else ByteArray.empty
theorem mtxt_ev {c : Int} (h : c ≤ 9223372036854775807) : Ev (fun k => laws_markText.f k c) (mtxt c) := by
  unfold mtxt
  rw [dif_pos h]
  exact (markText_ev c h).choose_spec
theorem markValS_ev (l : List S101) (c : Int) (hc : 0 ≤ c) (hl : c + 2 * l.length ≤ 9223372036854775806) : ∃ m ys, m = c + 2 * l.length ∧ Ev (fun k => laws_markValS.f k l c) (m, ys) ∧ Ev (fun k => laws_heldValS.f k ys c) m := by
  obtain ⟨m, ys, _, hm, h1, h2⟩ := marks_held 2 9223372036854775807 (by omega) (fun c (_ : S101) => (⟨c, mtxt (c + 1)⟩ : S101)) (fun k xs c i => laws_markValS.l0 k xs c i) (fun k xs c i => laws_heldValS.l0 k xs c i)
    (fun xs c i r h hb h0 hB hr => by
      refine Ev.step (fun k => by rw [laws_markValS.l0]) ?_
      refine Ev.pos (by omega) (Ev.pos (by omega) ?_)
      rw [wrap64_id (x := c + 1) (by omega) (by omega), wrap64_id (x := c + 1 + 1) (by omega) (by omega), wrap64_id (x := (i : Int) + 1) (by omega) (by omega)]
      refine Ev.here rfl ?_
      refine Ev.bind (mtxt_ev (by omega)) ?_
      have e : c + 1 + 1 = c + 2 := by omega
      simpa [rd_T101, h, e] using hr)
    (fun xs c => Ev.step (fun k => by rw [laws_markValS.l0]) (by exact Ev.neg (by omega) (Ev.now _)))
    (fun xs c i r z h hb h0 hB hz hr => by
      have e : rd_T101 xs (i : Int) = xs[i] := getD_eq (by simpa using h)
      refine Ev.step (fun k => by rw [laws_heldValS.l0]) ?_
      refine Ev.pos (by omega) (Ev.pos (by omega) ?_)
      rw [wrap64_id (x := c + 1) (by omega) (by omega), wrap64_id (x := c + 1 + 1) (by omega) (by omega), wrap64_id (x := (i : Int) + 1) (by omega) (by omega)]
      refine Ev.pos (by rw [e, hz]) ?_
      refine Ev.bind (mtxt_ev (by omega)) (Ev.pos (by rw [e, hz]) ?_)
      have e : c + 1 + 1 = c + 2 := by omega
      simpa [e] using hr)
    (fun xs c => Ev.step (fun k => by rw [laws_heldValS.l0]) (by exact Ev.neg (by omega) (Ev.now _)))
    l c hc (by omega)
  exact ⟨m, ys, by omega, h1, h2⟩
theorem dictAt_same : ∀ (k : Nat) (d : List S101) (ps : List Int) (out : List S101) (i : Int), impl_DictAt.l0 k d out ps (ps.length : Int) i = spec_DictAt.l0 k d ps out i
  | 0, _, _, _, _ => by rw [impl_DictAt.l0, spec_DictAt.l0]
  | k + 1, d, ps, out, i => by
    have e : impl_within.f = spec_l1In.f := rfl
    rw [impl_DictAt.l0, spec_DictAt.l0]
    by_cases h : i < (ps.length : Int)
    · simp only [if_pos h, dictAt_same k, e]
    · simp only [if_neg h]
theorem dictAt_ev (d : List S101) (ps : List Int) (hd : d.length ≤ 1048576) (hp : ps.length ≤ 2000) : ∀ (n : Nat) (i : Int) (out : List S101), 0 ≤ i → i + n = ps.length → out.length ≤ i →
    ∃ r : List S101 × Bool, Ev (fun k => spec_DictAt.l0 k d ps out i) r ∧ r.1.length ≤ ps.length := by
  intro n
  induction n with
  | zero =>
    intro i out h0 hi ho
    exact ⟨(out, true), Ev.step (fun k => by rw [spec_DictAt.l0]) (by exact Ev.neg (by omega) (Ev.now _)), by simp; omega⟩
  | succ n ih =>
    intro i out h0 hi ho
    by_cases hv : 0 ≤ rd ps i ∧ rd ps i ≤ (d.length : Int) - 1
    · obtain ⟨h1, h2⟩ := hv
      obtain ⟨r, hr, hl⟩ := ih (i + 1) (out ++ [(⟨(rd_T101 d (rd ps i)).f0, (rd_T101 d (rd ps i)).f1⟩ : S101)]) (by omega) (by omega) (by simp; omega)
      refine ⟨r, ?_, hl⟩
      refine Ev.step (fun k => by rw [spec_DictAt.l0]) ?_
      refine Ev.pos (by omega) (Ev.pos h0 (Ev.here (a := true) ?_ (Ev.pos rfl (Ev.pos h1 (Ev.pos (by omega) (Ev.pos (by omega) ?_))))))
      · unfold spec_l1In.f
        rw [wrap64_id (by omega) (by omega), if_pos h1]
        simp [h2]
      · rw [wrap64_id (by omega) (by omega)]
        exact hr
    · refine ⟨([], false), ?_, by simp⟩
      refine Ev.step (fun k => by rw [spec_DictAt.l0]) ?_
      refine Ev.pos (by omega) (Ev.pos h0 (Ev.here (a := false) ?_ (Ev.neg (by decide) (Ev.now _))))
      unfold spec_l1In.f
      rw [wrap64_id (by omega) (by omega)]
      by_cases h1 : 0 ≤ rd ps i
      · rw [if_pos h1]; simp; omega
      · rw [if_neg h1]
theorem dictAt_both (d : List S101) (ps : List Int) (hd : d.length ≤ 1048576) : ∃ r : List S101 × Bool, Ev (fun k => spec_DictAt.f k d ps) r ∧ Ev (fun k => impl_DictAt.f k d ps) r ∧ r.1.length ≤ 2000 := by
  unfold spec_DictAt.f impl_DictAt.f
  by_cases h : (ps.length : Int) > 2000
  · exact ⟨([], false), Ev.here rfl (Ev.pos h (Ev.now _)), Ev.pos h (Ev.now _), by simp⟩
  · obtain ⟨r, hr, hl⟩ := dictAt_ev d ps hd (by omega) ps.length 0 [] (by omega) (by omega) (by simp)
    exact ⟨r, Ev.here rfl (Ev.neg h hr), Ev.neg h (Ev.congr (fun k => dictAt_same k d ps [] 0) hr), by omega⟩
theorem FnExactDictAt : ∀ (x0 : List (S103)) (x1 : List (Int)), (x0.length ≤ maxLen ∧ ∀ y ∈ x0, w103 y) → (x1.length ≤ maxLen ∧ ∀ y ∈ x1, (Lit.int .i64 y).wf = true) → ∃ k, laws_FnExactDictAt.f k x0 x1 = some true := by
  intro x ps hx hp
  refine Ev.rounds ?_
  unfold laws_FnExactDictAt.f
  by_cases hb : (ps.length : Int) > 1048576
  · exact Ev.pos hb (Ev.now _)
  refine Ev.neg hb ?_
  obtain ⟨r1, s1, c1, l1⟩ := szValS_ev x hx.1 hx.2 1048576 (by omega) (by omega)
  refine Ev.bind s1 ?_
  by_cases n1 : r1 < 0
  · exact Ev.pos n1 (Ev.now _)
  refine Ev.neg n1 ?_
  have t1 := toValS_ev x (by omega)
  have t2 := toIntS_ev ps (by omega)
  obtain ⟨r, es, ei, hl⟩ := dictAt_both (x.map cvVal) ps (by simp; omega)
  have q1 := eqValS_ev (x.map cvVal) (by simp; omega)
  have q2 := eqIntS_ev ps (by omega)
  have q3 := eqValS_ev r.1 (by omega)
  obtain ⟨m1, y1, p1, k1, _⟩ := markValS_ev (x.map cvVal) 1 (by omega) (by simp; omega)
  obtain ⟨m2, y2, p2, k2, _⟩ := markIntS_evm ps m1 (by simp at p1; omega) (by simp at p1; omega)
  obtain ⟨m3, y3, p3, k3, k4⟩ := markValS_ev r.1 1 (by omega) (by omega)
  simp only [List.length_map] at p1
  repeat' (first
    | with_reducible exact Ev.now _
    | with_reducible refine Ev.bind t1 ?_ | with_reducible refine Ev.bind t2 ?_ | with_reducible refine Ev.bind es ?_ | with_reducible refine Ev.bind ei ?_
    | with_reducible refine Ev.bind q1 ?_ | with_reducible refine Ev.bind q2 ?_ | with_reducible refine Ev.bind q3 ?_
    | with_reducible refine Ev.bind k1 ?_ | with_reducible refine Ev.bind k2 ?_ | with_reducible refine Ev.bind k3 ?_ | with_reducible refine Ev.bind k4 ?_
    | refine Ev.pos (by first | rfl | omega) ?_
    | refine Ev.neg (by first | omega | decide | simp) ?_
    | refine Ev.step (fun k => by rw [laws_FnExactDictAt.j0]) ?_
    | refine Ev.step (fun k => by rw [laws_FnExactDictAt.j1]) ?_
    | refine Ev.step (fun k => by rw [laws_FnExactDictAt.j2]) ?_)
end Go.Proofs.Ytjbilohbkhogkaa.Pure
