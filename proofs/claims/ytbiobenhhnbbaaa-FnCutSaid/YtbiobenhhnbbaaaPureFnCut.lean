/- The pure statement of FnCut: the printed functions answer as the law says, for all arguments. No condition. -/
import Derived.Test.YtbiobenhhnbbaaaVFnCut
import Derived.Test.YtbiobenhhnbbaaaPFnCutx
import Derived.Test.YtbiobenhhnbbaaaArgFnCut
namespace Go.Proofs.Ytbiobenhhnbbaaa.Pure
open Go.RowKit Go.Proofs.Ytbiobenhhnbbaaa.PFnCut Go.Proofs.Ytbiobenhhnbbaaa.Core Go.Proofs.YtbiobenhhnbbaaaW.PrintWords Go.Proofs.YtbiobenhhnbbaaaW.PrintLast Go.Proofs.YtbiobenhhnbbaaaW.PrintMore Go.Proofs.YtbiobenhhnbbaaaW.PrintMore2 Go.Proofs.Ytbiobenhhnbbaaa.AFnCut
set_option linter.unusedVariables false
set_option linter.unusedSimpArgs false
def tOk (t : Int) : Bool := decide (t = 0 ∨ t = 1 ∨ t = 2 ∨ t = 5 ∨ t = 6)
theorem l5Type_some (t : Int) : spec_l5Type.f t = some (tOk t) := by
  unfold spec_l5Type.f
  (repeat' split) <;> simp_all [tOk]
theorem l1In_same (x lo hi : Int) : (if x ≥ lo then some (decide (x ≤ hi)) else some false) = some (decide (lo ≤ x ∧ x ≤ hi)) := by
  by_cases h : x ≥ lo
  · rw [if_pos h]; congr 1; simp; omega
  · rw [if_neg h]; congr 1; symm; simp; omega
def noText (s : ByteArray) : Bool := s.toList == ([] : List UInt8)
def vOk (t : Int) (v : S33) : Bool :=
  if t = 0 then decide (0 ≤ v.f0 ∧ v.f0 ≤ 1) && noText v.f1
  else if t = 1 then decide (-2147483648 ≤ v.f0 ∧ v.f0 ≤ 2147483647) && noText v.f1
  else if t = 2 ∨ t = 5 then noText v.f1
  else if t = 6 then decide (v.f0 = 0) && decide ((v.f1.size : Int) ≤ 40) else false
theorem l1In_some (x lo hi : Int) : spec_l1In.f x lo hi = some (decide (lo ≤ x ∧ x ≤ hi)) := by unfold spec_l1In.f; exact l1In_same x lo hi
theorem spec_ValOk_ev (t : Int) (v : S33) : Ev (fun k => spec_ValOk.f k t v.f0 v.f1) (vOk t v) := by
  refine ⟨2, fun k hk => ?_⟩
  obtain ⟨m, rfl⟩ : ∃ m, k = m + 2 := ⟨k - 2, by omega⟩
  unfold spec_ValOk.f spec_l4Int.f vOk noText
  simp only [l1In_some, Option.bind_some, spec_ValOk.j0]
  by_cases h0 : t = 0
  · rw [if_pos h0, if_pos h0]; by_cases h : 0 ≤ v.f0 ∧ v.f0 ≤ 1 <;> simp [h]
  rw [if_neg h0, if_neg h0]
  by_cases h1 : t = 1
  · rw [if_pos h1, if_pos h1]; by_cases h : -2147483648 ≤ v.f0 ∧ v.f0 ≤ 2147483647 <;> simp [h]
  rw [if_neg h1, if_neg h1]
  by_cases h2 : t = 2
  · rw [if_pos (show t = 2 ∨ t = 5 from .inl h2)]; simp [h2]
  rw [if_neg h2]
  by_cases h5 : t = 5
  · rw [if_pos (show t = 2 ∨ t = 5 from .inr h5)]; simp [h5]
  rw [if_neg (show ¬ (t = 2 ∨ t = 5) by omega)]
  by_cases h6 : t = 6
  · rw [if_pos h6]; by_cases h : v.f0 = 0 <;> simp [h, h6]
  · rw [if_neg h6]; simp [h5, h6]
/-- A reader of draws that is within its bytes. -/
def Cur (s : List Int) (i : Int) : Prop := 0 ≤ i ∧ i ≤ s.length ∧ s.length ≤ 1048576
theorem l1New_ev (l : List Int) (hl : l.length ≤ 1048576) : ∃ h, Ev (fun k => spec_l1New.f k l) (l, 0, h) := by
  unfold spec_l1New.f
  have key : ∀ (d : Nat) (i h : Int), 0 ≤ i → i + d = l.length → ∃ h', Ev (fun k => spec_l1New.l0 k l h i) (l, 0, h') := by
    intro d
    induction d with
    | zero =>
      intro i h h0 hi
      exact ⟨_, Ev.step (fun k => by rw [spec_l1New.l0]) (by exact Ev.neg (by omega) (Ev.now _))⟩
    | succ d ih =>
      intro i h h0 hi
      by_cases h4 : i < 4000
      · obtain ⟨h', hr⟩ := ih (i + 1) (Go.bits .and .i64 (wrap64 ((wrap64 ((wrap64 (h * 131)) + (wrap64 (rd l i)))) + 7)) 1073741823) (by omega) (by omega)
        refine ⟨h', Ev.step (fun k => by rw [spec_l1New.l0]) (Ev.pos (by omega) (Ev.pos h4 (Ev.pos h0 ?_)))⟩
        rw [wrap64_id (x := i + 1) (by omega) (by omega)]
        exact hr
      · exact ⟨_, Ev.step (fun k => by rw [spec_l1New.l0]) (by exact Ev.pos (by omega) (Ev.neg h4 (Ev.now _)))⟩
  exact key l.length 0 _ (by omega) (by omega)
theorem l1Byte_some (s : List Int) (i h : Int) (hc : Cur s i) : ∃ v i' h', spec_l1Byte.f s i h = some (v, i', h') ∧ 0 ≤ v ∧ v ≤ 255 ∧ Cur s i' := by
  obtain ⟨h0, h1, h2⟩ := hc
  unfold spec_l1Byte.f
  by_cases hlt : i < (s.length : Int)
  · rw [if_pos hlt, if_pos h0]
    refine ⟨_, _, _, rfl, (and_255 _).1, (and_255 _).2, ?_⟩
    rw [wrap64_id (by omega) (by omega)]
    exact ⟨by omega, by omega, h2⟩
  · rw [if_neg hlt]
    exact ⟨_, _, _, rfl, (and_255 _).1, (and_255 _).2, h0, h1, h2⟩
theorem l1Below_some (s : List Int) (i h n : Int) (hc : Cur s i) : ∃ v i' h', spec_l1Below.f s i h n = some (v, i', h') ∧ 0 ≤ v ∧ (0 < n → v < n) ∧ (n ≤ 0 → v = 0) ∧ Cur s i' := by
  unfold spec_l1Below.f
  by_cases hn : n ≤ 0
  · rw [if_pos hn]
    exact ⟨0, i, h, rfl, by omega, by omega, fun _ => rfl, hc⟩
  rw [if_neg hn]
  have hm : ∀ x : Int, 0 ≤ x → 0 ≤ Int.tmod x n ∧ Int.tmod x n < n := fun x hx => by
    rw [Int.tmod_eq_emod_of_nonneg hx]
    exact ⟨Int.emod_nonneg _ (by omega), Int.emod_lt_of_pos _ (by omega)⟩
  by_cases h256 : n ≤ 256
  · rw [if_pos h256]
    obtain ⟨v, i', h', e, v0, v1, hc'⟩ := l1Byte_some s i h hc
    rw [e]
    simp only [Option.bind_some]
    rw [if_neg (by omega)]
    exact ⟨_, _, _, rfl, (hm v v0).1, fun _ => (hm v v0).2, by omega, hc'⟩
  · rw [if_neg h256]
    obtain ⟨a, i1, h1, e1, a0, a1, c1⟩ := l1Byte_some s i h hc
    obtain ⟨b, i2, h2, e2, b0, b1, c2⟩ := l1Byte_some s i1 h1 c1
    obtain ⟨c, i3, h3, e3, c0, c1', c3⟩ := l1Byte_some s i2 h2 c2
    obtain ⟨d, i4, h4, e4, d0, d1, c4⟩ := l1Byte_some s i3 h3 c3
    rw [e1]; simp only [Option.bind_some]; rw [e2]; simp only [Option.bind_some]; rw [e3]; simp only [Option.bind_some]; rw [e4]; simp only [Option.bind_some]
    rw [if_neg (by omega)]
    have hx : 0 ≤ wrap64 ((wrap64 ((wrap64 ((wrap64 (a * 16777216)) + (wrap64 (b * 65536)))) + (wrap64 (c * 256)))) + d) := by
      rw [wrap64_id (x := a * 16777216) (by omega) (by omega), wrap64_id (x := b * 65536) (by omega) (by omega), wrap64_id (x := c * 256) (by omega) (by omega)]
      rw [wrap64_id (x := a * 16777216 + b * 65536) (by omega) (by omega), wrap64_id (x := a * 16777216 + b * 65536 + c * 256) (by omega) (by omega), wrap64_id (by omega) (by omega)]
      omega
    exact ⟨_, _, _, rfl, (hm _ hx).1, fun _ => (hm _ hx).2, by omega, c4⟩
theorem l1Once_some (s : List Int) (i h n : Int) (hc : Cur s i) : ∃ v i' h', spec_l1Once.f s i h n = some (v, i', h') ∧ Cur s i' := by
  unfold spec_l1Once.f
  obtain ⟨v, i', h', e, _, _, _, c⟩ := l1Below_some s i h n hc
  rw [e]
  exact ⟨_, _, _, rfl, c⟩
theorem l1PickInt_some (s : List Int) (i h : Int) (l : List Int) (hc : Cur s i) (hl : 0 < l.length) : ∃ v i' h', spec_l1PickInt.f s i h l = some (v, i', h') ∧ v ∈ l ∧ Cur s i' := by
  unfold spec_l1PickInt.f
  obtain ⟨v, i', h', e, v0, v1, _, c⟩ := l1Below_some s i h (l.length : Int) hc
  rw [e]; simp only [Option.bind_some]
  have := v1 (by omega)
  rw [if_pos v0, if_pos this, rd_eq (by omega)]
  exact ⟨_, _, _, rfl, List.getElem_mem _, c⟩
theorem l1Pick_some (s : List Int) (i h : Int) (l : List ByteArray) (hc : Cur s i) (hl : 0 < l.length) : ∃ v i' h', spec_l1Pick.f s i h l = some (v, i', h') ∧ v ∈ l ∧ Cur s i' := by
  unfold spec_l1Pick.f
  obtain ⟨v, i', h', e, v0, v1, _, c⟩ := l1Below_some s i h (l.length : Int) hc
  rw [e]; simp only [Option.bind_some]
  have := v1 (by omega)
  rw [if_pos v0, if_pos this, rdOf_eq (by omega)]
  exact ⟨_, _, _, rfl, List.getElem_mem _, c⟩
def I64 (x : Int) : Prop := -9223372036854775808 ≤ x ∧ x ≤ 9223372036854775807
theorem I64_wrap (x : Int) : I64 (wrap64 x) := ⟨wrap64_lo x, wrap64_hi x⟩
theorem l2DrawNum_some (s : List Int) (i h : Int) (hc : Cur s i) : ∃ v i' h', spec_l2DrawNum.f s i h = some (v, i', h') ∧ I64 v ∧ Cur s i' := by
  unfold spec_l2DrawNum.f
  obtain ⟨a, i1, h1, e1, a0, a1, _, c1⟩ := l1Below_some s i h 1000000 hc
  obtain ⟨b, i2, h2, e2, b0, b1, _, c2⟩ := l1Below_some s i1 h1 1000000 c1
  obtain ⟨c, i3, h3, e3, c0, c1', _, c3⟩ := l1Below_some s i2 h2 300 c2
  have := a1 (by omega); have := b1 (by omega); have := c1' (by omega)
  obtain ⟨v, i4, h4, e4, hv, c4⟩ := l1PickInt_some s i3 h3 ([0, 1, (-1), 63, 64, (-64), (-65), 127, 128, 16383, 16384, 2147483647, (-2147483648), 9223372036854775807, (-9223372036854775808), 4611686018427387904, a, wrap64 (-b), c] : List Int) c3 (by simp)
  refine ⟨v, i4, h4, ?_, ?_, c4⟩
  · rw [e1]; simp only [Option.bind_some]; rw [e2]; simp only [Option.bind_some]; rw [e3]; simp only [Option.bind_some]; rw [e4]; rfl
  · have w0 := wrap64_lo (-b); have w1 := wrap64_hi (-b)
    simp only [List.mem_cons, List.not_mem_nil, or_false] at hv
    unfold I64; omega
theorem l1DrawBytes_ev (s : List Int) (i h most : Int) (hc : Cur s i) (hm0 : 0 ≤ most) (hm : most ≤ 1000000) : ∃ (l : List Int) (i' h' : Int), Ev (fun k => spec_l1DrawBytes.f k s i h most) (l, i', h') ∧ (l.length : Int) ≤ most ∧ (∀ x ∈ l, 0 ≤ x ∧ x ≤ 255) ∧ Cur s i' := by
  unfold spec_l1DrawBytes.f
  rw [wrap64_id (by omega) (by omega)]
  obtain ⟨n, i1, h1, e1, n0, n1, _, c1⟩ := l1Below_some s i h (most + 1) hc
  have key : ∀ (d : Nat) (out : List Int) (j i h : Int), 0 ≤ j → j + d = n → out.length = j → (∀ x ∈ out, 0 ≤ x ∧ x ≤ 255) → Cur s i →
      ∃ (l : List Int) (i' h' : Int), Ev (fun k => spec_l1DrawBytes.l0 k out n j s i h) (l, i', h') ∧ (l.length : Int) = n ∧ (∀ x ∈ l, 0 ≤ x ∧ x ≤ 255) ∧ Cur s i' := by
    intro d
    induction d with
    | zero =>
      intro out j i h j0 hj ho hx hc
      exact ⟨out, i, h, Ev.step (fun k => by rw [spec_l1DrawBytes.l0]) (by exact Ev.neg (by omega) (Ev.now _)), by omega, hx, hc⟩
    | succ d ih =>
      intro out j i h j0 hj ho hx hc
      obtain ⟨v, i2, h2, e2, v0, v1, c2⟩ := l1Byte_some s i h hc
      obtain ⟨l, i3, h3, hr, hl, hx3, c3⟩ := ih (out ++ [v % 256]) (j + 1) i2 h2 (by omega) (by omega) (by simp; omega) (by
        intro x hx'
        rcases List.mem_append.1 hx' with h | h
        · exact hx x h
        · obtain rfl := List.mem_singleton.1 h
          omega) c2
      refine ⟨l, i3, h3, ?_, hl, hx3, c3⟩
      refine Ev.step (fun k => by rw [spec_l1DrawBytes.l0]) ?_
      refine Ev.pos (by omega) (Ev.here e2 (Ev.pos (by omega) ?_))
      rw [wrap64_id (x := j + 1) (by omega) (by omega)]
      exact hr
  obtain ⟨l, i', h', hr, hl, hx, c⟩ := key n.toNat [] 0 i1 h1 (by omega) (by omega) (by simp) (by simp) c1
  exact ⟨l, i', h', Ev.here e1 hr, by omega, hx, c⟩
theorem l4DrawText_ev (s : List Int) (i h most : Int) (hc : Cur s i) (hm0 : 0 ≤ most) (hm : most ≤ 1000000) : ∃ (t : ByteArray) (i' h' : Int), Ev (fun k => spec_l4DrawText.f k s i h most) (t, i', h') ∧ (t.size : Int) ≤ most ∧ Cur s i' := by
  unfold spec_l4DrawText.f
  obtain ⟨l, i', h', hr, hl, _, c⟩ := l1DrawBytes_ev s i h most hc hm0 hm
  exact ⟨_, _, _, Ev.bind hr (Ev.now _), by rw [strOfNums_size]; exact hl, c⟩
/-- A drawn value: a number of 64 bits, a text of at most 41 bytes. -/
def DrawnV (v : Int) (x : ByteArray) : Prop := I64 v ∧ x.size ≤ 41
theorem DrawnV.num {v : Int} (h : I64 v) : DrawnV v (⟨#[]⟩ : ByteArray) := ⟨h, by decide⟩
theorem l6DrawRight_ev (s : List Int) (i h : Int) (t : Int) (hc : Cur s i) : ∃ v x i' h', Ev (fun k => spec_l6DrawRight.f k s i h t) (v, x, i', h') ∧ DrawnV v x ∧ Cur s i' := by
  unfold spec_l6DrawRight.f
  by_cases h0 : t = 0
  · obtain ⟨v, i1, h1, e1, v0, v1, _, c1⟩ := l1Below_some s i h 2 hc
    have := v1 (by omega)
    exact ⟨_, _, _, _, Ev.pos h0 (Ev.here e1 (Ev.now _)), DrawnV.num (by unfold I64; (try dsimp only); omega), c1⟩
  by_cases h1 : t = 1
  · obtain ⟨o, i1, h1', e1, c1⟩ := l1Once_some s i h 6 hc
    by_cases ho : o = true
    · obtain ⟨v, i2, h2, e2, hv, c2⟩ := l1PickInt_some s i1 h1' ([2147483647, (-2147483648), 0] : List Int) c1 (by simp)
      simp only [List.mem_cons, List.not_mem_nil, or_false] at hv
      exact ⟨_, _, _, _, Ev.neg h0 (Ev.pos h1 (Ev.here e1 (Ev.pos ho (Ev.here e2 (Ev.now _))))), DrawnV.num (by unfold I64; (try dsimp only); omega), c2⟩
    · obtain ⟨v, i2, h2, e2, v0, v1, _, c2⟩ := l1Below_some s i1 h1' 40 c1
      exact ⟨_, _, _, _, Ev.neg h0 (Ev.pos h1 (Ev.here e1 (Ev.neg ho (Ev.here e2 (Ev.now _))))), DrawnV.num (I64_wrap _), c2⟩
  by_cases h6 : t = 6
  · obtain ⟨o, i1, h1', e1, c1⟩ := l1Once_some s i h 3 hc
    by_cases ho : o = true
    · obtain ⟨v, i2, h2, e2, hv, c2⟩ := l1Pick_some s i1 h1' ([(⟨#[]⟩ : ByteArray), (⟨#[97]⟩ : ByteArray), (⟨#[97, 98]⟩ : ByteArray), (⟨#[97, 98, 99]⟩ : ByteArray), (⟨#[97, 98, 100]⟩ : ByteArray), (⟨#[98]⟩ : ByteArray), (⟨#[97, 97]⟩ : ByteArray)] : List ByteArray) c1 (by simp)
      refine ⟨_, _, _, _, Ev.neg h0 (Ev.neg h1 (Ev.pos h6 (Ev.here e1 (Ev.pos ho (Ev.here e2 (Ev.now _)))))), ⟨by unfold I64; (try dsimp only); omega, ?_⟩, c2⟩
      simp only [List.mem_cons, List.not_mem_nil, or_false] at hv
      rcases hv with rfl | rfl | rfl | rfl | rfl | rfl | rfl <;> (dsimp only; decide)
    · obtain ⟨x, i2, h2, e2, hs, c2⟩ := l4DrawText_ev s i1 h1' 6 c1 (by omega) (by omega)
      exact ⟨_, _, _, _, Ev.neg h0 (Ev.neg h1 (Ev.pos h6 (Ev.here e1 (Ev.neg ho (Ev.bind e2 (Ev.now _)))))), ⟨by unfold I64; (try dsimp only); omega, by dsimp only; omega⟩, c2⟩
  by_cases h5 : t = 5
  · obtain ⟨a, i1, h1', e1, a0, a1, _, c1⟩ := l1Below_some s i h 9 hc
    have := a1 (by omega)
    obtain ⟨b, i2, h2, e2, hb, c2⟩ := l2DrawNum_some s i1 h1' c1
    obtain ⟨v, i3, h3, e3, hv, c3⟩ := l1PickInt_some s i2 h2 ([0, (-9223372036854775808), 4607182418800017408, (-4616189618054758400), 9221120237041090560, (-2251799813685248), a, b] : List Int) c2 (by simp)
    simp only [List.mem_cons, List.not_mem_nil, or_false] at hv
    refine ⟨_, _, _, _, Ev.neg h0 (Ev.neg h1 (Ev.neg h6 (Ev.pos h5 (Ev.here e1 (Ev.here e2 (Ev.here e3 (Ev.now _))))))), DrawnV.num ?_, c3⟩
    unfold I64 at *; dsimp only; omega
  · obtain ⟨o, i1, h1', e1, c1⟩ := l1Once_some s i h 2 hc
    by_cases ho : o = true
    · obtain ⟨v, i2, h2, e2, v0, v1, _, c2⟩ := l1Below_some s i1 h1' 30 c1
      exact ⟨_, _, _, _, Ev.neg h0 (Ev.neg h1 (Ev.neg h6 (Ev.neg h5 (Ev.here e1 (Ev.pos ho (Ev.here e2 (Ev.now _))))))), DrawnV.num (I64_wrap _), c2⟩
    · obtain ⟨v, i2, h2, e2, hv, c2⟩ := l2DrawNum_some s i1 h1' c1
      exact ⟨_, _, _, _, Ev.neg h0 (Ev.neg h1 (Ev.neg h6 (Ev.neg h5 (Ev.here e1 (Ev.neg ho (Ev.here e2 (Ev.now _))))))), DrawnV.num hv, c2⟩
def nameOk (b : ByteArray) : Bool := decide (1 ≤ (b.size : Int) ∧ (b.size : Int) ≤ 20) && (List.range b.size).all (fun (i : Nat) => decide (97 ≤ bt b (i : Int) ∧ bt b (i : Int) ≤ 122))
theorem spec_l5Name_ev (b : ByteArray) (hb : b.size ≤ 9223372036854775807) : Ev (fun k => spec_l5Name.f k b) (nameOk b) := by
  unfold spec_l5Name.f nameOk
  refine Ev.here (l1In_some _ _ _) ?_
  by_cases h : 1 ≤ (b.size : Int) ∧ (b.size : Int) ≤ 20
  · rw [decide_eq_true h]
    refine Ev.pos rfl ?_
    have key := all_loop (fun k i => spec_l5Name.l0 k b i) (fun (i : Nat) => decide (97 ≤ bt b (i : Int) ∧ bt b (i : Int) ≤ 122)) b.size false true
      (fun i r hi hp hr => by
        have hp' := of_decide_eq_true hp
        refine Ev.step (fun k => by rw [spec_l5Name.l0]) ?_
        refine Ev.pos (by omega) (Ev.pos (by omega) (Ev.neg (by omega) (Ev.neg (by omega) ?_)))
        rw [wrap64_id (by omega) (by omega)]
        simpa using hr)
      (fun i hi hp => by
        have hp' := of_decide_eq_false hp
        refine Ev.step (fun k => by rw [spec_l5Name.l0]) ?_
        refine Ev.pos (by omega) (Ev.pos (by omega) ?_)
        by_cases h1 : bt b (i : Int) < 97
        · exact Ev.pos h1 (Ev.now _)
        · exact Ev.neg h1 (Ev.pos (by omega) (Ev.now _)))
      (by exact Ev.step (fun k => by rw [spec_l5Name.l0]) (by exact Ev.neg (by omega) (Ev.now _)))
    refine Ev.cast key ?_
    cases (List.range b.size).all _ <;> rfl
  · rw [decide_eq_false h]
    exact Ev.neg (by decide) (Ev.now _)
def colB (root : Bool) (c : S61) : Bool := (if c.f1 = 7 then decide (1 ≤ c.f3) else tOk c.f1 && decide (c.f3 = 0)) && decide (0 ≤ c.f2 ∧ c.f2 ≤ 2) && (root || nameOk c.f0)
def parts (f : Int → Int) (s : List S61) : Nat → Int → List ByteArray → Int
  | 0, next, _ => next
  | n + 1, next, names => if next ≥ (s.length : Int) then -1 else if names.any (fun x => decide (x.toList = (rd_T61 s next).f0.toList)) then -1 else if f next < 0 then -1 else parts f s n (f next) (names ++ [(rd_T61 s next).f0])
def chk (s : List S61) : Nat → Int → Int
  | 0, _ => -1
  | d + 1, p => if p ≥ (s.length : Int) then -1 else if colB (decide (p = 0)) (rd_T61 s p) = true then parts (chk s d) s (rd_T61 s p).f3.toNat (p + 1) [] else -1
theorem parts_range (f : Int → Int) (s : List S61) (hf : ∀ p, 0 ≤ p → f p = -1 ∨ (p < f p ∧ f p ≤ s.length)) : ∀ (n : Nat) (next : Int) (names : List ByteArray), 0 ≤ next → next ≤ s.length → parts f s n next names = -1 ∨ (next ≤ parts f s n next names ∧ parts f s n next names ≤ s.length)
  | 0, next, names, h0, h1 => .inr ⟨by simp [parts], by simp [parts]; exact h1⟩
  | n + 1, next, names, h0, h1 => by
    unfold parts
    split
    · exact .inl rfl
    split
    · exact .inl rfl
    split
    · exact .inl rfl
    · have hn := hf next h0
      have := parts_range f s hf n (f next) (names ++ [(rd_T61 s next).f0]) (by omega) (by omega)
      omega
theorem chk_range (s : List S61) : ∀ (d : Nat) (p : Int), 0 ≤ p → chk s d p = -1 ∨ (p < chk s d p ∧ chk s d p ≤ s.length)
  | 0, p, h => .inl rfl
  | d + 1, p, h => by
    unfold chk
    split
    · exact .inl rfl
    split
    · have := parts_range (chk s d) s (fun q hq => chk_range s d q hq) (rd_T61 s p).f3.toNat (p + 1) [] (by omega) (by omega)
      omega
    · exact .inl rfl
/-- A row of columns whose names are no longer than Go's int, and that are not too many. -/
def ColsOk (s : List S61) : Prop := s.length ≤ 1048576 ∧ (∀ i : Int, (rd_T61 s i).f0.size ≤ 9223372036854775807) ∧ (∀ i : Int, (rd_T61 s i).f3 ≤ 9223372036854775807)
def rootB (c : S61) : Bool := decide (c.f1 = 7) && decide (c.f2 = 0) && decide (c.f0.toList = ([] : List UInt8))
theorem spec_l5Check_ev (s : List S61) (hs : ColsOk s) : ∀ (d : Nat) (p : Int), d ≤ 7 → 0 ≤ p → p ≤ s.length → Ev (fun k => spec_l5Check.f k s p (7 - (d : Int))) (if p = 0 ∧ rootB (rd_T61 s p) = false then -1 else chk s d p) := by
  obtain ⟨hl, hn, hm⟩ := hs
  have bad : ∀ p dd, Ev (fun k => spec_l5Check.j0 k s p dd true) (-1) := fun p dd => Ev.step (fun k => by rw [spec_l5Check.j0]) (by exact Ev.pos rfl (Ev.now _))
  intro d
  induction d with
  | zero =>
    intro p _ h0 h1
    refine Ev.step (fun k => by rw [spec_l5Check.f]) ?_
    have e : (if p = 0 ∧ rootB (rd_T61 s p) = false then -1 else chk s 0 p) = -1 := by split <;> rfl
    rw [e]
    by_cases h : p ≥ (s.length : Int)
    · exact Ev.pos h (bad _ _)
    · refine Ev.neg h ?_
      have : decide (7 - ((0 : Nat) : Int) > 6) = true := by decide
      rw [this]; exact bad _ _
  | succ d ih =>
    intro p hd h0 h1
    refine Ev.step (fun k => by rw [spec_l5Check.f]) ?_
    by_cases h : p ≥ (s.length : Int)
    · have e : (if p = 0 ∧ rootB (rd_T61 s p) = false then -1 else chk s (d + 1) p) = -1 := by
        split
        · rfl
        · unfold chk; rw [if_pos h]
      rw [e]; exact Ev.pos h (bad _ _)
    refine Ev.neg h ?_
    have hdd : decide (7 - ((d + 1 : Nat) : Int) > 6) = false := decide_eq_false (by omega)
    rw [hdd]
    refine Ev.step (fun k => by rw [spec_l5Check.j0]) ?_
    refine Ev.neg (by decide) (Ev.pos h0 (Ev.pos (by omega) ?_))
    have inner : ∀ (n : Nat) (i next : Int) (names : List ByteArray), i + n = (rd_T61 s p).f3 → 0 ≤ i → 0 < next → next ≤ s.length → (names.length : Int) ≤ next →
        Ev (fun k => spec_l5Check.l0 k s (7 - ((d + 1 : Nat) : Int)) next names i (rd_T61 s p).f0 (rd_T61 s p).f1 (rd_T61 s p).f2 (rd_T61 s p).f3) (parts (chk s d) s n next names) := by
      intro n
      induction n with
      | zero =>
        intro i next names hi i0 n0 n1 nl
        exact Ev.step (fun k => by rw [spec_l5Check.l0]) (by exact Ev.neg (by omega) (Ev.now _))
      | succ n ihn =>
        intro i next names hi i0 n0 n1 nl
        refine Ev.step (fun k => by rw [spec_l5Check.l0]) ?_
        unfold parts
        refine Ev.pos (by omega) ?_
        by_cases hx : next ≥ (s.length : Int)
        · rw [if_pos hx]; exact Ev.pos hx (Ev.now _)
        rw [if_neg hx]
        refine Ev.neg hx ?_
        have rest : ∀ (m j : Nat), j + m = names.length → Ev (fun k => spec_l5Check.l1 k s (7 - ((d + 1 : Nat) : Int)) next names i (j : Int) (rd_T61 s p).f0 (rd_T61 s p).f1 (rd_T61 s p).f2 (rd_T61 s p).f3)
            (if (names.drop j).any (fun x => decide (x.toList = (rd_T61 s next).f0.toList)) then -1 else if chk s d next < 0 then -1 else parts (chk s d) s n (chk s d next) (names ++ [(rd_T61 s next).f0])) := by
          intro m
          induction m with
          | zero =>
            intro j hj
            rw [List.drop_eq_nil_of_le (by omega)]
            rw [if_neg (by simp)]
            refine Ev.step (fun k => by rw [spec_l5Check.l1]) ?_
            refine Ev.neg (by omega) (Ev.pos (by omega) (Ev.pos (by omega) (Ev.pos (by omega) ?_)))
            have e : wrap64 (7 - ((d + 1 : Nat) : Int) + 1) = 7 - (d : Int) := by rw [wrap64_id (by omega) (by omega)]; omega
            rw [e]
            have hih := ih next (by omega) (by omega) n1
            rw [if_neg (by omega)] at hih
            refine Ev.bind hih ?_
            have hr := chk_range s d next (by omega)
            by_cases hneg : chk s d next < 0
            · rw [if_pos hneg]; exact Ev.pos hneg (Ev.now _)
            · rw [if_neg hneg]
              refine Ev.neg hneg ?_
              have hmm := hm p
              rw [wrap64_id (x := i + 1) (by omega) (by omega)]
              exact ihn (i + 1) (chk s d next) (names ++ [(rd_T61 s next).f0]) (by omega) (by omega) (by omega) (by omega) (by simp; omega)
          | succ m ihm =>
            intro j hj
            have hjl : j < names.length := by omega
            have ed : names.drop j = names[j] :: names.drop (j + 1) := List.drop_eq_getElem_cons hjl
            refine Ev.step (fun k => by rw [spec_l5Check.l1]) ?_
            refine Ev.pos (by omega) (Ev.pos (by omega) (Ev.pos (by omega) (Ev.pos (by omega) ?_)))
            rw [rdOf_eq (by omega)]
            have ej : names[((j : Int)).toNat]'(by omega) = names[j] := rfl
            rw [ej, ed, List.any_cons]
            by_cases he : (names[j]).toList = (rd_T61 s next).f0.toList
            · rw [decide_eq_true he]; exact Ev.pos he (Ev.now _)
            · rw [decide_eq_false he]
              refine Ev.neg he ?_
              rw [wrap64_id (x := (j : Int) + 1) (by omega) (by omega)]
              exact ihm (j + 1) (by omega)
        exact rest names.length 0 (by omega)
    -- what stands behind the checks of the name and of the kind of repetition
    have hx : ∀ b : Bool, (!b) = (decide (0 ≤ (rd_T61 s p).f2 ∧ (rd_T61 s p).f2 ≤ 2) && (decide (p = 0) || nameOk (rd_T61 s p).f0)) → Ev (fun k => spec_l5Check.j1 k s p (7 - ((d + 1 : Nat) : Int)) b (rd_T61 s p).f0 (rd_T61 s p).f1 (rd_T61 s p).f2 (rd_T61 s p).f3) (chk s (d + 1) p) := by
      intro b hb
      unfold chk
      rw [if_neg h]
      refine Ev.step (fun k => by rw [spec_l5Check.j1]) ?_
      unfold colB
      rw [Bool.and_assoc, ← hb]
      cases b with
      | true => rw [Bool.not_true, Bool.and_false, if_neg (show ¬ (false = true) by decide)]; exact Ev.pos rfl (Ev.now _)
      | false =>
        rw [Bool.not_false, Bool.and_true]
        refine Ev.neg (by decide) ?_
        by_cases h7 : (rd_T61 s p).f1 = 7
        · refine Ev.pos h7 ?_
          rw [if_pos h7]
          by_cases h3 : (rd_T61 s p).f3 < 1
          · rw [decide_eq_false (show ¬ 1 ≤ (rd_T61 s p).f3 by omega), if_neg (show ¬ (false = true) by decide)]; exact Ev.pos h3 (Ev.now _)
          · rw [decide_eq_true (show 1 ≤ (rd_T61 s p).f3 by omega), if_pos (show true = true from rfl)]
            refine Ev.neg h3 ?_
            rw [wrap64_id (x := p + 1) (by omega) (by omega)]
            exact inner (rd_T61 s p).f3.toNat 0 (p + 1) [] (by omega) (by omega) (by omega) (by omega) (by simp; omega)
        · refine Ev.neg h7 (Ev.here (l5Type_some _) ?_)
          rw [if_neg h7]
          cases ht : tOk (rd_T61 s p).f1 with
          | false => exact Ev.neg (show ¬ (false = true) by decide) (Ev.const rfl)
          | true =>
            refine Ev.pos rfl ?_
            by_cases h3 : (rd_T61 s p).f3 = 0
            · rw [decide_eq_true h3, if_pos (show (true && true) = true from rfl), h3]
              refine Ev.pos rfl (Ev.const ?_)
              rw [wrap64_id (x := p + 1) (by omega) (by omega)]; rfl
            · rw [decide_eq_false h3, if_neg (show ¬ ((true && false) = true) by decide)]; exact Ev.neg h3 (Ev.now _)
    by_cases hp0 : p = 0
    · refine Ev.pos hp0 ?_
      have hbad : rootB (rd_T61 s p) = false → Ev (fun k => spec_l5Check.j1 k s p (7 - ((d + 1 : Nat) : Int)) true (rd_T61 s p).f0 (rd_T61 s p).f1 (rd_T61 s p).f2 (rd_T61 s p).f3) (if p = 0 ∧ rootB (rd_T61 s p) = false then -1 else chk s (d + 1) p) := fun hr => by
        rw [if_pos ⟨hp0, hr⟩]
        exact Ev.step (fun k => by rw [spec_l5Check.j1]) (by exact Ev.pos rfl (Ev.now _))
      by_cases r1 : (rd_T61 s p).f0.toList = ([] : List UInt8)
      · refine Ev.pos r1 ?_
        by_cases r2 : (rd_T61 s p).f2 = 0
        · refine Ev.pos r2 ?_
          by_cases r3 : (rd_T61 s p).f1 = 7
          · refine Ev.pos r3 (Ev.neg (by omega) (Ev.here (l1In_some _ _ _) ?_))
            have hr : rootB (rd_T61 s p) = true := by unfold rootB; rw [decide_eq_true r1, decide_eq_true r2, decide_eq_true r3]; rfl
            rw [if_neg (by rw [hr]; simp)]
            exact hx _ (by rw [decide_eq_true hp0]; simp)
          · exact Ev.neg r3 (hbad (by unfold rootB; rw [decide_eq_false r3]; simp))
        · exact Ev.neg r2 (hbad (by unfold rootB; rw [decide_eq_false r2]; simp))
      · exact Ev.neg r1 (hbad (by unfold rootB; rw [decide_eq_false r1]; simp))
    · rw [if_neg (by omega)]
      refine Ev.neg hp0 (Ev.pos (by omega) (Ev.bind (spec_l5Name_ev _ (hn p)) ?_))
      cases hnm : nameOk (rd_T61 s p).f0 with
      | true =>
        refine Ev.pos rfl (Ev.here (l1In_some _ _ _) ?_)
        exact hx _ (by rw [hnm]; simp)
      | false => exact Ev.neg (by decide) (hx true (by rw [hnm, decide_eq_false hp0]; simp))
def schOk (s : List S61) : Bool := decide (2 ≤ (s.length : Int) ∧ (s.length : Int) ≤ 20) && rootB (rd_T61 s 0) && decide (chk s 6 0 = (s.length : Int))
theorem spec_SchemaOk_ev (s : List S61) (hs : ColsOk s) : Ev (fun k => spec_SchemaOk.f k s) (schOk s) := by
  unfold spec_SchemaOk.f schOk
  refine Ev.here (l1In_some _ _ _) ?_
  by_cases h : 2 ≤ (s.length : Int) ∧ (s.length : Int) ≤ 20
  · rw [decide_eq_true h]
    refine Ev.pos rfl (Ev.bind (spec_l5Check_ev s hs 6 0 (by omega) (by omega) (by omega)) (Ev.const ?_))
    cases hr : rootB (rd_T61 s 0) with
    | false =>
      rw [if_pos ⟨rfl, rfl⟩]
      have : ((-1 : Int) == (s.length : Int)) = false := by simp
      rw [this]; rfl
    | true =>
      rw [if_neg (by simp)]
      rfl
  · rw [decide_eq_false h]
    exact Ev.neg (by decide) (Ev.now _)
/-- The columns that are no structs, from the front. -/
def lvStep (s : List S61) (i : Nat) (out : List Int) : List Int := if (rd_T61 s (i : Int)).f1 = 7 then out else out ++ [(i : Int)]
def lvs (s : List S61) (n : Nat) : List Int := (List.range n).foldl (fun out i => lvStep s i out) []
theorem lvStep_length (s : List S61) (i : Nat) (out : List Int) : (lvStep s i out).length ≤ out.length + 1 := by
  unfold lvStep; split <;> simp
theorem lvs_length (s : List S61) (n : Nat) : (lvs s n).length ≤ n := by
  induction n with
  | zero => simp [lvs]
  | succ n ih =>
    unfold lvs at ih ⊢
    rw [List.range_succ, List.foldl_append]
    simp only [List.foldl_cons, List.foldl_nil]
    have := lvStep_length s n ((List.range n).foldl (fun out i => lvStep s i out) [])
    omega
theorem lvs_mem (s : List S61) (n : Nat) : ∀ x ∈ lvs s n, 0 ≤ x ∧ x < n ∧ (rd_T61 s x).f1 ≠ 7 := by
  induction n with
  | zero => intro x hx; simp [lvs] at hx
  | succ n ih =>
    intro x hx
    unfold lvs at hx ih
    rw [List.range_succ, List.foldl_append] at hx
    simp only [List.foldl_cons, List.foldl_nil] at hx
    generalize (List.range n).foldl (fun out i => lvStep s i out) [] = q at hx ih
    unfold lvStep at hx
    split at hx
    · have := ih x hx; omega
    · rename_i h7
      rcases List.mem_append.1 hx with h | h
      · have := ih x h; exact ⟨this.1, by omega, this.2.2⟩
      · obtain rfl := List.mem_singleton.1 h
        exact ⟨by omega, by omega, h7⟩
theorem spec_l5Leaves_ev (s : List S61) (hs : s.length ≤ 1048576) : Ev (fun k => spec_l5Leaves.f k s) (lvs s s.length) := by
  unfold spec_l5Leaves.f
  refine loop_inv (fun k out i => spec_l5Leaves.l0 k s out i) (fun i out => lvStep s i out) s.length _ (fun i out => out.length ≤ i) [] (by simp) (fun i out hi ho => by have := lvStep_length s i out; omega) (fun i out hi ho hr => ?_) (fun out ho he => ?_)
  · have e : ((i + 1 : Nat) : Int) = (i : Int) + 1 := by push_cast; rfl
    rw [e] at hr
    refine Ev.step (fun k => by rw [spec_l5Leaves.l0]) ?_
    refine Ev.pos (by omega) (Ev.pos (by omega) ?_)
    rw [wrap64_id (x := (i : Int) + 1) (by omega) (by omega)]
    unfold lvStep at hr
    by_cases h7 : (rd_T61 s (i : Int)).f1 = 7
    · rw [if_pos h7] at hr; exact Ev.pos h7 hr
    · rw [if_neg h7] at hr; exact Ev.neg h7 (Ev.pos (by omega) hr)
  · refine Ev.step (fun k => by rw [spec_l5Leaves.l0]) ?_
    refine Ev.neg (by omega) (Ev.const ?_)
    rw [he]; rfl
def leaves (s : List S61) : List Int := if schOk s = true then lvs s s.length else []
theorem spec_SchemaLeaves_ev (s : List S61) (hs : ColsOk s) : Ev (fun k => spec_SchemaLeaves.f k s) (leaves s) := by
  unfold spec_SchemaLeaves.f leaves
  refine Ev.bind (spec_SchemaOk_ev s hs) ?_
  cases schOk s with
  | true => exact Ev.pos rfl (Ev.bind (spec_l5Leaves_ev s hs.1) (Ev.now _))
  | false => exact Ev.neg (by decide) (Ev.now _)
theorem leaves_length (s : List S61) : (leaves s).length ≤ s.length := by
  unfold leaves; split
  · exact lvs_length s _
  · simp
theorem parts_mono (f g : Int → Int) (s : List S61) (hr : ∀ p, 0 ≤ p → f p = -1 ∨ (p < f p ∧ f p ≤ s.length)) (hg : ∀ p, 0 ≤ p → f p ≠ -1 → g p = f p) :
    ∀ (n : Nat) (next : Int) (names : List ByteArray), 0 ≤ next → parts f s n next names ≠ -1 → parts g s n next names = parts f s n next names
  | 0, _, _, _, _ => rfl
  | n + 1, next, names, h0, h => by
    unfold parts at h ⊢
    by_cases h1 : next ≥ (s.length : Int)
    · rw [if_pos h1, if_pos h1]
    rw [if_neg h1] at h
    rw [if_neg h1, if_neg h1]
    by_cases h2 : names.any (fun x => decide (x.toList = (rd_T61 s next).f0.toList)) = true
    · rw [if_pos h2, if_pos h2]
    rw [if_neg h2] at h
    rw [if_neg h2, if_neg h2]
    by_cases h3 : f next < 0
    · rw [if_pos h3] at h; exact absurd rfl h
    rw [if_neg h3] at h
    have e := hg next h0 (by omega)
    rw [e, if_neg h3, if_neg h3]
    have := hr next h0
    exact parts_mono f g s hr hg n (f next) _ (by omega) h
theorem chk_mono (s : List S61) : ∀ (d : Nat) (p : Int), 0 ≤ p → chk s d p ≠ -1 → chk s (d + 1) p = chk s d p
  | 0, p, h0, h => absurd rfl h
  | d + 1, p, h0, h => by
    rw [chk] at h ⊢
    rw [show chk s (d + 1) p = if p ≥ (s.length : Int) then -1 else if colB (decide (p = 0)) (rd_T61 s p) = true then parts (chk s d) s (rd_T61 s p).f3.toNat (p + 1) [] else -1 from rfl]
    by_cases h1 : p ≥ (s.length : Int)
    · rw [if_pos h1, if_pos h1]
    rw [if_neg h1] at h
    rw [if_neg h1, if_neg h1]
    by_cases h2 : colB (decide (p = 0)) (rd_T61 s p) = true
    · rw [if_pos h2] at h
      rw [if_pos h2, if_pos h2]
      exact parts_mono (chk s d) (chk s (d + 1)) s (fun q hq => chk_range s d q hq) (fun q hq hn => chk_mono s d q hq hn) _ _ _ (by omega) h
    · rw [if_neg h2, if_neg h2]
/-- Where the column at p and its parts end. -/
def en (s : List S61) (p : Int) : Int := chk s 6 p
theorem chk_en (s : List S61) (p : Int) (h0 : 0 ≤ p) : ∀ (m d : Nat), d + m = 6 → chk s d p ≠ -1 → en s p = chk s d p := by
  intro m
  induction m with
  | zero => intro d hd h; obtain rfl : d = 6 := by omega
            rfl
  | succ m ih =>
    intro d hd h
    have := chk_mono s d p h0 h
    rw [← this]
    exact ih (d + 1) (by omega) (by rw [this]; exact h)
theorem parts_inside (f : Int → Int) (s : List S61) (hr : ∀ p, 0 ≤ p → f p = -1 ∨ (p < f p ∧ f p ≤ s.length)) (hi : ∀ p, 0 ≤ p → f p ≠ -1 → ∀ q, p ≤ q → q < f p → en s q ≠ -1 ∧ en s q ≤ f p) :
    ∀ (n : Nat) (next : Int) (names : List ByteArray), 0 ≤ next → parts f s n next names ≠ -1 → ∀ q, next ≤ q → q < parts f s n next names → en s q ≠ -1 ∧ en s q ≤ parts f s n next names
  | 0, next, _, _, _, q, h1, h2 => by unfold parts at h2; omega
  | n + 1, next, names, h0, h, q, hq1, hq2 => by
    rw [parts] at h hq2 ⊢
    by_cases h1 : next ≥ (s.length : Int)
    · rw [if_pos h1] at h; exact absurd rfl h
    rw [if_neg h1] at h hq2 ⊢
    by_cases h2 : names.any (fun x => decide (x.toList = (rd_T61 s next).f0.toList)) = true
    · rw [if_pos h2] at h; exact absurd rfl h
    rw [if_neg h2] at h hq2 ⊢
    by_cases h3 : f next < 0
    · rw [if_pos h3] at h; exact absurd rfl h
    rw [if_neg h3] at h hq2 ⊢
    have hn := hr next h0
    have hpr := parts_range f s hr n (f next) (names ++ [(rd_T61 s next).f0]) (by omega) (by omega)
    by_cases h4 : q < f next
    · have := hi next h0 (by omega) q hq1 h4
      exact ⟨this.1, by omega⟩
    · exact parts_inside f s hr hi n (f next) _ (by omega) h q (by omega) hq2
theorem chk_inside (s : List S61) : ∀ (d : Nat), d ≤ 6 → ∀ (p : Int), 0 ≤ p → chk s d p ≠ -1 → ∀ q, p ≤ q → q < chk s d p → en s q ≠ -1 ∧ en s q ≤ chk s d p
  | 0, _, p, h0, h, _, _, _ => absurd rfl h
  | d + 1, hd, p, h0, h, q, hq1, hq2 => by
    by_cases e : q = p
    · have := chk_en s p h0 (6 - (d + 1)) (d + 1) (by omega) h
      rw [e, this]; exact ⟨h, Int.le_refl _⟩
    rw [chk] at h hq2 ⊢
    by_cases h1 : p ≥ (s.length : Int)
    · rw [if_pos h1] at h; exact absurd rfl h
    rw [if_neg h1] at h hq2 ⊢
    by_cases h2 : colB (decide (p = 0)) (rd_T61 s p) = true
    · rw [if_pos h2] at h hq2 ⊢
      exact parts_inside (chk s d) s (fun q hq => chk_range s d q hq) (fun r hr hn => chk_inside s d (by omega) r hr hn) _ _ _ (by omega) h q (by omega) hq2
    · rw [if_neg h2] at h; exact absurd rfl h
theorem spec_l5After_ev (s : List S61) (hs : ColsOk s) : ∀ (d : Nat) (p : Int), 0 ≤ p → chk s d p ≠ -1 → Ev (fun k => spec_l5After.f k s p) (chk s d p)
  | 0, p, h0, h => absurd rfl h
  | d + 1, p, h0, h => by
    rw [chk] at h ⊢
    by_cases h1 : p ≥ (s.length : Int)
    · rw [if_pos h1] at h; exact absurd rfl h
    rw [if_neg h1] at h ⊢
    by_cases h2 : colB (decide (p = 0)) (rd_T61 s p) = true
    · rw [if_pos h2] at h ⊢
      have hl := hs.1
      have hm := hs.2.2 p
      have hm0 : 0 ≤ (rd_T61 s p).f3 := by
        unfold colB at h2
        by_cases h7 : (rd_T61 s p).f1 = 7
        · rw [if_pos h7] at h2; simp at h2; omega
        · rw [if_neg h7] at h2; simp at h2; omega
      refine Ev.step (fun k => by rw [spec_l5After.f]) ?_
      rw [wrap64_id (x := p + 1) (by omega) (by omega)]
      have key : ∀ (n : Nat) (i next : Int) (names : List ByteArray), i + n = (rd_T61 s p).f3 → 0 ≤ i → 0 ≤ next → parts (chk s d) s n next names ≠ -1 → Ev (fun k => spec_l5After.l0 k s p next i) (parts (chk s d) s n next names) := by
        intro n
        induction n with
        | zero =>
          intro i next names hi i0 n0 hp
          refine Ev.step (fun k => by rw [spec_l5After.l0]) ?_
          exact Ev.pos h0 (Ev.pos (by omega) (Ev.neg (by omega) (Ev.now _)))
        | succ n ih =>
          intro i next names hi i0 n0 hp
          refine Ev.step (fun k => by rw [spec_l5After.l0]) ?_
          rw [parts] at hp ⊢
          by_cases g1 : next ≥ (s.length : Int)
          · rw [if_pos g1] at hp; exact absurd rfl hp
          rw [if_neg g1] at hp ⊢
          by_cases g2 : names.any (fun x => decide (x.toList = (rd_T61 s next).f0.toList)) = true
          · rw [if_pos g2] at hp; exact absurd rfl hp
          rw [if_neg g2] at hp ⊢
          by_cases g3 : chk s d next < 0
          · rw [if_pos g3] at hp; exact absurd rfl hp
          rw [if_neg g3] at hp ⊢
          refine Ev.pos h0 (Ev.pos (by omega) (Ev.pos (by omega) (Ev.bind (spec_l5After_ev s hs d next n0 (by omega)) ?_)))
          rw [wrap64_id (x := i + 1) (by omega) (by omega)]
          exact ih (i + 1) (chk s d next) _ (by omega) (by omega) (by omega) hp
      exact key _ 0 (p + 1) [] (by omega) (by omega) (by omega) h
    · rw [if_neg h2] at h; exact absurd rfl h
theorem schOk_parts {s : List S61} (h : schOk s = true) : 2 ≤ (s.length : Int) ∧ (s.length : Int) ≤ 20 ∧ rootB (rd_T61 s 0) = true ∧ chk s 6 0 = (s.length : Int) := by
  unfold schOk at h
  simp only [Bool.and_eq_true, decide_eq_true_eq] at h
  exact ⟨h.1.1.1, h.1.1.2, h.1.2, h.2⟩
theorem en_ok {s : List S61} (h : schOk s = true) (q : Int) (h0 : 0 ≤ q) (h1 : q < s.length) : en s q ≠ -1 ∧ q < en s q ∧ en s q ≤ s.length := by
  obtain ⟨_, _, _, h4⟩ := schOk_parts h
  have := chk_inside s 6 (by omega) 0 (by omega) (by omega) q h0 (by omega)
  have hr := chk_range s 6 q h0
  unfold en at this ⊢
  exact ⟨this.1, by omega, by omega⟩
/-- The places from pos - d + 1 to pos whose parts reach beyond pos. -/
def wayF (s : List S61) (pos : Int) : Nat → List Int
  | 0 => []
  | d + 1 => if en s (pos - d) > pos then (pos - d) :: wayF s pos d else wayF s pos d
theorem wayF_mem (s : List S61) (pos : Int) : ∀ (d : Nat), ∀ x ∈ wayF s pos d, pos - d < x ∧ x ≤ pos
  | 0, x, h => by simp [wayF] at h
  | d + 1, x, h => by
    unfold wayF at h
    split at h
    · rcases List.mem_cons.1 h with rfl | h
      · omega
      · have := wayF_mem s pos d x h; omega
    · have := wayF_mem s pos d x h; omega
theorem wayF_length (s : List S61) (pos : Int) : ∀ (d : Nat), (wayF s pos d).length ≤ d
  | 0 => by simp [wayF]
  | d + 1 => by
    have := wayF_length s pos d
    unfold wayF
    split
    · simp; exact this
    · omega
theorem wayF_skip (s : List S61) (pos : Int) : ∀ (m d : Nat), (∀ q, pos - (d + m : Nat) < q → q ≤ pos - d → en s q ≤ pos) → wayF s pos (d + m) = wayF s pos d
  | 0, d, _ => rfl
  | m + 1, d, h => by
    show (if en s (pos - (d + m : Nat)) > pos then (pos - (d + m : Nat)) :: wayF s pos (d + m) else wayF s pos (d + m)) = _
    rw [if_neg (by have := h (pos - (d + m : Nat)) (by omega) (by omega); omega)]
    exact wayF_skip s pos m d (fun q h1 h2 => h q (by omega) h2)
theorem spec_l5Way_ev (s : List S61) (hs : ColsOk s) (hk : schOk s = true) (pos : Nat) (hp : pos < s.length) : Ev (fun k => spec_l5Way.f k s (pos : Int)) (wayF s pos (pos + 1)) := by
  obtain ⟨_, hl, _, _⟩ := schOk_parts hk
  unfold spec_l5Way.f
  have key : ∀ (d : Nat) (q : Int) (out : List Int), q + d = pos + 1 → 0 ≤ q → (out.length : Int) ≤ q → Ev (fun k => spec_l5Way.l0 k s (pos : Int) out q) (out ++ wayF s pos d) := by
    intro d
    induction d with
    | zero =>
      intro q out hq h0 ho
      refine Ev.step (fun k => by rw [spec_l5Way.l0]) ?_
      exact Ev.neg (by omega) (Ev.const (by simp [wayF]))
    | succ d ih =>
      intro q out hq h0 ho
      obtain ⟨e1, e2, e3⟩ := en_ok hk q h0 (by omega)
      have eq : (pos : Int) - d = q := by omega
      refine Ev.step (fun k => by rw [spec_l5Way.l0]) ?_
      refine Ev.pos (by omega) (Ev.bind (spec_l5After_ev s hs 6 q h0 e1) ?_)
      rw [wrap64_id (x := q + 1) (by omega) (by omega)]
      unfold wayF
      rw [eq]
      by_cases h : en s q > pos
      · rw [if_pos h]
        have := ih (q + 1) (out ++ [q]) (by omega) (by omega) (by simp; omega)
        rw [List.append_assoc, List.singleton_append] at this
        exact Ev.pos h (Ev.pos (by omega) this)
      · rw [if_neg h]
        exact Ev.neg h (ih (q + 1) out (by omega) (by omega) (by omega))
  have := key (pos + 1) 0 [] (by omega) (by omega) (by simp)
  simpa using this
def mstep (s : List S61) (st : Int × Int) (q : Int) : Int × Int := if (rd_T61 s q).f2 = 0 then st else if (rd_T61 s q).f2 = 2 then (wrap64 (st.1 + 1), wrap64 (st.2 + 1)) else (wrap64 (st.1 + 1), st.2)
theorem spec_max_loop (s : List S61) (ws : List Int) (hw : ∀ x ∈ ws, 0 ≤ x ∧ x < s.length) (hl : ws.length ≤ 1048576) : ∀ (d i : Nat) (st : Int × Int), i + d = ws.length → Ev (fun k => spec_l5Max.l0 k s st.1 st.2 ws (i : Int)) ((ws.drop i).foldl (mstep s) st) := by
  intro d
  induction d with
  | zero =>
    intro i st hi
    rw [List.drop_eq_nil_of_le (by omega)]
    exact Ev.step (fun k => by rw [spec_l5Max.l0]) (by exact Ev.neg (by omega) (Ev.now _))
  | succ d ih =>
    intro i st hi
    have hil : i < ws.length := by omega
    rw [List.drop_eq_getElem_cons hil, List.foldl_cons]
    have he : rd ws (i : Int) = ws[i] := rd_eq (by omega)
    have hb := hw ws[i] (List.getElem_mem _)
    have := ih (i + 1) (mstep s st ws[i]) (by omega)
    refine Ev.step (fun k => by rw [spec_l5Max.l0]) ?_
    rw [he, wrap64_id (x := (i : Int) + 1) (by omega) (by omega)]
    refine Ev.pos (by omega) (Ev.pos (by omega) (Ev.pos hb.1 (Ev.pos hb.2 ?_)))
    generalize (ws.drop (i + 1)).foldl (mstep s) (mstep s st ws[i]) = R at this ⊢
    unfold mstep at this
    by_cases h0 : (rd_T61 s ws[i]).f2 = 0
    · rw [if_pos h0] at this
      exact Ev.pos h0 (Ev.neg (by omega) (by simpa using this))
    · rw [if_neg h0] at this
      refine Ev.neg h0 ?_
      by_cases h2 : (rd_T61 s ws[i]).f2 = 2
      · rw [if_pos h2] at this; exact Ev.pos h2 (by simpa using this)
      · rw [if_neg h2] at this; exact Ev.neg h2 (by simpa using this)
def leafMx (s : List S61) (pos : Int) : Int × Int := (wayF s pos pos.toNat).foldl (mstep s) (0, 0)
def leafR (s : List S61) (i : Int) : Int × Int × Int × Bool :=
  if 0 ≤ i ∧ i < (leaves s).length then ((rd_T61 s (rd (leaves s) i)).f1, (leafMx s (rd (leaves s) i)).2, (leafMx s (rd (leaves s) i)).1, true) else (0, 0, 0, false)
/-- What is known of the leaf number i. -/
theorem leaf_pos {s : List S61} {i : Int} (h0 : 0 ≤ i) (h1 : i < (leaves s).length) : ∃ pos : Nat, rd (leaves s) i = (pos : Int) ∧ pos < s.length ∧ 0 < pos ∧ schOk s = true := by
  have hk : schOk s = true := by
    unfold leaves at h1
    split at h1
    · assumption
    · simp at h1; omega
  have hm : rd (leaves s) i ∈ leaves s := by rw [rd_eq (by omega)]; exact List.getElem_mem _
  have hm2 : rd (leaves s) i ∈ lvs s s.length := by
    have e : leaves s = lvs s s.length := by unfold leaves; rw [if_pos hk]
    rw [e] at hm ⊢; exact hm
  obtain ⟨m0, m1, m7⟩ := lvs_mem s s.length _ hm2
  obtain ⟨_, _, hr, _⟩ := schOk_parts hk
  have hne : rd (leaves s) i ≠ 0 := by
    intro e
    rw [e] at m7
    unfold rootB at hr
    simp only [Bool.and_eq_true, decide_eq_true_eq] at hr
    exact m7 hr.1.1
  exact ⟨(rd (leaves s) i).toNat, by omega, by omega, by omega, hk⟩
theorem wayF_pos (s : List S61) (hk : schOk s = true) (pos : Nat) (hp : pos < s.length) (h0 : 0 < pos) : wayF s pos (pos + 1) = 0 :: wayF s pos pos ∧ wayF s pos pos ≠ [] := by
  obtain ⟨_, _, _, h4⟩ := schOk_parts hk
  refine ⟨?_, ?_⟩
  · rw [wayF, if_pos (by rw [show (pos : Int) - pos = 0 by omega]; unfold en; omega)]
    rw [show (pos : Int) - pos = 0 by omega]
  · have key : ∀ d : Nat, d ≤ pos → 1 ≤ d → wayF s pos d ≠ [] := by
      intro d
      induction d with
      | zero => intro _ h; omega
      | succ d ih =>
        intro hd _
        rw [wayF]
        by_cases hd0 : d = 0
        · subst hd0
          have := en_ok hk (pos : Int) (by omega) (by omega)
          rw [if_pos (by rw [show (pos : Int) - (0 : Nat) = pos by omega]; omega)]; simp
        · split
          · simp
          · exact ih (by omega) (by omega)
    exact key pos (Nat.le_refl _) h0
theorem spec_l5Max_ev (s : List S61) (hs : ColsOk s) (hk : schOk s = true) (pos : Nat) (hp : pos < s.length) (h0 : 0 < pos) : Ev (fun k => spec_l5Max.f k s (pos : Int)) (leafMx s pos) := by
  obtain ⟨hl2, hl, hr, _⟩ := schOk_parts hk
  unfold spec_l5Max.f
  refine Ev.bind (spec_l5Way_ev s hs hk pos hp) ?_
  obtain ⟨w1, _⟩ := wayF_pos s hk pos hp h0
  rw [w1]
  have hlen := wayF_length s pos pos
  have := spec_max_loop s (0 :: wayF s pos pos) (fun x hx => by
    rcases List.mem_cons.1 hx with rfl | h
    · omega
    · have := wayF_mem s pos pos x h; omega) (by simp; omega) (0 :: wayF s pos pos).length 0 (0, 0) (by omega)
  refine Ev.cast this ?_
  rw [List.drop_zero, List.foldl_cons]
  have e : mstep s (0, 0) 0 = (0, 0) := by
    unfold rootB at hr
    simp only [Bool.and_eq_true, decide_eq_true_eq] at hr
    unfold mstep; rw [if_pos hr.1.2]
  rw [e]; rfl
theorem spec_LeafOf_ev (s : List S61) (hs : ColsOk s) (i : Int) (hi0 : -9223372036854775808 ≤ i) (hi1 : i ≤ 9223372036854775807) : Ev (fun k => spec_LeafOf.f k s i) (leafR s i) := by
  unfold spec_LeafOf.f leafR
  have hll := leaves_length s
  have hl := hs.1
  refine Ev.bind (spec_SchemaLeaves_ev s hs) (Ev.here (l1In_some _ _ _) ?_)
  rw [wrap64_id (by omega) (by omega)]
  by_cases h : 0 ≤ i ∧ i < (leaves s).length
  · rw [if_pos h]
    obtain ⟨pos, hp, hps, hp0, hk⟩ := leaf_pos h.1 h.2
    rw [hp]
    exact Ev.pos (by simp; omega) (Ev.pos h.1 (Ev.pos h.2 (Ev.bind (spec_l5Max_ev s hs hk pos hps hp0) (Ev.pos (by omega) (Ev.pos (by omega) (Ev.now _))))))
  · rw [if_neg h]
    exact Ev.neg (by simp; omega) (Ev.now _)
def zv : S33 := ⟨0, ⟨#[]⟩⟩
def grp (s : List S61) (p : Int) : Bool := decide ((rd_T61 s p).f2 = 0) && decide ((rd_T61 s p).f1 = 7)
def eParts (f : Int → List S33) (s : List S61) : Nat → Int → List S33
  | 0, _ => []
  | n + 1, next => f next ++ eParts f s n (en s next)
def emp (s : List S61) : Nat → Int → List S33
  | 0, _ => []
  | d + 1, p => if grp s p = true then eParts (emp s d) s (rd_T61 s p).f3.toNat (p + 1) else [zv]
theorem chk_parts (s : List S61) (d : Nat) (p : Int) (h : chk s (d + 1) p ≠ -1) : p < s.length ∧ 0 ≤ (rd_T61 s p).f3 ∧ chk s (d + 1) p = parts (chk s d) s (rd_T61 s p).f3.toNat (p + 1) [] := by
  rw [chk] at h ⊢
  by_cases h1 : p ≥ (s.length : Int)
  · rw [if_pos h1] at h; exact absurd rfl h
  rw [if_neg h1] at h ⊢
  by_cases h2 : colB (decide (p = 0)) (rd_T61 s p) = true
  · rw [if_pos h2]
    refine ⟨by omega, ?_, rfl⟩
    unfold colB at h2
    by_cases h7 : (rd_T61 s p).f1 = 7
    · rw [if_pos h7] at h2; simp at h2; omega
    · rw [if_neg h7] at h2; simp at h2; omega
  · rw [if_neg h2] at h; exact absurd rfl h
theorem parts_step (f : Int → Int) (s : List S61) (n : Nat) (next : Int) (names : List ByteArray) (h : parts f s (n + 1) next names ≠ -1) : next < s.length ∧ ¬ f next < 0 ∧ ∃ names', parts f s (n + 1) next names = parts f s n (f next) names' := by
  rw [parts] at h ⊢
  by_cases g1 : next ≥ (s.length : Int)
  · rw [if_pos g1] at h; exact absurd rfl h
  rw [if_neg g1] at h ⊢
  by_cases g2 : names.any (fun x => decide (x.toList = (rd_T61 s next).f0.toList)) = true
  · rw [if_pos g2] at h; exact absurd rfl h
  rw [if_neg g2] at h ⊢
  by_cases g3 : f next < 0
  · rw [if_pos g3] at h; exact absurd rfl h
  rw [if_neg g3]
  exact ⟨by omega, g3, _, rfl⟩
theorem emp_length (s : List S61) : ∀ (d : Nat), d ≤ 6 → ∀ (p : Int), 0 ≤ p → chk s d p ≠ -1 → ((emp s d p).length : Int) ≤ chk s d p - p := by
  intro d
  induction d with
  | zero => intro _ p _ h; exact absurd rfl h
  | succ d ih =>
    intro hd p h0 h
    have hr := chk_range s (d + 1) p h0
    obtain ⟨h1, h2, h3⟩ := chk_parts s d p h
    unfold emp
    split
    · rw [h3] at h ⊢
      have key : ∀ (n : Nat) (next : Int) (names : List ByteArray), 0 ≤ next → parts (chk s d) s n next names ≠ -1 → ((eParts (emp s d) s n next).length : Int) ≤ parts (chk s d) s n next names - next := by
        intro n
        induction n with
        | zero => intro next names _ _; simp [eParts, parts]
        | succ n ihn =>
          intro next names hn hp
          obtain ⟨g1, g2, names', g3⟩ := parts_step _ _ _ _ _ hp
          rw [g3] at hp ⊢
          have hcr := chk_range s d next hn
          have hen := chk_en s next hn (6 - d) d (by omega) (by omega)
          unfold eParts
          rw [List.length_append, hen]
          have := ih (by omega) next hn (by omega)
          have := ihn (chk s d next) names' (by omega) hp
          push_cast; omega
      have := key _ (p + 1) [] (by omega) h
      omega
    · simp; omega
theorem spec_l13Empty_ev (s : List S61) (hs : ColsOk s) : ∀ (d : Nat), d ≤ 6 → ∀ (p : Int), 0 ≤ p → (p = 0 → (rd_T61 s p).f2 = 0) → chk s d p ≠ -1 → Ev (fun k => spec_l13Empty.f k s p) (emp s d p) := by
  obtain ⟨hl, _, hm⟩ := hs
  intro d
  induction d with
  | zero => intro _ p _ _ h; exact absurd rfl h
  | succ d ih =>
    intro hd p h0 hroot h
    obtain ⟨h1, h2, h3⟩ := chk_parts s d p h
    have h3f := hm p
    have body : Ev (fun k => spec_l13Empty.j0 k s p (!(grp s p))) (emp s (d + 1) p) := by
      unfold emp
      cases hg : grp s p with
      | false =>
        rw [if_neg (by decide)]
        exact Ev.step (fun k => by rw [spec_l13Empty.j0]) (by exact Ev.pos rfl (Ev.now _))
      | true =>
        rw [if_pos rfl]
        refine Ev.step (fun k => by rw [spec_l13Empty.j0]) ?_
        refine Ev.neg (by decide) ?_
        rw [wrap64_id (x := p + 1) (by omega) (by omega)]
        rw [h3] at h
        have key : ∀ (n : Nat) (i next : Int) (names : List ByteArray) (out : List S33), i + n = (rd_T61 s p).f3 → 0 ≤ i → 0 < next → next ≤ s.length → (out.length : Int) ≤ next → parts (chk s d) s n next names ≠ -1 →
            Ev (fun k => spec_l13Empty.l0 k s p out next i) (out ++ eParts (emp s d) s n next) := by
          intro n
          induction n with
          | zero =>
            intro i next names out hi i0 n0 n1 ho hp
            refine Ev.step (fun k => by rw [spec_l13Empty.l0]) ?_
            exact Ev.pos h0 (Ev.pos h1 (Ev.neg (by omega) (Ev.const (by simp [eParts]))))
          | succ n ihn =>
            intro i next names out hi i0 n0 n1 ho hp
            obtain ⟨g1, g2, names', g3⟩ := parts_step _ _ _ _ _ hp
            rw [g3] at hp
            have hcr := chk_range s d next (by omega)
            have hen := chk_en s next (by omega) (6 - d) d (by omega) (by omega)
            have hlen := emp_length s d (by omega) next (by omega) (by omega)
            refine Ev.step (fun k => by rw [spec_l13Empty.l0]) ?_
            refine Ev.pos h0 (Ev.pos h1 (Ev.pos (by omega) (Ev.bind (ih (by omega) next (by omega) (by omega) (by omega)) (Ev.pos (by omega) (Ev.bind (spec_l5After_ev s ⟨hl, ‹_›, hm⟩ d next (by omega) (by omega)) ?_)))))
            rw [wrap64_id (x := i + 1) (by omega) (by omega)]
            unfold eParts
            rw [hen, ← List.append_assoc]
            exact ihn (i + 1) (chk s d next) names' (out ++ emp s d next) (by omega) (by omega) (by omega) (by omega) (by simp; omega) hp
        exact key _ 0 (p + 1) [] [] (by omega) (by omega) (by omega) (by omega) (by simp; omega) h
    have hgn : ∀ b, b = (!(grp s p)) → Ev (fun k => spec_l13Empty.j0 k s p b) (emp s (d + 1) p) := fun b e => by rw [e]; exact body
    refine Ev.step (fun k => by rw [spec_l13Empty.f]) ?_
    by_cases hp0 : p > 0
    · refine Ev.pos hp0 (Ev.pos h0 (Ev.pos h1 ?_))
      by_cases hf2 : (rd_T61 s p).f2 = 0
      · exact Ev.pos hf2 (hgn _ (by unfold grp; rw [decide_eq_true hf2]; by_cases h7 : (rd_T61 s p).f1 = 7 <;> simp [h7]))
      · exact Ev.neg hf2 (hgn _ (by unfold grp; rw [decide_eq_false hf2]; simp))
    · refine Ev.neg hp0 (Ev.pos h0 (Ev.pos h1 ?_))
      have hf2 := hroot (by omega)
      exact hgn _ (by unfold grp; rw [decide_eq_true hf2]; by_cases h7 : (rd_T61 s p).f1 = 7 <;> simp [h7])
def recE (s : List S61) : List S33 × Bool := if schOk s = true then (emp s 6 0, true) else ([], false)
/-- What a value that tells how many tells. -/
def vcount (v : S33) (most : Int) : Int := if v.f1.toList = [] ∧ 0 ≤ v.f0 ∧ v.f0 ≤ most then v.f0 else -1
theorem l13Count_some (v : S33) (most : Int) : spec_l13Count.f v.f0 v.f1 most = some (vcount v most) := by
  unfold spec_l13Count.f vcount
  by_cases h1 : v.f1.toList = []
  · rw [if_pos h1, l1In_some, Option.bind_some]
    by_cases h2 : 0 ≤ v.f0 ∧ v.f0 ≤ most
    · rw [if_pos (decide_eq_true h2), if_pos ⟨h1, h2⟩]
    · rw [if_neg (by rw [decide_eq_false h2]; decide), if_neg (fun h => h2 h.2)]
  · rw [if_neg h1, if_neg (fun h => h1 h.1)]
/-- What the draws of a schema put into a column. -/
def ColD (c : S61) : Prop := c.f0.size ≤ 2 ∧ 0 ≤ c.f3 ∧ c.f3 ≤ 4
def ColsD (l : List S61) : Prop := ∀ x ∈ l, ColD x
theorem ColsD.rd {l : List S61} (h : ColsD l) (i : Int) : ColD (rd_T61 l i) := by
  unfold rd_T61
  rcases Nat.lt_or_ge i.toNat l.length with hi | hi
  · rw [List.getD_eq_getElem?_getD, List.getElem?_eq_getElem hi]
    exact h _ (List.getElem_mem hi)
  · rw [List.getD_eq_getElem?_getD, List.getElem?_eq_none hi]
    exact ⟨by decide, by decide, by decide⟩
theorem ColsD.ok {l : List S61} (h : ColsD l) (hl : l.length ≤ 1048576) : ColsOk l := ⟨hl, fun i => by have := (h.rd i).1; omega, fun i => by have := (h.rd i).2.2; omega⟩
theorem ColsD.snoc {l : List S61} {x : S61} (h : ColsD l) (hx : ColD x) : ColsD (l ++ [x]) := fun y hy => by
  rcases List.mem_append.mp hy with hy | hy
  · exact h y hy
  · rw [List.mem_singleton.mp hy]; exact hx
theorem ColsD.set {l : List S61} {x : S61} (h : ColsD l) (i : Nat) (hx : ColD x) : ColsD (l.set i x) := fun y hy => by
  rcases List.mem_or_eq_of_mem_set hy with hy | hy
  · exact h y hy
  · rw [hy]; exact hx
def colW : Nat → Nat
  | 0 => 1
  | d + 1 => 1 + 3 * colW d
theorem strOfNums_two (x y : Int) : (strOfNums [x, y]).size = 2 := by
  unfold strOfNums
  rfl
theorem str_empty (b : ByteArray) (h : b.toList = []) : b.size = 0 := by
  rw [ByteArray.toList_eq] at h
  have := congrArg List.length h
  rw [Array.length_toList] at this
  exact this
def DrawsCol (s : List Int) (d : Nat) : Prop := ∀ (i h : Int) (a1 : ByteArray) (a2 : Int) (l : List S61), Cur s i → a1.size ≤ 2 → a2 ≤ (d : Int) → 0 ≤ a2 → (a1.toList = [] → 0 < a2) → ColsD l → l.length + colW d ≤ 100000 → ∃ (r : List S61) (i' h' : Int), Ev (fun k => spec_l5DrawCol.f k s i h a1 a2 l) (r, i', h') ∧ Cur s i' ∧ ColsD r ∧ r.length ≤ l.length + colW d
theorem drawcol_loop (s : List Int) (d : Nat) (ih : DrawsCol s d) (a2 : Int) (ha : a2 - 1 ≤ (d : Int)) (ha0 : 1 ≤ a2) (ha1 : a2 ≤ 1000) (n : Int) (hn : n ≤ 3) : ∀ (m : Nat) (j : Int) (i h : Int) (l : List S61), j + m = n → 0 ≤ j → Cur s i → ColsD l → l.length + m * colW d ≤ 100000 →
    ∃ (r : List S61) (i' h' : Int), Ev (fun k => spec_l5DrawCol.l0 k a2 l n j s i h) (r, i', h') ∧ Cur s i' ∧ ColsD r ∧ r.length ≤ l.length + m * colW d := by
  intro m
  induction m with
  | zero =>
    intro j i h l hj h0 hc hl hs
    exact ⟨l, i, h, Ev.step (fun k => by rw [spec_l5DrawCol.l0]) (by exact Ev.neg (by omega) (Ev.now _)), hc, hl, by omega⟩
  | succ m im =>
    intro j i h l hj h0 hc hl hs
    obtain ⟨v, i1, h1, e1, v0, v1, -, c1⟩ := l1Below_some s i h 4 hc
    rw [Nat.succ_mul] at hs
    obtain ⟨r, i2, h2, e2, c2, d2, s2⟩ := ih i1 h1 (strOfNums ([(wrap64 (97 + j)) % 256, (wrap64 (97 + v)) % 256] : List Int)) (wrap64 (a2 - 1)) l c1 (by rw [strOfNums_two]; omega) (by rw [wrap64_id (by omega) (by omega)]; exact ha) (by rw [wrap64_id (by omega) (by omega)]; omega) (fun he => by have := str_empty _ he; rw [strOfNums_two] at this; omega) hl (by omega)
    obtain ⟨r', i3, h3, e3, c3, d3, s3⟩ := im (j + 1) i2 h2 r (by omega) (by omega) c2 d2 (by omega)
    refine ⟨r', i3, h3, Ev.step (fun k => by rw [spec_l5DrawCol.l0]) ?_, c3, d3, by rw [Nat.succ_mul]; omega⟩
    refine Ev.pos (by omega) (Ev.here e1 (Ev.bind e2 ?_))
    rw [wrap64_id (x := j + 1) (by omega) (by omega)]
    exact e3
theorem rd_last (l : List S61) (x : S61) : rd_T61 (l ++ [x]) (l.length : Int) = x := by
  unfold rd_T61
  rw [Int.toNat_natCast, List.getD_eq_getElem?_getD, List.getElem?_append_right (Nat.le_refl _), Nat.sub_self]
  rfl
theorem set_last (l : List S61) (x y : S61) : (l ++ [x]).set (l.length : Int).toNat y = l ++ [y] := by
  rw [Int.toNat_natCast, List.set_append_right _ _ (Nat.le_refl _), Nat.sub_self]
  rfl
theorem drawcol_leaf (s : List Int) (i h : Int) (a1 : ByteArray) (a2 : Int) (l : List S61) (t rep : Int) (ht : t ≠ 7) (hl : l.length ≤ 100000) : Ev (fun k => spec_l5DrawCol.j1 k a1 a2 l s i h a1 t rep 0) (l ++ [⟨a1, t, rep, 0⟩], i, h) :=
  Ev.step (fun k => by rw [spec_l5DrawCol.j1]) (by exact Ev.pos (by omega) (Ev.here rfl (Ev.neg ht (Ev.now _))))
theorem drawcol_group (s : List Int) (d : Nat) (ih : DrawsCol s d) (i h : Int) (a1 : ByteArray) (a2 : Int) (l : List S61) (rep : Int) (hc : Cur s i) (ha1 : a1.size ≤ 2) (ha : a2 ≤ (d : Int) + 1) (hb0 : 1 ≤ a2) (hb1 : a2 ≤ 1000) (hl : ColsD l) (hs : l.length + colW (d + 1) ≤ 100000) :
    ∃ (r : List S61) (i' h' : Int), Ev (fun k => spec_l5DrawCol.j1 k a1 a2 l s i h a1 7 rep 0) (r, i', h') ∧ Cur s i' ∧ ColsD r ∧ r.length ≤ l.length + colW (d + 1) := by
  obtain ⟨v, i1, h1, e1, v0, v1, -, c1⟩ := l1Below_some s i h 3 hc
  have v1 := v1 (by omega)
  have hw : wrap64 (1 + v) = 1 + v := wrap64_id (by omega) (by omega)
  have hW : colW (d + 1) = 1 + 3 * colW d := rfl
  have key : ∀ rep' : Int, ∃ (r : List S61) (i' h' : Int), Ev (fun k => spec_l5DrawCol.l0 k a2 (l ++ [⟨a1, 7, rep', 1 + v⟩]) (1 + v) 0 s i1 h1) (r, i', h') ∧ Cur s i' ∧ ColsD r ∧ r.length ≤ l.length + colW (d + 1) := by
    intro rep'
    have hm : (1 + v).toNat * colW d ≤ 3 * colW d := Nat.mul_le_mul_right _ (by omega)
    obtain ⟨r, i2, h2, e2, c2, d2, s2⟩ := drawcol_loop s d ih a2 (by omega) hb0 hb1 (1 + v) (by omega) (1 + v).toNat 0 i1 h1 (l ++ [⟨a1, 7, rep', 1 + v⟩]) (by omega) (by omega) c1 (hl.snoc ⟨ha1, by show (0 : Int) ≤ 1 + v; omega, by show 1 + v ≤ 4; omega⟩) (by rw [List.length_append]; simp only [List.length_singleton]; omega)
    rw [List.length_append] at s2
    simp only [List.length_singleton] at s2
    exact ⟨r, i2, h2, e2, c2, d2, by omega⟩
  by_cases he : a1.toList = ([] : List UInt8)
  · obtain ⟨r, i2, h2, e2, c2, d2, s2⟩ := key 0
    refine ⟨r, i2, h2, Ev.step (fun k => by rw [spec_l5DrawCol.j1]) ?_, c2, d2, s2⟩
    refine Ev.pos (by omega) (Ev.here rfl (Ev.pos rfl (Ev.here e1 (Ev.pos (by omega) (Ev.pos (by rw [List.length_append]; simp only [List.length_singleton]; omega) (Ev.here rfl (Ev.pos he ?_)))))))
    refine Ev.step (fun k => by rw [spec_l5DrawCol.j2]) ?_
    simp only [rd_last, set_last, hw]
    exact e2
  · obtain ⟨r, i2, h2, e2, c2, d2, s2⟩ := key rep
    refine ⟨r, i2, h2, Ev.step (fun k => by rw [spec_l5DrawCol.j1]) ?_, c2, d2, s2⟩
    refine Ev.pos (by omega) (Ev.here rfl (Ev.pos rfl (Ev.here e1 (Ev.pos (by omega) (Ev.pos (by rw [List.length_append]; simp only [List.length_singleton]; omega) (Ev.here rfl (Ev.neg he ?_)))))))
    refine Ev.step (fun k => by rw [spec_l5DrawCol.j2]) ?_
    simp only [rd_last, set_last, hw]
    exact e2
theorem pick_ne7 {v : Int} (h : v ∈ ([0, 1, 2, 5, 6] : List Int)) : v ≠ 7 := by
  intro he
  subst he
  simp at h
theorem drawcol_all (s : List Int) : ∀ d : Nat, d ≤ 4 → DrawsCol s d := by
  intro d
  induction d with
  | zero =>
    intro hd i h a1 a2 l hc ha1 ha2 hb0 hne hl hs
    have hne' : a1.toList ≠ [] := fun he => absurd (hne he) (by omega)
    obtain ⟨t, i1, h1, e1, t1, c1⟩ := l1PickInt_some s i h [0, 1, 2, 5, 6] hc (by decide)
    obtain ⟨rep, i2, h2, e2, r0, r1, -, c2⟩ := l1Below_some s i1 h1 3 c1
    refine ⟨l ++ [⟨a1, t, rep, 0⟩], i2, h2, Ev.step (fun k => by rw [spec_l5DrawCol.f]) ?_, c2, hl.snoc ⟨ha1, Int.le_refl _, (by omega : (0 : Int) ≤ 4)⟩, by rw [List.length_append]; exact Nat.le_refl _⟩
    refine Ev.here e1 (Ev.here e2 (Ev.neg hne' (Ev.neg (by omega) ?_)))
    refine Ev.step (fun k => by rw [spec_l5DrawCol.j0]) (Ev.neg (by decide) ?_)
    exact drawcol_leaf s i2 h2 a1 a2 l t rep (pick_ne7 t1) (by omega)
  | succ d ih =>
    intro hd i h a1 a2 l hc ha1 ha2 hb0 hne hl hs
    have ih := ih (by omega)
    obtain ⟨t, i1, h1, e1, t1, c1⟩ := l1PickInt_some s i h [0, 1, 2, 5, 6] hc (by decide)
    obtain ⟨rep, i2, h2, e2, r0, r1, -, c2⟩ := l1Below_some s i1 h1 3 c1
    have leaf : ∀ i3 h3, Cur s i3 → ∃ (r : List S61) (i' h' : Int), Ev (fun k => spec_l5DrawCol.j0 k a1 a2 l false s i3 h3 a1 t rep 0) (r, i', h') ∧ Cur s i' ∧ ColsD r ∧ r.length ≤ l.length + colW (d + 1) := fun i3 h3 c3 =>
      ⟨l ++ [⟨a1, t, rep, 0⟩], i3, h3, Ev.step (fun k => by rw [spec_l5DrawCol.j0]) (Ev.neg (by decide) (drawcol_leaf s i3 h3 a1 a2 l t rep (pick_ne7 t1) (by omega))), c3, hl.snoc ⟨ha1, Int.le_refl _, (by omega : (0 : Int) ≤ 4)⟩, by rw [List.length_append]; show l.length + 1 ≤ l.length + (1 + 3 * colW d); omega⟩
    have grp : ∀ i3 h3, Cur s i3 → 1 ≤ a2 → ∃ (r : List S61) (i' h' : Int), Ev (fun k => spec_l5DrawCol.j0 k a1 a2 l true s i3 h3 a1 t rep 0) (r, i', h') ∧ Cur s i' ∧ ColsD r ∧ r.length ≤ l.length + colW (d + 1) := fun i3 h3 c3 h1a => by
      obtain ⟨r, i4, h4, e4, c4, d4, s4⟩ := drawcol_group s d ih i3 h3 a1 a2 l rep c3 ha1 (by omega) h1a (by omega) hl hs
      exact ⟨r, i4, h4, Ev.step (fun k => by rw [spec_l5DrawCol.j0]) (Ev.pos rfl e4), c4, d4, s4⟩
    by_cases he : a1.toList = ([] : List UInt8)
    · obtain ⟨r, i4, h4, e4, c4, d4, s4⟩ := grp i2 h2 c2 (by have := hne he; omega)
      exact ⟨r, i4, h4, Ev.step (fun k => by rw [spec_l5DrawCol.f]) (by exact Ev.here e1 (Ev.here e2 (Ev.pos he e4))), c4, d4, s4⟩
    · by_cases h0 : a2 > 0
      · obtain ⟨o, i3, h3, e3, c3⟩ := l1Once_some s i2 h2 3 c2
        cases o with
        | true =>
          obtain ⟨r, i4, h4, e4, c4, d4, s4⟩ := grp i3 h3 c3 (by omega)
          exact ⟨r, i4, h4, Ev.step (fun k => by rw [spec_l5DrawCol.f]) (by exact Ev.here e1 (Ev.here e2 (Ev.neg he (Ev.pos h0 (Ev.here e3 e4))))), c4, d4, s4⟩
        | false =>
          obtain ⟨r, i4, h4, e4, c4, d4, s4⟩ := leaf i3 h3 c3
          exact ⟨r, i4, h4, Ev.step (fun k => by rw [spec_l5DrawCol.f]) (by exact Ev.here e1 (Ev.here e2 (Ev.neg he (Ev.pos h0 (Ev.here e3 e4))))), c4, d4, s4⟩
      · obtain ⟨r, i4, h4, e4, c4, d4, s4⟩ := leaf i2 h2 c2
        exact ⟨r, i4, h4, Ev.step (fun k => by rw [spec_l5DrawCol.f]) (by exact Ev.here e1 (Ev.here e2 (Ev.neg he (Ev.neg h0 e4)))), c4, d4, s4⟩
/-- The smallest schema. -/
def schMin : List S61 := [⟨⟨#[]⟩, 7, 0, 1⟩, ⟨⟨#[97]⟩, 2, 1, 0⟩]
theorem schMin_name : nameOk (⟨#[97]⟩ : ByteArray) = true := by decide
theorem schMin_ok : schOk schMin = true := by
  have e0 : (⟨#[]⟩ : ByteArray).toList = [] := by rw [ByteArray.toList_eq]
  have h0 : rd_T61 schMin 0 = ⟨⟨#[]⟩, 7, 0, 1⟩ := rfl
  have h1 : rd_T61 schMin 1 = ⟨⟨#[97]⟩, 2, 1, 0⟩ := rfl
  have hl : (schMin.length : Int) = 2 := rfl
  have c1 : chk schMin 5 1 = 2 := by
    unfold chk
    rw [hl, if_neg (by decide), h1, if_pos (by simp only [colB, schMin_name]; decide)]
    rfl
  have c0 : chk schMin 6 0 = 2 := by
    unfold chk
    rw [hl, if_neg (by decide), h0, if_pos (by simp only [colB]; decide)]
    show parts (chk schMin 5) schMin 1 1 [] = 2
    unfold parts
    rw [hl, if_neg (by decide), if_neg (by simp), c1, if_neg (by decide)]
    rfl
  simp only [schOk, rootB, h0, hl, c0, e0]
  decide
theorem schMin_d : ColsD schMin := by
  intro x hx
  simp only [schMin, List.mem_cons, List.not_mem_nil, or_false] at hx
  rcases hx with rfl | rfl
  · exact ⟨by decide, by decide, by decide⟩
  · exact ⟨by decide, by decide, by decide⟩
theorem drawRight_loop (s : List Int) : ∀ (m : Nat) (j i h : Int), j + m = 9 → 0 ≤ j → Cur s i → ∃ (r : List S61) (i' h' : Int), Ev (fun k => spec_l5DrawRight.l0 k j s i h) (r, i', h') ∧ Cur s i' ∧ ColsD r ∧ schOk r = true := by
  intro m
  induction m with
  | zero =>
    intro j i h hj h0 hc
    exact ⟨schMin, i, h, Ev.step (fun k => by rw [spec_l5DrawRight.l0]) (by exact Ev.neg (by omega) (Ev.now _)), hc, schMin_d, schMin_ok⟩
  | succ m im =>
    intro j i h hj h0 hc
    obtain ⟨v, i1, h1, e1, v0, v1, -, c1⟩ := l1Below_some s i h 3 hc
    have v1 := v1 (by omega)
    have hw : wrap64 (1 + v) = 1 + v := wrap64_id (by omega) (by omega)
    obtain ⟨r, i2, h2, e2, c2, d2, s2⟩ := drawcol_all s 3 (by omega) i1 h1 (⟨#[]⟩ : ByteArray) (wrap64 (1 + v)) [] c1 (by decide) (by rw [hw]; omega) (by rw [hw]; omega) (fun _ => by rw [hw]; omega) (fun x hx => absurd hx (by simp)) (by decide)
    have hk : ColsOk r := d2.ok (by have : colW 3 = 40 := rfl; simp only [List.length_nil] at s2; omega)
    have e3 := spec_SchemaOk_ev r hk
    cases hb : schOk r with
    | true =>
      rw [hb] at e3
      exact ⟨r, i2, h2, Ev.step (fun k => by rw [spec_l5DrawRight.l0]) (by exact Ev.pos (by omega) (Ev.here e1 (Ev.bind e2 (Ev.bind e3 (Ev.pos rfl (Ev.now _)))))), c2, d2, hb⟩
    | false =>
      rw [hb] at e3
      obtain ⟨r', i3, h3, e4, c3, d3, s3⟩ := im (j + 1) i2 h2 (by omega) (by omega) c2
      refine ⟨r', i3, h3, Ev.step (fun k => by rw [spec_l5DrawRight.l0]) ?_, c3, d3, s3⟩
      refine Ev.pos (by omega) (Ev.here e1 (Ev.bind e2 (Ev.bind e3 (Ev.neg (by decide) ?_))))
      rw [wrap64_id (x := j + 1) (by omega) (by omega)]
      exact e4
theorem l5DrawRight_ev (s : List Int) (i h : Int) (hc : Cur s i) : ∃ (r : List S61) (i' h' : Int), Ev (fun k => spec_l5DrawRight.f k s i h) (r, i', h') ∧ Cur s i' ∧ ColsD r ∧ schOk r = true := drawRight_loop s 9 0 i h rfl (Int.le_refl _) hc
/-- How many values a column's part draws at most, by its depth. -/
def cW : Nat → Nat
  | 0 => 1
  | d + 1 => 20 * cW d + 1
theorem cW_pos : ∀ d, 1 ≤ cW d
  | 0 => Nat.le_refl _
  | d + 1 => by show 1 ≤ 20 * cW d + 1; omega
def PartDraws (sc : List S61) (s : List Int) (d : Nat) : Prop := ∀ (p : Int), 0 ≤ p → chk sc d p ≠ -1 → ∀ (i h : Int) (l : List S33), Cur s i → l.length + (chk sc d p - p).toNat * cW d ≤ 1000000000000 →
  ∃ (R : List S33 × Int × Int), Ev (fun k => spec_l13DrawPart.f k s i h sc p l) R ∧ Cur s R.2.1 ∧ R.1.length ≤ l.length + (chk sc d p - p).toNat * cW d
theorem parts_range' (sc : List S61) (d : Nat) (n : Nat) (next : Int) (names : List ByteArray) (h0 : 0 ≤ next) (h1 : next ≤ sc.length) (h : parts (chk sc d) sc n next names ≠ -1) : next ≤ parts (chk sc d) sc n next names := by
  rcases parts_range (chk sc d) sc (fun q hq => chk_range sc d q hq) n next names h0 h1 with h2 | h2
  · exact absurd h2 h
  · exact h2.1
theorem drawparts (sc : List S61) (hs : ColsOk sc) (s : List Int) (d : Nat) (ih : PartDraws sc s d) (p : Int) (hp0 : 0 ≤ p) (hp1 : p < sc.length) (n j : Int) (B : Nat) : ∀ (m : Nat) (x next : Int) (names : List ByteArray) (i h : Int) (l : List S33),
    x + m = (rd_T61 sc p).f3 → 0 ≤ x → 0 ≤ next → next ≤ sc.length → parts (chk sc d) sc m next names ≠ -1 → Cur s i → l.length + (parts (chk sc d) sc m next names - next).toNat * cW d ≤ 1000000000000 →
    (∀ (r : List S33) (i' h' : Int), Cur s i' → r.length ≤ l.length + (parts (chk sc d) sc m next names - next).toNat * cW d → ∃ R, Ev (fun k => spec_l13DrawPart.l0 k sc p r n (wrap64 (j + 1)) s i' h') R ∧ Cur s R.2.1 ∧ R.1.length ≤ B) →
    ∃ R, Ev (fun k => spec_l13DrawPart.l1 k sc p l n j next x s i h) R ∧ Cur s R.2.1 ∧ R.1.length ≤ B := by
  intro m
  induction m with
  | zero =>
    intro x next names i h l hx h0 hn0 hn1 hp hc hl K
    obtain ⟨R, e, hR⟩ := K l i h hc (by omega)
    refine ⟨R, Ev.step (fun k => by rw [spec_l13DrawPart.l1]) ?_, hR⟩
    exact Ev.pos hp0 (Ev.pos hp1 (Ev.neg (by omega) e))
  | succ m im =>
    intro x next names i h l hx h0 hn0 hn1 hp hc hl K
    obtain ⟨q1, q2, names', q3⟩ := parts_step (chk sc d) sc m next names hp
    have hq : chk sc d next ≠ -1 := by omega
    have hr := (chk_range sc d next hn0).resolve_left hq
    rw [q3] at hp hl K
    have hr2 := parts_range' sc d m (chk sc d next) names' (by omega) hr.2 hp
    have hsum : (parts (chk sc d) sc m (chk sc d next) names' - next).toNat * cW d = (chk sc d next - next).toNat * cW d + (parts (chk sc d) sc m (chk sc d next) names' - chk sc d next).toNat * cW d := by
      rw [← Nat.add_mul]
      congr 1
      omega
    rw [hsum] at hl K
    obtain ⟨⟨r1, i1, h1⟩, e1, c1, s1⟩ := ih next hn0 hq i h l hc (by omega)
    have e2 := spec_l5After_ev sc hs d next hn0 hq
    obtain ⟨R, e3, hR⟩ := im (x + 1) (chk sc d next) names' i1 h1 r1 (by omega) (by omega) (by omega) hr.2 hp c1 (by simp only at s1; omega) (fun r i' h' hc' hr' => K r i' h' hc' (by simp only at s1; omega))
    refine ⟨R, Ev.step (fun k => by rw [spec_l13DrawPart.l1]) ?_, hR⟩
    refine Ev.pos hp0 (Ev.pos hp1 (Ev.pos (by omega) (Ev.bind e1 (Ev.bind e2 ?_))))
    have hf := hs.2.2 p
    rw [wrap64_id (x := x + 1) (by omega) (by omega)]
    exact e3
theorem drawtimes (sc : List S61) (hs : ColsOk sc) (s : List Int) (d : Nat) (ih : PartDraws sc s d) (p : Int) (hp0 : 0 ≤ p) (hk : chk sc (d + 1) p ≠ -1) (n : Int) (hn : n ≤ 20) : ∀ (m : Nat) (j i h : Int) (l : List S33), j + m = n → 0 ≤ j → Cur s i → l.length + m * ((chk sc (d + 1) p - p).toNat * cW d) ≤ 1000000000000 →
    ∃ R, Ev (fun k => spec_l13DrawPart.l0 k sc p l n j s i h) R ∧ Cur s R.2.1 ∧ R.1.length ≤ l.length + m * ((chk sc (d + 1) p - p).toNat * cW d) := by
  obtain ⟨hp1, hf0, hpt⟩ := chk_parts sc d p hk
  have hr := (chk_range sc (d + 1) p hp0).resolve_left hk
  have hone : 1 ≤ (chk sc (d + 1) p - p).toNat * cW d := Nat.mul_le_mul (m₁ := 1) (n₁ := 1) (by omega) (cW_pos d)
  intro m
  induction m with
  | zero =>
    intro j i h l hj h0 hc hl
    exact ⟨(l, i, h), Ev.step (fun k => by rw [spec_l13DrawPart.l0]) (by exact Ev.neg (by omega) (Ev.now _)), hc, by simp⟩
  | succ m im =>
    intro j i h l hj h0 hc hl
    rw [Nat.succ_mul] at hl
    have hw : wrap64 (j + 1) = j + 1 := wrap64_id (by omega) (by omega)
    by_cases h7 : (rd_T61 sc p).f1 = 7
    · have hsub : (parts (chk sc d) sc (rd_T61 sc p).f3.toNat (p + 1) [] - (p + 1)).toNat * cW d ≤ (chk sc (d + 1) p - p).toNat * cW d := Nat.mul_le_mul_right _ (by rw [hpt]; omega)
      obtain ⟨R, e, c, hR⟩ := drawparts sc hs s d ih p hp0 hp1 n j (l.length + (m + 1) * ((chk sc (d + 1) p - p).toNat * cW d)) (rd_T61 sc p).f3.toNat 0 (p + 1) [] i h l (by omega) (Int.le_refl _) (by omega) (by omega) (by rw [← hpt]; exact hk) hc (by omega) (fun r i' h' hc' hr' => by
        rw [hw]
        obtain ⟨R, e, c, hR⟩ := im (j + 1) i' h' r (by omega) (by omega) hc' (by omega)
        exact ⟨R, e, c, by rw [Nat.succ_mul]; omega⟩)
      refine ⟨R, Ev.step (fun k => by rw [spec_l13DrawPart.l0]) ?_, c, hR⟩
      refine Ev.pos (by omega) (Ev.pos hp0 (Ev.pos hp1 (Ev.pos h7 ?_)))
      rw [wrap64_id (x := p + 1) (by have := hs.1; omega) (by have := hs.1; omega)]
      exact e
    · obtain ⟨v, x, i1, h1, e1, -, c1⟩ := l6DrawRight_ev s i h (rd_T61 sc p).f1 hc
      obtain ⟨R, e, c, hR⟩ := im (j + 1) i1 h1 (l ++ [⟨v, x⟩]) (by omega) (by omega) c1 (by rw [List.length_append]; simp only [List.length_singleton]; omega)
      rw [List.length_append] at hR
      simp only [List.length_singleton] at hR
      refine ⟨R, Ev.step (fun k => by rw [spec_l13DrawPart.l0]) ?_, c, by rw [Nat.succ_mul]; omega⟩
      refine Ev.pos (by omega) (Ev.pos hp0 (Ev.pos hp1 (Ev.neg h7 (Ev.bind e1 (Ev.pos (by omega) ?_)))))
      rw [hw]
      exact e
theorem drawpart_step (sc : List S61) (hs : ColsOk sc) (s : List Int) (d : Nat) (ih : PartDraws sc s d) : PartDraws sc s (d + 1) := by
  intro p hp0 hk i h l hc hl
  obtain ⟨hp1, hf0, hpt⟩ := chk_parts sc d p hk
  have hr := (chk_range sc (d + 1) p hp0).resolve_left hk
  have hW : (chk sc (d + 1) p - p).toNat * cW (d + 1) = 20 * ((chk sc (d + 1) p - p).toNat * cW d) + (chk sc (d + 1) p - p).toNat := by
    show (chk sc (d + 1) p - p).toNat * (20 * cW d + 1) = _
    rw [Nat.mul_add, Nat.mul_one, Nat.mul_left_comm]
  rw [hW] at hl ⊢
  have go : ∀ (n i1 h1 : Int) (l1 : List S33), 0 ≤ n → n ≤ 20 → Cur s i1 → l1.length ≤ l.length + 1 → ∃ R, Ev (fun k => spec_l13DrawPart.j1 k sc p l1 n s i1 h1) R ∧ Cur s R.2.1 ∧ R.1.length ≤ l.length + (20 * ((chk sc (d + 1) p - p).toNat * cW d) + (chk sc (d + 1) p - p).toNat) := by
    intro n i1 h1 l1 n0 n1 c1 hl1
    have hm : n.toNat * ((chk sc (d + 1) p - p).toNat * cW d) ≤ 20 * ((chk sc (d + 1) p - p).toNat * cW d) := Nat.mul_le_mul_right _ (by omega)
    obtain ⟨R, e, c, hR⟩ := drawtimes sc hs s d ih p hp0 hk n n1 n.toNat 0 i1 h1 l1 (by omega) (Int.le_refl _) c1 (by omega)
    exact ⟨R, Ev.step (fun k => by rw [spec_l13DrawPart.j1]) e, c, by omega⟩
  have plain : ∃ R, Ev (fun k => spec_l13DrawPart.j0 k sc p l 1 false s i h) R ∧ Cur s R.2.1 ∧ R.1.length ≤ l.length + (20 * ((chk sc (d + 1) p - p).toNat * cW d) + (chk sc (d + 1) p - p).toNat) := by
    obtain ⟨R, e, hR⟩ := go 1 i h l (by omega) (by omega) hc (by omega)
    exact ⟨R, Ev.step (fun k => by rw [spec_l13DrawPart.j0]) (Ev.neg (by decide) e), hR⟩
  by_cases hp : p > 0
  · by_cases h2 : (rd_T61 sc p).f2 = 0
    · obtain ⟨R, e, hR⟩ := plain
      refine ⟨R, Ev.step (fun k => by rw [spec_l13DrawPart.f]) ?_, hR⟩
      refine Ev.pos hp (Ev.pos hp0 (Ev.pos hp1 ?_))
      rw [show ((rd_T61 sc p).f2 != 0) = false from bne_eq_false_iff_eq.mpr h2]
      exact e
    · obtain ⟨v, i1, h1, e1, v0, v1, -, c1⟩ := l1Below_some s i h 2 hc
      have v1 := v1 (by omega)
      have fin : ∃ R, Ev (fun k => spec_l13DrawPart.j0 k sc p l 1 true s i h) R ∧ Cur s R.2.1 ∧ R.1.length ≤ l.length + (20 * ((chk sc (d + 1) p - p).toNat * cW d) + (chk sc (d + 1) p - p).toNat) := by
        by_cases h22 : (rd_T61 sc p).f2 = 2
        · obtain ⟨v', i2, h2', e2, w0, w1, -, c2⟩ := l1Below_some s i1 h1 4 c1
          have w1 := w1 (by omega)
          obtain ⟨o, i3, h3, e3, c3⟩ := l1Once_some s i2 h2' 60 c2
          cases o with
          | true =>
            obtain ⟨R, e, hR⟩ := go 20 i3 h3 (l ++ [⟨20, (⟨#[]⟩ : ByteArray)⟩]) (by omega) (by omega) c3 (by rw [List.length_append]; exact Nat.le_refl _)
            exact ⟨R, Ev.step (fun k => by rw [spec_l13DrawPart.j0]) (by exact Ev.pos rfl (Ev.here e1 (Ev.pos hp0 (Ev.pos hp1 (Ev.pos h22 (Ev.here e2 (Ev.here e3 (Ev.pos rfl (Ev.pos (by omega) e))))))))), hR⟩
          | false =>
            obtain ⟨R, e, hR⟩ := go v' i3 h3 (l ++ [⟨v', (⟨#[]⟩ : ByteArray)⟩]) (by omega) (by omega) c3 (by rw [List.length_append]; exact Nat.le_refl _)
            exact ⟨R, Ev.step (fun k => by rw [spec_l13DrawPart.j0]) (by exact Ev.pos rfl (Ev.here e1 (Ev.pos hp0 (Ev.pos hp1 (Ev.pos h22 (Ev.here e2 (Ev.here e3 (Ev.neg Bool.false_ne_true (Ev.pos (by omega) e))))))))), hR⟩
        · obtain ⟨R, e, hR⟩ := go v i1 h1 (l ++ [⟨v, (⟨#[]⟩ : ByteArray)⟩]) (by omega) (by omega) c1 (by rw [List.length_append]; exact Nat.le_refl _)
          exact ⟨R, Ev.step (fun k => by rw [spec_l13DrawPart.j0]) (by exact Ev.pos rfl (Ev.here e1 (Ev.pos hp0 (Ev.pos hp1 (Ev.neg h22 (Ev.pos (by omega) e)))))), hR⟩
      obtain ⟨R, e, hR⟩ := fin
      refine ⟨R, Ev.step (fun k => by rw [spec_l13DrawPart.f]) ?_, hR⟩
      refine Ev.pos hp (Ev.pos hp0 (Ev.pos hp1 ?_))
      rw [show ((rd_T61 sc p).f2 != 0) = true from bne_iff_ne.mpr h2]
      exact e
  · obtain ⟨R, e, hR⟩ := plain
    exact ⟨R, Ev.step (fun k => by rw [spec_l13DrawPart.f]) (by exact Ev.neg hp e), hR⟩
theorem drawpart_all (sc : List S61) (hs : ColsOk sc) (s : List Int) : ∀ d, PartDraws sc s d
  | 0 => fun p hp hk => absurd (by unfold chk; rfl) hk
  | d + 1 => drawpart_step sc hs s d (drawpart_all sc hs s d)
/-- How many leaves stand ahead of a place. -/
def lf (s : List S61) (n : Nat) : Nat := (lvs s n).length
theorem lf_le (s : List S61) (n : Nat) : lf s n ≤ n := lvs_length s n
theorem lf_succ (s : List S61) (n : Nat) : lf s (n + 1) = if (rd_T61 s (n : Int)).f1 = 7 then lf s n else lf s n + 1 := by
  unfold lf lvs
  rw [List.range_succ, List.foldl_append]
  simp only [List.foldl_cons, List.foldl_nil]
  unfold lvStep
  split
  · rfl
  · rw [List.length_append]; rfl
theorem lf_mono (s : List S61) (a : Nat) : ∀ m, lf s a ≤ lf s (a + m)
  | 0 => Nat.le_refl _
  | m + 1 => by
    have h := lf_mono s a m
    have e := lf_succ s (a + m)
    rw [show a + (m + 1) = a + m + 1 from rfl, e]
    split <;> omega
attribute [irreducible] lf
theorem l14Leaf_ev (s : List S61) (hs : s.length ≤ 1048576) (p : Nat) (hp : p ≤ s.length) : Ev (fun k => spec_l14Leaf.f k s (p : Int)) (lf s p : Int) := by
  unfold spec_l14Leaf.f
  have h00 : lf s 0 = 0 := by have := lf_le s 0; omega
  have key : ∀ (m i : Nat), i + m = p → Ev (fun k => spec_l14Leaf.l0 k s (p : Int) (lf s i : Int) (i : Int)) (lf s p : Int) := by
    intro m
    induction m with
    | zero =>
      intro i hi
      refine Ev.step (fun k => by rw [spec_l14Leaf.l0]) ?_
      refine Ev.neg (by omega) ?_
      rw [show i = p from by omega]
      exact Ev.now _
    | succ m im =>
      intro i hi
      have h1 := im (i + 1) (by omega)
      have hb : lf s i ≤ i := lf_le s i
      have hw : wrap64 ((i : Int) + 1) = ((i + 1 : Nat) : Int) := by rw [wrap64_id (by omega) (by omega)]; omega
      rw [lf_succ] at h1
      refine Ev.step (fun k => by rw [spec_l14Leaf.l0]) ?_
      refine Ev.pos (by omega) (Ev.pos (by omega) (Ev.pos (by omega) ?_))
      by_cases h7 : (rd_T61 s (i : Int)).f1 = 7
      · rw [if_pos h7] at h1
        rw [hw]
        exact Ev.pos h7 h1
      · rw [if_neg h7] at h1
        rw [hw, wrap64_id (x := (lf s i : Int) + 1) (by omega) (by omega)]
        exact Ev.neg h7 h1
  have h1 := key p 0 (by omega)
  rw [h00] at h1
  exact h1
/-- So many columns, none longer than b. -/
def Room (T : TT) (N b : Nat) : Prop := T.length = N ∧ ∀ j : Nat, (T.getD j []).length ≤ b
theorem getD_put (T : TT) (i j : Nat) (x : List S35) (hi : i < T.length) : (T.set i x).getD j [] = if j = i then x else T.getD j [] := by
  rw [List.getD_eq_getElem?_getD, List.getElem?_set]
  by_cases h : i = j
  · subst h
    rw [if_pos rfl, if_pos hi, if_pos rfl]; rfl
  · rw [if_neg h, if_neg (fun e => h e.symm), List.getD_eq_getElem?_getD]
theorem null_ev (s : List S61) (hs : ColsOk s) (d : Nat) (p : Int) (hp0 : 0 ≤ p) (hk : chk s d p ≠ -1) (t : S35) (N b : Nat) (hN : N = lf s s.length) (hb : b ≤ 1000000) (T : TT) (hT : Room T N b) : ∃ T', Ev (fun k => spec_l14Null.f k s p t T) T' ∧ Room T' N (b + 1) := by
  have hr := (chk_range s d p hp0).resolve_left hk
  have ea := spec_l5After_ev s hs d p hp0 hk
  obtain ⟨e, he⟩ : ∃ e : Nat, chk s d p = (e : Int) := ⟨(chk s d p).toNat, by omega⟩
  obtain ⟨p', hp'⟩ : ∃ e : Nat, p = (e : Int) := ⟨p.toNat, by omega⟩
  subst hp'
  rw [he] at ea hr
  have el := l14Leaf_ev s hs.1 e (by omega)
  have ef := l14Leaf_ev s hs.1 p' (by omega)
  have hle : lf s e ≤ N := by
    have := lf_mono s e (s.length - e)
    rw [show e + (s.length - e) = s.length from by omega] at this
    omega
  have hlb : lf s e ≤ e := lf_le s e
  have hsl := hs.1
  have key : ∀ (m i : Nat) (T : TT), (i + m = lf s e ∨ (m = 0 ∧ lf s e ≤ i)) → T.length = N → (∀ j : Nat, (T.getD j []).length ≤ b + 1) → (∀ j : Nat, i ≤ j → (T.getD j []).length ≤ b) → ∃ T', Ev (fun k => spec_l14Null.l0 k s (p' : Int) t T (i : Int)) T' ∧ Room T' N (b + 1) := by
    intro m
    induction m with
    | zero =>
      intro i T hi hn h1 h2
      refine ⟨T, Ev.step (fun k => by rw [spec_l14Null.l0]) ?_, hn, h1⟩
      exact Ev.bind ea (Ev.bind el (Ev.neg (by omega) (Ev.now _)))
    | succ m im =>
      intro i T hi hn h1 h2
      have hi2 : i < T.length := by omega
      obtain ⟨T', e1, hR⟩ := im (i + 1) (T.set i (T.getD i [] ++ [t])) (by omega) (by rw [List.length_set]; exact hn) (fun j => by
        rw [getD_put _ _ _ _ hi2]
        split
        · rw [List.length_append]; have := h2 i (Nat.le_refl _); simp only [List.length_singleton]; omega
        · exact h1 j) (fun j hj => by
        rw [getD_put _ _ _ _ hi2, if_neg (by omega)]
        exact h2 j (by omega))
      refine ⟨T', Ev.step (fun k => by rw [spec_l14Null.l0]) ?_, hR⟩
      refine Ev.bind ea (Ev.bind el (Ev.pos (by omega) (Ev.pos ⟨by omega, by omega, ?_⟩ ?_)))
      · have := h1 i; rw [Int.toNat_natCast]; omega
      · rw [Int.toNat_natCast, show wrap64 ((i : Int) + 1) = ((i + 1 : Nat) : Int) from by rw [wrap64_id (by omega) (by omega)]; omega]
        exact e1
  obtain ⟨T', e1, hR⟩ := key (lf s e - lf s p') (lf s p') T (by
    have := lf_mono s p' (e - p')
    rw [show p' + (e - p') = e from by omega] at this
    omega) hT.1 (fun j => by have := hT.2 j; omega) (fun j _ => hT.2 j)
  exact ⟨T', by unfold spec_l14Null.f; exact Ev.bind ef e1, hR⟩
section
variable (s : List S61) (L : List S33) (N : Nat)
def ShC (d : Nat) : Prop := ∀ (p : Int), 0 ≤ p → chk s d p ≠ -1 → ∀ pos : Nat, pos ≤ L.length → ∃ r, Ev (fun k => spec_l13Content.f k s p L (pos : Int)) r ∧ (r = -1 ∨ ∃ q : Nat, r = (q : Int) ∧ pos ≤ q ∧ q ≤ L.length ∧
  ∀ (rep dfn reps : Int) (T : TT) (b : Nat), Room T N b → b + (q - pos) ≤ 1000000 → ∃ T', Ev (fun k => spec_l14Content.f k s p L (pos : Int) rep dfn reps T) (T', (q : Int)) ∧ Room T' N (b + (q - pos)))
def ShP (d : Nat) : Prop := ∀ (p : Int), 0 ≤ p → chk s d p ≠ -1 → ∀ pos : Nat, pos ≤ L.length → ∃ r, Ev (fun k => spec_l13Part.f k s p L (pos : Int)) r ∧ (r = -1 ∨ ∃ q : Nat, r = (q : Int) ∧ pos ≤ q ∧ q ≤ L.length ∧
  ∀ (rep dfn reps : Int) (T : TT) (b : Nat), Room T N b → b + (q - pos) ≤ 1000000 → ∃ T', Ev (fun k => spec_l14Part.f k s p L (pos : Int) rep dfn reps T) (T', (q : Int)) ∧ Room T' N (b + (q - pos)))
theorem sh_parts (hs : ColsOk s) (d : Nat) (ih : ShP s L N d) (p : Int) (h0 : 0 ≤ p) (h1 : p < s.length) : ∀ (n : Nat) (i next : Int) (names : List ByteArray) (pos : Nat), i + n = (rd_T61 s p).f3 → 0 ≤ i → 0 ≤ next → parts (chk s d) s n next names ≠ -1 → pos ≤ L.length →
    ∃ r, Ev (fun k => spec_l13Content.l0 k s p L (pos : Int) next i) r ∧ (r = -1 ∨ ∃ q : Nat, r = (q : Int) ∧ pos ≤ q ∧ q ≤ L.length ∧
      ∀ (rep dfn reps : Int) (T : TT) (b : Nat), Room T N b → b + (q - pos) ≤ 1000000 → ∃ T', Ev (fun k => spec_l14Content.l0 k s p L (pos : Int) rep dfn reps next T i) (T', (q : Int)) ∧ Room T' N (b + (q - pos))) := by
  have hm := hs.2.2 p
  intro n
  induction n with
  | zero =>
    intro i next names pos hi i0 n0 hp hpos
    refine ⟨(pos : Int), ?_, Or.inr ⟨pos, rfl, Nat.le_refl _, hpos, fun rep dfn reps T b hT hb => ⟨T, ?_, by rw [Nat.sub_self]; exact hT⟩⟩⟩
    · refine Ev.step (fun k => by rw [spec_l13Content.l0]) ?_
      exact Ev.pos h0 (Ev.pos h1 (Ev.neg (by omega) (Ev.now _)))
    · refine Ev.step (fun k => by rw [spec_l14Content.l0]) ?_
      exact Ev.pos ⟨h0, h1⟩ (Ev.neg (by omega) (Ev.now _))
  | succ n ihn =>
    intro i next names pos hi i0 n0 hp hpos
    obtain ⟨g1, g2, names', g3⟩ := parts_step (chk s d) s n next names hp
    have w1 : wrap64 (i + 1) = i + 1 := wrap64_id (by omega) (by omega)
    have ea := spec_l5After_ev s hs d next n0 (by omega)
    obtain ⟨r, e1, e3⟩ := ih next n0 (by omega) pos hpos
    rcases e3 with rfl | ⟨q, rfl, hq0, hq, hS⟩
    · refine ⟨-1, ?_, Or.inl rfl⟩
      refine Ev.step (fun k => by rw [spec_l13Content.l0]) ?_
      exact Ev.pos h0 (Ev.pos h1 (Ev.pos (by omega) (Ev.bind e1 (Ev.pos (by omega) (Ev.now _)))))
    · rw [g3] at hp
      obtain ⟨r2, f1, f3⟩ := ihn (i + 1) (chk s d next) names' q (by omega) (by omega) (by omega) hp hq
      refine ⟨r2, ?_, ?_⟩
      · refine Ev.step (fun k => by rw [spec_l13Content.l0]) ?_
        refine Ev.pos h0 (Ev.pos h1 (Ev.pos (by omega) (Ev.bind e1 (Ev.neg (by omega) (Ev.bind ea ?_)))))
        rw [w1]; exact f1
      · rcases f3 with rfl | ⟨q2, rfl, hq2, hq3, hS2⟩
        · exact Or.inl rfl
        · refine Or.inr ⟨q2, rfl, by omega, hq3, fun rep dfn reps T b hT hb => ?_⟩
          obtain ⟨T1, x1, hT1⟩ := hS rep dfn reps T b hT (by omega)
          obtain ⟨T2, x2, hT2⟩ := hS2 rep dfn reps T1 _ hT1 (by omega)
          refine ⟨T2, ?_, by rw [show b + (q2 - pos) = b + (q - pos) + (q2 - q) from by omega]; exact hT2⟩
          refine Ev.step (fun k => by rw [spec_l14Content.l0]) ?_
          refine Ev.pos ⟨h0, h1⟩ (Ev.pos (by omega) (Ev.bind x1 (Ev.bind ea ?_)))
          rw [w1]; exact x2
theorem sh_content (hs : ColsOk s) (hN : N = lf s s.length) (hL : L.length ≤ 300) (d : Nat) (ih : ShP s L N d) : ShC s L N (d + 1) := by
  intro p h0 h pos hpos
  obtain ⟨h1, hm0, hc⟩ := chk_parts s d p h
  have hl := hs.1
  have W1 : Aside0 (wrap64 (p + 1) = p + 1) := ⟨wrap64_id (by omega) (by omega)⟩
  have W2 : Aside0 (wrap64 ((pos : Int) + 1) = ((pos + 1 : Nat) : Int)) := ⟨by rw [wrap64_id (by omega) (by omega)]; omega⟩
  by_cases h7 : (rd_T61 s p).f1 = 7
  · obtain ⟨r, e1, e3⟩ := sh_parts s L N hs d ih p h0 h1 (rd_T61 s p).f3.toNat 0 (p + 1) [] pos (by omega) (by omega) (by omega) (by rw [← hc]; exact h) hpos
    refine ⟨r, ?_, ?_⟩
    · refine Ev.step (fun k => by rw [spec_l13Content.f]) ?_
      refine Ev.pos h0 (Ev.pos h1 (Ev.pos h7 ?_))
      rw [W1.out]; exact e1
    · rcases e3 with rfl | ⟨q, rfl, hq0, hq, hS⟩
      · exact Or.inl rfl
      · refine Or.inr ⟨q, rfl, hq0, hq, fun rep dfn reps T b hT hb => ?_⟩
        obtain ⟨T1, x1, hT1⟩ := hS rep dfn reps T b hT hb
        refine ⟨T1, ?_, hT1⟩
        refine Ev.step (fun k => by rw [spec_l14Content.f]) ?_
        refine Ev.pos ⟨h0, h1⟩ (Ev.pos h7 ?_)
        rw [W1.out]; exact x1
  · by_cases hp : L.length ≤ pos
    · have hge : (pos : Int) ≥ (L.length : Int) := Int.ofNat_le.mpr hp
      have e : Ev (fun k => spec_l13Content.f k s p L (pos : Int)) (-1) := by
        refine Ev.step (fun k => by rw [spec_l13Content.f]) ?_
        refine Ev.pos h0 ?_
        refine Ev.pos h1 ?_
        refine Ev.neg h7 ?_
        refine Ev.pos hge ?_
        exact Ev.now _
      exact ⟨-1, e, Or.inl rfl⟩
    · have hsp : ∀ r, Ev (fun _ : Nat => if vOk (rd_T61 s p).f1 (rd_T33 L (pos : Int)) = true then some (wrap64 ((pos : Int) + 1)) else some (-1)) r → Ev (fun k => spec_l13Content.f k s p L (pos : Int)) r := by
        intro r hr
        refine Ev.step (fun k => by rw [spec_l13Content.f]) ?_
        exact Ev.pos h0 (Ev.pos h1 (Ev.neg h7 (Ev.neg (by omega) (Ev.pos (by omega) (Ev.pos (by omega) (Ev.bind (spec_ValOk_ev _ _) hr))))))
      by_cases hv : vOk (rd_T61 s p).f1 (rd_T33 L (pos : Int)) = true
      · refine ⟨((pos + 1 : Nat) : Int), hsp _ ?_, Or.inr ⟨pos + 1, rfl, by omega, by omega, fun rep dfn reps T b hT hb => ?_⟩⟩
        · rw [W2.out]; exact Ev.pos hv (Ev.now _)
        · obtain ⟨p', rfl⟩ : ∃ e : Nat, p = (e : Int) := ⟨p.toNat, by omega⟩
          have el := l14Leaf_ev s hs.1 p' (by omega)
          have hlt : lf s p' < N := by
            have h2 := lf_succ s p'
            rw [if_neg h7] at h2
            have h3 := lf_mono s (p' + 1) (s.length - (p' + 1))
            rw [show p' + 1 + (s.length - (p' + 1)) = s.length from by omega] at h3
            omega
          have hi2 : lf s p' < T.length := by rw [hT.1]; exact hlt
          refine ⟨T.set (lf s p') (T.getD (lf s p') [] ++ [⟨rep, dfn, rd_T33 L (pos : Int)⟩]), ?_, by rw [List.length_set]; exact hT.1, fun j => ?_⟩
          · refine Ev.step (fun k => by rw [spec_l14Content.f]) ?_
            refine Ev.pos ⟨h0, h1⟩ (Ev.neg h7 (Ev.bind el (Ev.pos ⟨by omega, by omega, ?_, by omega, by omega⟩ ?_)))
            · have := hT.2 (lf s p'); rw [Int.toNat_natCast]; omega
            · rw [Int.toNat_natCast, W2.out]; exact Ev.now _
          · rw [getD_put _ _ _ _ hi2]
            split
            · rw [List.length_append]; have := hT.2 (lf s p'); simp only [List.length_singleton]; omega
            · have := hT.2 j; omega
      · exact ⟨-1, hsp _ (Ev.neg hv (Ev.now _)), Or.inl rfl⟩
theorem sh_rep (d : Nat) (ih : ShC s L N d) (p : Int) (h0 : 0 ≤ p) (h : chk s d p ≠ -1) (n : Int) (hn : n ≤ 20) : ∀ (m : Nat) (i : Int) (pos : Nat), i + m = n → 0 ≤ i → pos ≤ L.length →
    ∃ r, Ev (fun k => spec_l13Part.l0 k s p L (pos : Int) n i) r ∧ (r = -1 ∨ ∃ q : Nat, r = (q : Int) ∧ pos ≤ q ∧ q ≤ L.length ∧
      ∀ (rep dfn reps : Int) (T : TT) (b : Nat), Room T N b → b + (q - pos) ≤ 1000000 → ∃ T', Ev (fun k => spec_l14Part.l0 k s p L (pos : Int) rep dfn reps T n i) (T', (q : Int)) ∧ Room T' N (b + (q - pos))) := by
  intro m
  induction m with
  | zero =>
    intro i pos hi i0 hpos
    refine ⟨(pos : Int), Ev.step (fun k => by rw [spec_l13Part.l0]) (by exact Ev.neg (by omega) (Ev.now _)), Or.inr ⟨pos, rfl, Nat.le_refl _, hpos, fun rep dfn reps T b hT hb => ⟨T, ?_, by rw [Nat.sub_self]; exact hT⟩⟩⟩
    exact Ev.step (fun k => by rw [spec_l14Part.l0]) (by exact Ev.neg (by omega) (Ev.now _))
  | succ m im =>
    intro i pos hi i0 hpos
    have w1 : wrap64 (i + 1) = i + 1 := wrap64_id (by omega) (by omega)
    obtain ⟨r, e1, e3⟩ := ih p h0 h pos hpos
    rcases e3 with rfl | ⟨q, rfl, hq0, hq, hS⟩
    · exact ⟨-1, Ev.step (fun k => by rw [spec_l13Part.l0]) (by exact Ev.pos (by omega) (Ev.bind e1 (Ev.pos (by omega) (Ev.now _)))), Or.inl rfl⟩
    · obtain ⟨r2, f1, f3⟩ := im (i + 1) q (by omega) (by omega) hq
      refine ⟨r2, ?_, ?_⟩
      · refine Ev.step (fun k => by rw [spec_l13Part.l0]) ?_
        refine Ev.pos (by omega) (Ev.bind e1 (Ev.neg (by omega) ?_))
        rw [w1]; exact f1
      · rcases f3 with rfl | ⟨q2, rfl, hq2, hq3, hS2⟩
        · exact Or.inl rfl
        · refine Or.inr ⟨q2, rfl, by omega, hq3, fun rep dfn reps T b hT hb => ?_⟩
          obtain ⟨T1, x1, hT1⟩ := hS rep (wrap64 (dfn + 1)) reps T b hT (by omega)
          obtain ⟨T2, x2, hT2⟩ := hS2 reps dfn reps T1 _ hT1 (by omega)
          refine ⟨T2, ?_, by rw [show b + (q2 - pos) = b + (q - pos) + (q2 - q) from by omega]; exact hT2⟩
          refine Ev.step (fun k => by rw [spec_l14Part.l0]) ?_
          refine Ev.pos (by omega) (Ev.bind x1 ?_)
          rw [w1]; exact x2
end
/-! A column's part. -/
section
variable (s : List S61) (L : List S33) (N : Nat)
theorem sh_part (hs : ColsOk s) (hN : N = lf s s.length) (hL : L.length ≤ 300) (d : Nat) (ih : ShC s L N d) : ShP s L N d := by
  intro p h0 h pos hpos
  have hr := chk_range s d p h0
  have h1 : p < s.length := by omega
  have W2 : Aside0 (wrap64 ((pos : Int) + 1) = ((pos + 1 : Nat) : Int)) := ⟨by rw [wrap64_id (by omega) (by omega)]; omega⟩
  by_cases hz : (rd_T61 s p).f2 = 0
  · obtain ⟨r, e1, e3⟩ := ih p h0 h pos hpos
    refine ⟨r, ?_, ?_⟩
    · refine Ev.step (fun k => by rw [spec_l13Part.f]) ?_
      refine Ev.pos h0 (Ev.pos h1 (Ev.pos hz ?_))
      refine Ev.step (fun k => by rw [spec_l13Part.j1]) ?_
      refine Ev.step (fun k => by rw [spec_l13Part.l0]) ?_
      refine Ev.pos (by omega) (Ev.bind e1 ?_)
      rcases e3 with rfl | ⟨q, rfl, hq0, hq, hS⟩
      · exact Ev.pos (by omega) (Ev.now _)
      · refine Ev.neg (by omega) ?_
        rw [wrap64_id (by omega) (by omega)]
        exact Ev.step (fun k => by rw [spec_l13Part.l0]) (by exact Ev.neg (by omega) (Ev.now _))
    · rcases e3 with rfl | ⟨q, rfl, hq0, hq, hS⟩
      · exact Or.inl rfl
      · refine Or.inr ⟨q, rfl, hq0, hq, fun rep dfn reps T b hT hb => ?_⟩
        obtain ⟨T1, x1, hT1⟩ := hS rep dfn reps T b hT hb
        refine ⟨T1, ?_, hT1⟩
        refine Ev.step (fun k => by rw [spec_l14Part.f]) ?_
        exact Ev.pos ⟨h0, h1⟩ (Ev.pos hz x1)
  · obtain ⟨most, hmost⟩ : ∃ most : Int, most = if (rd_T61 s p).f2 = 2 then 20 else 1 := ⟨_, rfl⟩
    have hm20 : most ≤ 20 := by rw [hmost]; split <;> omega
    have spf : ∀ r, Ev (fun k => spec_l13Part.j0 k s p L (pos : Int) most) r → Ev (fun k => spec_l13Part.f k s p L (pos : Int)) r := by
      intro r hr'
      refine Ev.step (fun k => by rw [spec_l13Part.f]) ?_
      refine Ev.pos h0 (Ev.pos h1 (Ev.neg hz ?_))
      by_cases h2 : (rd_T61 s p).f2 = 2
      · rw [if_pos h2] at hmost
        subst hmost
        exact Ev.pos h2 hr'
      · rw [if_neg h2] at hmost
        subst hmost
        exact Ev.neg h2 hr'
    clear hmost
    by_cases hp : L.length ≤ pos
    · have hge : (pos : Int) ≥ (L.length : Int) := Int.ofNat_le.mpr hp
      exact ⟨-1, spf _ (Ev.step (fun k => by rw [spec_l13Part.j0]) (by exact Ev.pos hge (Ev.now _))), Or.inl rfl⟩
    have hlt : (pos : Int) < (L.length : Int) := Int.ofNat_lt.mpr (Nat.lt_of_not_le hp)
    have hg0 : (0 : Int) ≤ (pos : Int) := Int.natCast_nonneg pos
    have hcnt := l13Count_some (rd_T33 L (pos : Int)) most
    by_cases hv : vcount (rd_T33 L (pos : Int)) most = -1
    · rw [hv] at hcnt
      exact ⟨-1, spf _ (Ev.step (fun k => by rw [spec_l13Part.j0]) (by exact Ev.neg (by omega) (Ev.pos hg0 (Ev.pos hlt (Ev.here hcnt (Ev.pos (by decide) (Ev.now _))))))), Or.inl rfl⟩
    · have hvc : vcount (rd_T33 L (pos : Int)) most = (rd_T33 L (pos : Int)).f0 ∧ 0 ≤ (rd_T33 L (pos : Int)).f0 ∧ (rd_T33 L (pos : Int)).f0 ≤ most := by
        unfold vcount at hv ⊢
        by_cases hc : (rd_T33 L (pos : Int)).f1.toList = [] ∧ 0 ≤ (rd_T33 L (pos : Int)).f0 ∧ (rd_T33 L (pos : Int)).f0 ≤ most
        · rw [if_pos hc]; exact ⟨rfl, hc.2⟩
        · rw [if_neg hc] at hv; exact absurd rfl hv
      rw [hvc.1] at hcnt
      obtain ⟨n, hn⟩ : ∃ n, n = (rd_T33 L (pos : Int)).f0 := ⟨_, rfl⟩
      have hcn : spec_l13Count.f (rd_T33 L (pos : Int)).f0 (rd_T33 L (pos : Int)).f1 most = some n := by rw [hcnt, hn]
      obtain ⟨n0, n1⟩ : 0 ≤ n ∧ n ≤ most := by rw [hn]; exact hvc.2
      clear hvc hcnt
      obtain ⟨r, e1, e3⟩ := sh_rep s L N d ih p h0 h n (by omega) n.toNat 0 (pos + 1) (by omega) (by omega) (by omega)
      refine ⟨r, spf _ ?_, ?_⟩
      · refine Ev.step (fun k => by rw [spec_l13Part.j0]) ?_
        refine Ev.neg (by omega) (Ev.pos hg0 (Ev.pos hlt (Ev.here hcn (Ev.neg (by omega) ?_))))
        refine Ev.step (fun k => by rw [spec_l13Part.j1]) ?_
        rw [W2.out]; exact e1
      · rcases e3 with rfl | ⟨q, rfl, hq0, hq, hS⟩
        · exact Or.inl rfl
        · refine Or.inr ⟨q, rfl, by omega, hq, fun rep dfn reps T b hT hb => ?_⟩
          by_cases hn0 : n = 0
          · obtain ⟨T1, x1, hT1⟩ := null_ev s hs d p h0 h ⟨rep, dfn, z33⟩ N b hN (by omega) T hT
            have hq1 : q = pos + 1 := by
              subst hn0
              have e2 : Ev (fun k => spec_l13Part.l0 k s p L ((pos + 1 : Nat) : Int) 0 0) ((pos + 1 : Nat) : Int) := Ev.step (fun k => by rw [spec_l13Part.l0]) (by exact Ev.neg (by omega) (Ev.now _))
              have := Ev.det e1 e2
              omega
            refine ⟨T1, ?_, by rw [show b + (q - pos) = b + 1 from by omega]; exact hT1⟩
            refine Ev.step (fun k => by rw [spec_l14Part.f]) ?_
            refine Ev.pos ⟨h0, h1⟩ (Ev.neg hz (Ev.pos ⟨hg0, hlt⟩ (Ev.pos (by rw [← hn]; exact hn0) (Ev.bind x1 ?_))))
            rw [W2.out, hq1]
            exact Ev.now _
          · obtain ⟨T1, x1, hT1⟩ := hS rep dfn (if (rd_T61 s p).f2 = 2 then wrap64 (reps + 1) else reps) T b hT (by omega)
            refine ⟨T1, ?_, hT1.1, fun j => by have := hT1.2 j; omega⟩
            refine Ev.step (fun k => by rw [spec_l14Part.f]) ?_
            refine Ev.pos ⟨h0, h1⟩ (Ev.neg hz (Ev.pos ⟨hg0, hlt⟩ (Ev.neg (by rw [← hn]; exact hn0) ?_)))
            rw [W2.out, ← hn]
            exact x1
theorem sh_all (hs : ColsOk s) (hN : N = lf s s.length) (hL : L.length ≤ 300) : ∀ d : Nat, ShC s L N d ∧ ShP s L N d := by
  intro d
  induction d with
  | zero =>
    have h : ShC s L N 0 := fun p h0 hk => absurd (by unfold chk; rfl) hk
    exact ⟨h, sh_part s L N hs hN hL 0 h⟩
  | succ d ih =>
    have h := sh_content s L N hs hN hL d ih.2
    exact ⟨h, sh_part s L N hs hN hL (d + 1) h⟩
end
/-- Of a schema that is right, and a record: what RecOk says, and how it is shredded if it is right. -/
theorem rec_shred (s : List S61) (hs : ColsOk s) (hk : schOk s = true) (L : List S33) : ∃ b, Ev (fun k => spec_RecOk.f k s L) b ∧ (b = true → ∀ (T : TT) (c : Nat), Room T (lf s s.length) c → c + 300 ≤ 1000000 → ∃ T' q, Ev (fun k => spec_l14Content.f k s 0 L 0 0 0 0 T) (T', q) ∧ Room T' (lf s s.length) (c + 300)) := by
  obtain ⟨k1, k2, k3, k4⟩ := schOk_parts hk
  have e0 := spec_SchemaOk_ev s hs
  rw [hk] at e0
  by_cases hl : (L.length : Int) ≤ 300
  · obtain ⟨r, e1, e2⟩ := (sh_all s L (lf s s.length) hs rfl (by omega) 6).1 0 (Int.le_refl _) (by omega) 0 (Nat.zero_le _)
    refine ⟨r == (L.length : Int), ?_, fun hb T c hT hc => ?_⟩
    · unfold spec_RecOk.f
      exact Ev.bind e0 (Ev.pos rfl (Ev.pos hl (Ev.bind e1 (Ev.now _))))
    · have hr : r = (L.length : Int) := beq_iff_eq.mp hb
      rcases e2 with h | ⟨q, hq, -, hq2, hS⟩
      · omega
      · obtain ⟨T', x, hR⟩ := hS 0 0 0 T c hT (by omega)
        exact ⟨T', _, x, hR.1, fun j => by have := hR.2 j; omega⟩
  · refine ⟨false, ?_, fun h => absurd h (by decide)⟩
    unfold spec_RecOk.f
    exact Ev.bind e0 (Ev.pos rfl (Ev.neg hl (Ev.now _)))
/-! The draws of records and of a column. -/
theorem recEmpty_ev (s : List S61) (hs : ColsOk s) (hk : schOk s = true) : Ev (fun k => spec_RecEmpty.f k s) (emp s 6 0, true) := by
  obtain ⟨k1, k2, k3, k4⟩ := schOk_parts hk
  have e0 := spec_SchemaOk_ev s hs
  rw [hk] at e0
  have hz : (rd_T61 s 0).f2 = 0 := by
    unfold rootB at k3
    simp only [Bool.and_eq_true, decide_eq_true_eq] at k3
    exact k3.1.2
  unfold spec_RecEmpty.f
  exact Ev.bind e0 (Ev.pos rfl (Ev.bind (spec_l13Empty_ev s hs 6 (Nat.le_refl _) 0 (Int.le_refl _) (fun _ => hz) (by omega)) (Ev.now _)))
theorem drawRec_ev (sc : List S61) (hs : ColsOk sc) (hk : schOk sc = true) (s : List Int) (i h : Int) (hc : Cur s i) : ∃ (r : List S33) (i' h' : Int), Ev (fun k => spec_l13DrawRight.f k s i h sc) (r, i', h') ∧ Cur s i' := by
  obtain ⟨k1, k2, k3, k4⟩ := schOk_parts hk
  have hW : cW 6 = 67368421 := rfl
  obtain ⟨⟨r, i1, h1⟩, e1, c1, -⟩ := drawpart_all sc hs s 6 0 (Int.le_refl _) (by omega) i h [] hc (by
    have : (chk sc 6 0 - 0).toNat ≤ 20 := by omega
    have := Nat.mul_le_mul_right (cW 6) this
    rw [hW] at this ⊢
    simp only [List.length_nil]
    omega)
  obtain ⟨b, e2, -⟩ := rec_shred sc hs hk r
  cases b with
  | true =>
    refine ⟨r, i1, h1, ?_, c1⟩
    unfold spec_l13DrawRight.f
    exact Ev.bind e1 (Ev.bind e2 (Ev.pos rfl (Ev.now _)))
  | false =>
    refine ⟨emp sc 6 0, i1, h1, ?_, c1⟩
    unfold spec_l13DrawRight.f
    exact Ev.bind e1 (Ev.bind e2 (Ev.neg Bool.false_ne_true (Ev.bind (recEmpty_ev sc hs hk) (Ev.now _))))
theorem drawRecs_ev (sc : List S61) (hs : ColsOk sc) (hk : schOk sc = true) (s : List Int) (i h most : Int) (hc : Cur s i) (hm0 : 0 ≤ most) (hm : most ≤ 100) : ∃ (r : List S68) (i' h' : Int), Ev (fun k => spec_l14DrawRecs.f k s i h sc most) (r, i', h') ∧ Cur s i' ∧ r.length ≤ 101 := by
  have hw : wrap64 (most + 1) = most + 1 := wrap64_id (by omega) (by omega)
  obtain ⟨n, i1, h1, e1, n0, n1, -, c1⟩ := l1Below_some s i h (wrap64 (most + 1)) hc
  rw [hw] at n1
  have n1 := n1 (by omega)
  have key : ∀ (m : Nat) (j i h : Int) (out : List S68), j + m = n → 0 ≤ j → Cur s i → out.length + m ≤ 101 → ∃ (r : List S68) (i' h' : Int), Ev (fun k => spec_l14DrawRecs.l0 k s sc n j i h out) (r, i', h') ∧ Cur s i' ∧ r.length ≤ 101 := by
    intro m
    induction m with
    | zero =>
      intro j i h out hj h0 hc ho
      exact ⟨out, i, h, Ev.step (fun k => by rw [spec_l14DrawRecs.l0]) (by exact Ev.neg (by omega) (Ev.now _)), hc, by omega⟩
    | succ m im =>
      intro j i h out hj h0 hc ho
      obtain ⟨v, i2, h2, e2, c2⟩ := drawRec_ev sc hs hk s i h hc
      obtain ⟨r, i3, h3, e3, c3, s3⟩ := im (j + 1) i2 h2 (out ++ [⟨v⟩]) (by omega) (by omega) c2 (by rw [List.length_append]; simp only [List.length_singleton]; omega)
      refine ⟨r, i3, h3, Ev.step (fun k => by rw [spec_l14DrawRecs.l0]) ?_, c3, s3⟩
      refine Ev.pos (by omega) (Ev.bind e2 (Ev.pos (by omega) ?_))
      rw [wrap64_id (x := j + 1) (by omega) (by omega)]
      exact e3
  obtain ⟨r, i2, h2, e2, c2, s2⟩ := key n.toNat 0 i1 h1 [] (by omega) (Int.le_refl _) c1 (by simp only [List.length_nil]; omega)
  refine ⟨r, i2, h2, ?_, c2, s2⟩
  unfold spec_l14DrawRecs.f
  exact Ev.here e1 e2
def ColumnsOk (r : List S31) : Prop := r.length ≤ 20 ∧ ∀ x ∈ r, x.f0.length ≤ 2000
theorem shred_out (T : TT) (hT : T.length ≤ 20) : ∃ r b, Ev (fun k => spec_Shred.l1 k T 0 []) (r, b) ∧ ColumnsOk r := by
  have key : ∀ (m i : Nat) (out : List S31), i + m = T.length → out.length = i → (∀ x ∈ out, x.f0.length ≤ 2000) → ∃ r b, Ev (fun k => spec_Shred.l1 k T (i : Int) out) (r, b) ∧ ColumnsOk r := by
    intro m
    induction m with
    | zero =>
      intro i out hi ho hx
      exact ⟨out, true, Ev.step (fun k => by rw [spec_Shred.l1]) (by exact Ev.neg (by omega) (Ev.now _)), by omega, hx⟩
    | succ m im =>
      intro i out hi ho hx
      by_cases h2 : ((T.getD (i : Int).toNat []).length : Int) > 2000
      · exact ⟨[], false, Ev.step (fun k => by rw [spec_Shred.l1]) (by exact Ev.pos (by omega) (Ev.pos ⟨by omega, by omega⟩ (Ev.pos h2 (Ev.now _)))), by simp, fun x hx => absurd hx (by simp)⟩
      · obtain ⟨r, b, e, hr⟩ := im (i + 1) (out ++ [⟨T.getD (i : Int).toNat []⟩]) (by omega) (by rw [List.length_append, ho]; rfl) (fun x hx' => by
          rcases List.mem_append.mp hx' with h | h
          · exact hx x h
          · rw [List.mem_singleton.mp h]; show (T.getD (i : Int).toNat []).length ≤ 2000; omega)
        refine ⟨r, b, Ev.step (fun k => by rw [spec_Shred.l1]) ?_, hr⟩
        refine Ev.pos (by omega) (Ev.pos ⟨by omega, by omega⟩ (Ev.neg h2 ?_))
        rw [show wrap64 ((i : Int) + 1) = ((i + 1 : Nat) : Int) from by rw [wrap64_id (by omega) (by omega)]; omega]
        exact e
  exact key T.length 0 [] (by omega) rfl (fun x hx => absurd hx (by simp))
theorem shred_ev (sc : List S61) (hs : ColsOk sc) (hk : schOk sc = true) (recs : List S68) (hr : recs.length ≤ 200) : ∃ r b, Ev (fun k => spec_Shred.f k sc recs) (r, b) ∧ ColumnsOk r := by
  obtain ⟨k1, k2, k3, k4⟩ := schOk_parts hk
  have e0 := spec_SchemaOk_ev sc hs
  rw [hk] at e0
  have el := spec_l5Leaves_ev sc hs.1
  have hlen := lvs_length sc sc.length
  have key : ∀ (m i : Nat) (T : TT), i + m = recs.length → Room T (lf sc sc.length) (300 * i) → ∃ r b, Ev (fun k => spec_Shred.l0 k sc recs T (i : Int)) (r, b) ∧ ColumnsOk r := by
    intro m
    induction m with
    | zero =>
      intro i T hi hT
      obtain ⟨r, b, e, h⟩ := shred_out T (by rw [hT.1]; have := lf_le sc sc.length; omega)
      exact ⟨r, b, Ev.step (fun k => by rw [spec_Shred.l0]) (by exact Ev.neg (by omega) e), h⟩
    | succ m im =>
      intro i T hi hT
      obtain ⟨b, e1, e2⟩ := rec_shred sc hs hk (rd_T68 recs (i : Int)).f0
      cases b with
      | false => exact ⟨[], false, Ev.step (fun k => by rw [spec_Shred.l0]) (by exact Ev.pos (by omega) (Ev.pos (by omega) (Ev.bind e1 (Ev.neg Bool.false_ne_true (Ev.now _))))), by simp, fun x hx => absurd hx (by simp)⟩
      | true =>
        obtain ⟨T', q, x, hR⟩ := e2 rfl T (300 * i) hT (by omega)
        obtain ⟨r, b, e, h⟩ := im (i + 1) T' (by omega) (by rw [show 300 * (i + 1) = 300 * i + 300 from by omega]; exact hR)
        refine ⟨r, b, Ev.step (fun k => by rw [spec_Shred.l0]) ?_, h⟩
        refine Ev.pos (by omega) (Ev.pos (by omega) (Ev.bind e1 (Ev.pos rfl (Ev.bind x ?_))))
        rw [show wrap64 ((i : Int) + 1) = ((i + 1 : Nat) : Int) from by rw [wrap64_id (by omega) (by omega)]; omega]
        exact e
  obtain ⟨r, b, e, h⟩ := key recs.length 0 (List.replicate (lvs sc sc.length).length []) (by omega) ⟨by rw [List.length_replicate]; unfold lf; rfl, fun j => by
    rw [List.getD_eq_getElem?_getD, List.getElem?_replicate]
    split <;> simp⟩
  refine ⟨r, b, ?_, h⟩
  unfold spec_Shred.f
  exact Ev.bind e0 (Ev.pos rfl (Ev.neg (by omega) (Ev.bind el (Ev.pos (by omega) e))))
theorem l15Draw_ev (s : List Int) (i h most : Int) (hc : Cur s i) (hm0 : 0 ≤ most) (hm : most ≤ 100) : ∃ (x1 x2 x3 : Int) (list : List S35) (i' h' : Int), Ev (fun k => spec_l15Draw.f k s i h most) (x1, x2, x3, list, i', h') ∧ Cur s i' ∧ list.length ≤ 2000 := by
  obtain ⟨sc, i1, h1, e1, c1, d1, k1⟩ := l5DrawRight_ev s i h hc
  obtain ⟨q1, q2, -, -⟩ := schOk_parts k1
  have hs : ColsOk sc := d1.ok (by omega)
  obtain ⟨recs, i2, h2, e2, c2, s2⟩ := drawRecs_ev sc hs k1 s i1 h1 most c1 hm0 hm
  obtain ⟨cols, b, e3, hco⟩ := shred_ev sc hs k1 recs (by omega)
  by_cases h0 : (cols.length : Int) = 0
  · refine ⟨0, 0, 0, [], i2, h2, ?_, c2, by simp⟩
    unfold spec_l15Draw.f
    exact Ev.bind e1 (Ev.bind e2 (Ev.bind e3 (Ev.pos h0 (Ev.now _))))
  · obtain ⟨v, i3, h3, e4, v0, v1, -, c3⟩ := l1Below_some s i2 h2 (cols.length : Int) c2
    have v1 := v1 (by omega)
    have e5 := spec_LeafOf_ev sc hs v (by omega) (by have := hco.1; omega)
    obtain ⟨y1, y2, y3, y4, hy⟩ : ∃ y1 y2 y3 y4, leafR sc v = (y1, y2, y3, y4) := ⟨_, _, _, _, rfl⟩
    rw [hy] at e5
    refine ⟨y1, y2, y3, (rd_T31 cols v).f0, i3, h3, ?_, c3, ?_⟩
    · unfold spec_l15Draw.f
      exact Ev.bind e1 (Ev.bind e2 (Ev.bind e3 (Ev.neg h0 (Ev.here e4 (Ev.bind e5 (Ev.pos ⟨v0, v1⟩ (Ev.now _)))))))
    · unfold rd_T31
      rw [List.getD_eq_getElem?_getD, List.getElem?_eq_getElem (by omega)]
      exact hco.2 _ (List.getElem_mem _)
theorem drawCut_ev (l : List Int) (hl : l.length ≤ 1048576) : ∃ (list : List S35) (n : Int), Ev (fun k => spec_DrawChunkCut.f k l) (list, n) ∧ list.length ≤ 2000 := by
  obtain ⟨h0, e0⟩ := l1New_ev l hl
  have c0 : Cur l 0 := ⟨by omega, by omega, hl⟩
  obtain ⟨x1, x2, x3, list, i1, h1, e1, c1, s1⟩ := l15Draw_ev l 0 h0 9 c0 (by omega) (by omega)
  obtain ⟨o, i2, h2, e2, c2⟩ := l1Once_some l i1 h1 9 c1
  obtain ⟨n, i3, h3, e3, _, _, _, c3⟩ := l1Below_some l i2 h2 6 c2
  by_cases hx : o = true ∧ (list.length : Int) > 0
  · refine ⟨list.drop 1, n, ?_, by rw [List.length_drop]; omega⟩
    unfold spec_DrawChunkCut.f
    exact Ev.bind e0 (Ev.bind e1 (Ev.here e2 (Ev.here e3 (Ev.pos hx (Ev.now _)))))
  · refine ⟨list, n, ?_, s1⟩
    unfold spec_DrawChunkCut.f
    exact Ev.bind e0 (Ev.bind e1 (Ev.here e2 (Ev.here e3 (Ev.neg hx (Ev.now _)))))
/-! ### Pieces of a chunk -/
theorem last_len (out : List S31) (a : S31) (h : out.length ≤ 100000) : wrap64 (((out ++ [a]).length : Int) - 1) = (out.length : Int) := by
  have : (out ++ [a]).length = out.length + 1 := by rw [List.length_append]; rfl
  rw [this, wrap64_id (by omega) (by omega)]; omega
theorem last_rd (out : List S31) (a : S31) : rd_T31 (out ++ [a]) (out.length : Int) = a := by
  have h : out.length < (out ++ [a]).length := by rw [List.length_append]; simp
  have e : rd_T31 (out ++ [a]) (out.length : Int) = (out ++ [a])[out.length] := getD_eq h
  rw [e]; simp
theorem last_set (out : List S31) (a b : S31) : (out ++ [a]).set (out.length : Int).toNat b = out ++ [b] := by
  rw [Int.toNat_natCast]; simp
def pieceOk (r : List S31) : Prop := r.length ≤ 2001 ∧ ∀ x ∈ r, x.f0.length ≤ 2000
theorem impl_cut_step (l : List S35) (hl : l.length ≤ 2000) (rows : Int) (i : Nat) (hi : i < l.length) (out : List S31) (now : List S35) (n n' : Int) (r : List S31) (ho : out.length ≤ 2000) (hn : now.length ≤ 2000)
    (hc : ((l[i]).f0 = 0 ∧ n ≠ rows ∧ wrap64 (n + 1) = n') ∨ ((l[i]).f0 ≠ 0 ∧ n = n'))
    (hr : Ev (fun k => impl_ChunkCut.l0 k rows (out ++ [(⟨now ++ [l[i]]⟩ : S31)]) n' l (l.length : Int) ((i + 1 : Nat) : Int)) r) :
    Ev (fun k => impl_ChunkCut.l0 k rows (out ++ [(⟨now⟩ : S31)]) n l (l.length : Int) (i : Int)) r := by
  have e : rd_T35 l (i : Int) = l[i] := getD_eq hi
  have hw : wrap64 ((i : Int) + 1) = ((i + 1 : Nat) : Int) := by rw [wrap64_id (by omega) (by omega)]; omega
  have hlen : (out ++ [(⟨now⟩ : S31)]).length = out.length + 1 := by rw [List.length_append]; rfl
  refine Ev.step (fun k => by rw [impl_ChunkCut.l0]) ?_
  rw [e, hw, last_len _ _ (by omega), last_rd, last_set]
  refine Ev.pos (by omega) (Ev.pos (by omega) (Ev.pos (by omega) ?_))
  rcases hc with ⟨h0, h1, h2⟩ | ⟨h0, h2⟩
  · rw [h2]
    exact Ev.pos h0 (Ev.neg h1 (Ev.pos (by omega) (Ev.pos (by omega) (Ev.pos (by dsimp only; omega) hr))))
  · rw [← h2] at hr
    exact Ev.neg h0 (Ev.pos (by omega) (Ev.pos (by omega) (Ev.pos (by dsimp only; omega) hr)))
theorem impl_cut_new (l : List S35) (hl : l.length ≤ 2000) (rows : Int) (i : Nat) (hi : i < l.length) (P : List S31) (r : List S31) (ho : P.length ≤ 2001)
    (h0 : (l[i]).f0 = 0) (hr : Ev (fun k => impl_ChunkCut.l0 k rows (P ++ [(⟨[] ++ [l[i]]⟩ : S31)]) (0 + 1) l (l.length : Int) ((i + 1 : Nat) : Int)) r) :
    Ev (fun k => impl_ChunkCut.l0 k rows P rows l (l.length : Int) (i : Int)) r := by
  have e : rd_T35 l (i : Int) = l[i] := getD_eq hi
  have hw : wrap64 ((i : Int) + 1) = ((i + 1 : Nat) : Int) := by rw [wrap64_id (by omega) (by omega)]; omega
  have hlen : (P ++ [(⟨[]⟩ : S31)]).length = P.length + 1 := by rw [List.length_append]; rfl
  refine Ev.step (fun k => by rw [impl_ChunkCut.l0]) ?_
  rw [e, hw]
  refine Ev.pos (by omega) (Ev.pos (by omega) (Ev.pos (by omega) (Ev.pos h0 (Ev.pos rfl (Ev.pos (by omega) (Ev.here rfl ?_))))))
  rw [last_len _ _ (by omega), last_rd, last_set]
  exact Ev.pos (by omega) (Ev.pos (by omega) (Ev.pos (by simp) hr))
theorem cut_loop (l : List S35) (hl : l.length ≤ 2000) (rows : Int) : ∀ (m i : Nat) (out : List S31) (now : List S35) (n : Int), i + m = l.length → out.length ≤ i → now.length ≤ i → (∀ x ∈ out, x.f0.length ≤ 2000) → 0 ≤ n → n ≤ i →
    ∃ r, Ev (fun k => spec_ChunkCut.l0 k l rows out now n (i : Int)) r ∧ Ev (fun k => impl_ChunkCut.l0 k rows (out ++ [(⟨now⟩ : S31)]) n l (l.length : Int) (i : Int)) r ∧ pieceOk r := by
  intro m
  induction m with
  | zero =>
    intro i out now n hi ho hn hx n0 n1
    refine ⟨out ++ [⟨now⟩], ?_, ?_, ?_, ?_⟩
    · refine Ev.step (fun k => by rw [spec_ChunkCut.l0]) ?_
      exact Ev.neg (by omega) (Ev.pos (by omega) (Ev.now _))
    · refine Ev.step (fun k => by rw [impl_ChunkCut.l0]) ?_
      exact Ev.neg (by omega) (Ev.now _)
    · rw [List.length_append, List.length_singleton]; omega
    · intro x h
      rcases List.mem_append.1 h with h | h
      · exact hx x h
      · rw [List.mem_singleton.1 h]; dsimp only; omega
  | succ m ih =>
    intro i out now n hi ho hn hx n0 n1
    have hil : i < l.length := by omega
    have e : rd_T35 l (i : Int) = l[i] := getD_eq hil
    have hw : wrap64 ((i : Int) + 1) = ((i + 1 : Nat) : Int) := by rw [wrap64_id (by omega) (by omega)]; omega
    have hwn : wrap64 (n + 1) = n + 1 := wrap64_id (by omega) (by omega)
    have hnl : (now ++ [l[i]]).length = now.length + 1 := by rw [List.length_append]; rfl
    by_cases h0 : (l[i]).f0 = 0
    · by_cases h1 : n = rows
      · have hol : (out ++ [(⟨now⟩ : S31)]).length = out.length + 1 := by rw [List.length_append]; rfl
        obtain ⟨r, g1, g2, g3⟩ := ih (i + 1) (out ++ [⟨now⟩]) ([] ++ [l[i]]) (0 + 1) (by omega) (by omega) (by rw [List.length_append]; simp) (by
          intro x h
          rcases List.mem_append.1 h with h | h
          · exact hx x h
          · rw [List.mem_singleton.1 h]; dsimp only; omega) (by omega) (by omega)
        refine ⟨r, ?_, ?_, g3⟩
        · refine Ev.step (fun k => by rw [spec_ChunkCut.l0]) ?_
          rw [e, hw]
          exact Ev.pos (by omega) (Ev.pos (by omega) (Ev.pos h0 (Ev.pos h1 (Ev.pos (by omega) (Ev.here rfl (Ev.pos (by simp) g1))))))
        · rw [h1]
          exact impl_cut_new l hl rows i hil _ r (by omega) h0 g2
      · obtain ⟨r, g1, g2, g3⟩ := ih (i + 1) out (now ++ [l[i]]) (n + 1) (by omega) (by omega) (by omega) hx (by omega) (by omega)
        refine ⟨r, ?_, impl_cut_step l hl rows i hil out now n (n + 1) r (by omega) (by omega) (.inl ⟨h0, h1, hwn⟩) g2, g3⟩
        refine Ev.step (fun k => by rw [spec_ChunkCut.l0]) ?_
        rw [e, hw, hwn]
        exact Ev.pos (by omega) (Ev.pos (by omega) (Ev.pos h0 (Ev.neg h1 (Ev.pos (by omega) g1))))
    · obtain ⟨r, g1, g2, g3⟩ := ih (i + 1) out (now ++ [l[i]]) n (by omega) (by omega) (by omega) hx (by omega) (by omega)
      refine ⟨r, ?_, impl_cut_step l hl rows i hil out now n n r (by omega) (by omega) (.inr ⟨h0, rfl⟩) g2, g3⟩
      refine Ev.step (fun k => by rw [spec_ChunkCut.l0]) ?_
      rw [e, hw]
      exact Ev.pos (by omega) (Ev.pos (by omega) (Ev.neg h0 (Ev.pos (by omega) g1)))
theorem ChunkCut_both (l : List S35) (hl : l.length ≤ 1048576) (rows : Int) : ∃ r, Ev (fun k => spec_ChunkCut.f k l rows) r ∧ Ev (fun k => impl_ChunkCut.f k l rows) r ∧ pieceOk r := by
  have none_ok : pieceOk ([] : List S31) := ⟨by simp, fun x h => absurd h (by simp)⟩
  have sj : Ev (fun k => spec_ChunkCut.j0 k l rows ([] : List S31) true) [] := Ev.step (fun k => by rw [spec_ChunkCut.j0]) (by exact Ev.pos rfl (Ev.now _))
  have ij : Ev (fun k => impl_ChunkCut.j0 k l rows true) [] := Ev.step (fun k => by rw [impl_ChunkCut.j0]) (by exact Ev.pos rfl (Ev.now _))
  unfold spec_ChunkCut.f impl_ChunkCut.f
  by_cases h1 : rows < 1
  · exact ⟨[], Ev.here rfl (Ev.pos h1 sj), Ev.pos h1 ij, none_ok⟩
  by_cases h2 : (l.length : Int) = 0
  · refine ⟨[], Ev.here rfl (Ev.neg h1 (Ev.here (l1In_some _ _ _) ?_)), Ev.neg h1 (Ev.pos h2 ij), none_ok⟩
    rw [decide_eq_false (show ¬ (1 ≤ (l.length : Int) ∧ (l.length : Int) ≤ 2000) by omega)]
    exact Ev.neg Bool.false_ne_true sj
  by_cases h4 : (l.length : Int) > 2000
  · have hs : Ev (fun k => (spec_l1In.f (l.length : Int) 1 2000).bind fun t => if t = true then (if 0 < (l.length : Int) then spec_ChunkCut.j0 k l rows ([] : List S31) (((rd_T35 l 0).f0) != 0) else none) else spec_ChunkCut.j0 k l rows [] true) [] := by
      refine Ev.here (l1In_some _ _ _) ?_
      rw [decide_eq_false (show ¬ (1 ≤ (l.length : Int) ∧ (l.length : Int) ≤ 2000) by omega)]
      exact Ev.neg Bool.false_ne_true sj
    refine ⟨[], Ev.here rfl (Ev.neg h1 hs), Ev.neg h1 (Ev.neg h2 (Ev.pos (by omega) ?_)), none_ok⟩
    by_cases h3 : (rd_T35 l 0).f0 = 0
    · refine Ev.pos h3 ?_
      rw [decide_eq_true h4]; exact ij
    · exact Ev.neg h3 ij
  have hd : decide (1 ≤ (l.length : Int) ∧ (l.length : Int) ≤ 2000) = true := decide_eq_true (by omega)
  by_cases h3 : (rd_T35 l 0).f0 = 0
  · have hl0 : 0 < l.length := by omega
    have e0 : rd_T35 l ((0 : Nat) : Int) = l[0] := getD_eq hl0
    have h30 : (l[0]).f0 = 0 := by rw [← e0]; exact h3
    have hw : wrap64 (((0 : Nat) : Int) + 1) = ((0 + 1 : Nat) : Int) := by decide +kernel
    obtain ⟨r, g1, g2, g3⟩ := cut_loop l (by omega) rows (l.length - 1) (0 + 1) [] ([] ++ [l[0]]) (0 + 1) (by omega) (by simp) (by simp) (fun x h => absurd h (by simp)) (by omega) (by omega)
    refine ⟨r, Ev.here rfl (Ev.neg h1 (Ev.here (l1In_some _ _ _) ?_)), Ev.neg h1 (Ev.neg h2 (Ev.pos (by omega) (Ev.pos h3 ?_))), g3⟩
    · rw [hd]
      refine Ev.pos rfl (Ev.pos (by omega) ?_)
      rw [show (((rd_T35 l 0).f0) != 0) = false from bne_eq_false_iff_eq.mpr h3]
      refine Ev.step (fun k => by rw [spec_ChunkCut.j0]) (Ev.neg Bool.false_ne_true ?_)
      have hz : Ev (fun k => spec_ChunkCut.l0 k l rows [] ([] : List S35) 0 ((0 : Nat) : Int)) r := by
        refine Ev.step (fun k => by rw [spec_ChunkCut.l0]) ?_
        rw [e0, hw, show wrap64 ((0 : Int) + 1) = 0 + 1 by decide +kernel]
        exact Ev.pos (by omega) (Ev.pos (by omega) (Ev.pos h30 (Ev.neg (by omega) (Ev.pos (by simp) g1))))
      exact hz
    · rw [decide_eq_false h4]
      refine Ev.step (fun k => by rw [impl_ChunkCut.j0]) (Ev.neg Bool.false_ne_true ?_)
      have hz := impl_cut_new l (by omega) rows 0 hl0 [] r (by simp) h30 g2
      exact hz
  · refine ⟨[], Ev.here rfl (Ev.neg h1 (Ev.here (l1In_some _ _ _) ?_)), Ev.neg h1 (Ev.neg h2 (Ev.pos (by omega) (Ev.neg h3 ij))), none_ok⟩
    rw [hd]
    refine Ev.pos rfl (Ev.pos (by omega) ?_)
    rw [show (((rd_T35 l 0).f0) != 0) = true from bne_iff_ne.mpr h3]
    exact sj
/-! ### Rows of rows: likeness and marks -/
/-! What the pieces of a chunk are. -/
def rowsN (l : List S35) : Int := ((l.filter fun t => t.f0 = 0).length : Int)
theorem rowsN_le (l : List S35) : 0 ≤ rowsN l ∧ rowsN l ≤ l.length := by
  unfold rowsN
  have := List.length_filter_le (fun t : S35 => decide (t.f0 = 0)) l
  omega
theorem rowsN_snoc (l : List S35) (t : S35) : rowsN (l ++ [t]) = rowsN l + (if t.f0 = 0 then 1 else 0) := by
  unfold rowsN
  rw [List.filter_append]
  by_cases h : t.f0 = 0 <;> simp [List.filter_cons, h]
theorem impl_RowsOf_ev (l : List S35) (hl : l.length ≤ 1048576) : Ev (fun k => impl_RowsOf.f k l) (rowsN l) := by
  unfold impl_RowsOf.f
  have key : ∀ (d i : Nat), i + d = l.length → Ev (fun k => impl_RowsOf.l0 k (rowsN (l.take i)) l (l.length : Int) (i : Int)) (rowsN l) := by
    intro d
    induction d with
    | zero =>
      intro i hi
      obtain rfl : i = l.length := by omega
      rw [List.take_length]
      exact Ev.step (fun k => by rw [impl_RowsOf.l0]) (by exact Ev.neg (by omega) (Ev.now _))
    | succ d ih =>
      intro i hi
      have hlt : i < l.length := by omega
      have e : rd_T35 l (i : Int) = l[i] := getD_eq (by simpa using hlt)
      have hs : rowsN (l.take (i + 1)) = rowsN (l.take i) + (if l[i].f0 = 0 then 1 else 0) := by
        rw [List.take_succ_eq_append_getElem hlt, rowsN_snoc]
      have hb := rowsN_le (l.take i)
      have hb2 : (l.take i).length ≤ l.length := by simp; omega
      have := ih (i + 1) (by omega)
      rw [hs] at this
      refine Ev.step (fun k => by rw [impl_RowsOf.l0]) ?_
      refine Ev.pos (by omega) (Ev.pos (by omega) (Ev.pos (by omega) ?_))
      rw [e, wrap64_id (x := (i : Int) + 1) (by omega) (by omega), wrap64_id (x := rowsN (l.take i) + 1) (by omega) (by omega)]
      by_cases h : l[i].f0 = 0
      · refine Ev.pos h ?_
        rw [if_pos h] at this
        simpa using this
      · refine Ev.neg h ?_
        rw [if_neg h] at this
        simpa using this
  simpa [rowsN] using key l.length 0 (by omega)
/-- A piece that begins a row, with so many rows. -/
def PieceP (rows n : Int) (x : List S35) : Prop := 0 < x.length ∧ (rd_T35 x 0).f0 = 0 ∧ rowsN x = n ∧ 1 ≤ n ∧ n ≤ rows
def flat (r : List S31) : List S35 := r.flatMap (fun x => x.f0)
theorem flat_snoc (r : List S31) (x : S31) : flat (r ++ [x]) = flat r ++ x.f0 := by
  unfold flat
  rw [List.flatMap_append]
  simp
theorem PieceP.snoc {rows n : Int} {x : List S35} (h : PieceP rows n x) (t : S35) (hn : n < rows ∨ t.f0 ≠ 0) : PieceP rows (if t.f0 = 0 then n + 1 else n) (x ++ [t]) := by
  obtain ⟨h0, h1, h2, h3, h4⟩ := h
  refine ⟨by rw [List.length_append]; omega, ?_, ?_, ?_, ?_⟩
  · refine Eq.trans ?_ h1
    unfold rd_T35
    rw [List.getD_eq_getElem?_getD, List.getD_eq_getElem?_getD, List.getElem?_append_left (by simpa using h0)]
  · rw [rowsN_snoc, h2]; split <;> omega
  · split <;> omega
  · split
    · rename_i hz
      rcases hn with hn | hn
      · omega
      · exact absurd hz hn
    · exact h4
theorem PieceP.new {rows : Int} (hr : 1 ≤ rows) (t : S35) (h0 : t.f0 = 0) : PieceP rows (0 + 1) ([] ++ [t]) :=
  ⟨by simp, h0, by rw [rowsN_snoc, if_pos h0]; rfl, by omega, by omega⟩
/-- The pieces are the list; each but the last has just as many rows as was wanted. -/
def CutP (l : List S35) (rows : Int) (r : List S31) : Prop := r = [] ∨ ∃ (o : List S31) (x : S31) (n : Int), r = o ++ [x] ∧ (∀ y ∈ o, PieceP rows rows y.f0) ∧ PieceP rows n x.f0 ∧ flat r = l
theorem cutP_loop (l : List S35) (hl : l.length ≤ 2000) (rows : Int) (hrow : 1 ≤ rows) : ∀ (m i : Nat) (out : List S31) (now : List S35) (n : Int), i + m = l.length → out.length ≤ i → now.length ≤ i → n ≤ i → (∀ y ∈ out, PieceP rows rows y.f0) → PieceP rows n now → flat out ++ now = l.take i →
    ∃ r, Ev (fun k => spec_ChunkCut.l0 k l rows out now n (i : Int)) r ∧ CutP l rows r := by
  intro m
  induction m with
  | zero =>
    intro i out now n hi ho hn n1 hout hnow hf
    refine ⟨out ++ [⟨now⟩], ?_, .inr ⟨out, ⟨now⟩, n, rfl, hout, hnow, ?_⟩⟩
    · refine Ev.step (fun k => by rw [spec_ChunkCut.l0]) ?_
      exact Ev.neg (by omega) (Ev.pos (by omega) (Ev.now _))
    · rw [flat_snoc, hf, show i = l.length from by omega, List.take_length]
  | succ m ih =>
    intro i out now n hi ho hn n1 hout hnow hf
    have hil : i < l.length := by omega
    have e : rd_T35 l (i : Int) = l[i] := getD_eq hil
    have hw : wrap64 ((i : Int) + 1) = ((i + 1 : Nat) : Int) := by rw [wrap64_id (by omega) (by omega)]; omega
    have hwn : wrap64 (n + 1) = n + 1 := wrap64_id (by have := hnow.2.2.2.1; omega) (by omega)
    have hnl : (now ++ [l[i]]).length = now.length + 1 := by rw [List.length_append]; rfl
    have htk : l.take (i + 1) = l.take i ++ [l[i]] := List.take_succ_eq_append_getElem hil
    by_cases h0 : (l[i]).f0 = 0
    · by_cases h1 : n = rows
      · have hol : (out ++ [(⟨now⟩ : S31)]).length = out.length + 1 := by rw [List.length_append]; rfl
        subst h1
        obtain ⟨r, g1, g2⟩ := ih (i + 1) (out ++ [⟨now⟩]) ([] ++ [l[i]]) (0 + 1) (by omega) (by omega) (by rw [List.length_append]; simp) (by omega) (by
          intro x h
          rcases List.mem_append.1 h with h | h
          · exact hout x h
          · rw [List.mem_singleton.1 h]; exact hnow) (PieceP.new hrow _ h0) (by rw [flat_snoc, List.nil_append, htk, ← hf])
        refine ⟨r, ?_, g2⟩
        refine Ev.step (fun k => by rw [spec_ChunkCut.l0]) ?_
        rw [e, hw]
        exact Ev.pos (by omega) (Ev.pos (by omega) (Ev.pos h0 (Ev.pos rfl (Ev.pos (by omega) (Ev.here rfl (Ev.pos (by simp) g1))))))
      · have hp := hnow.snoc (l[i]) (.inl (by have := hnow.2.2.2.2; omega))
        rw [if_pos h0] at hp
        obtain ⟨r, g1, g2⟩ := ih (i + 1) out (now ++ [l[i]]) (n + 1) (by omega) (by omega) (by omega) (by omega) hout hp (by rw [← List.append_assoc, hf, htk])
        refine ⟨r, ?_, g2⟩
        refine Ev.step (fun k => by rw [spec_ChunkCut.l0]) ?_
        rw [e, hw, hwn]
        exact Ev.pos (by omega) (Ev.pos (by omega) (Ev.pos h0 (Ev.neg h1 (Ev.pos (by omega) g1))))
    · have hp := hnow.snoc (l[i]) (.inr h0)
      rw [if_neg h0] at hp
      obtain ⟨r, g1, g2⟩ := ih (i + 1) out (now ++ [l[i]]) n (by omega) (by omega) (by omega) (by omega) hout hp (by rw [← List.append_assoc, hf, htk])
      refine ⟨r, ?_, g2⟩
      refine Ev.step (fun k => by rw [spec_ChunkCut.l0]) ?_
      rw [e, hw]
      exact Ev.pos (by omega) (Ev.pos (by omega) (Ev.neg h0 (Ev.pos (by omega) g1)))
theorem cutP_ev (l : List S35) (hl : l.length ≤ 2000) (rows : Int) : ∃ r, Ev (fun k => spec_ChunkCut.f k l rows) r ∧ CutP l rows r := by
  have sj : Ev (fun k => spec_ChunkCut.j0 k l rows ([] : List S31) true) [] := Ev.step (fun k => by rw [spec_ChunkCut.j0]) (by exact Ev.pos rfl (Ev.now _))
  unfold spec_ChunkCut.f
  by_cases h1 : rows < 1
  · exact ⟨[], Ev.here rfl (Ev.pos h1 sj), .inl rfl⟩
  by_cases h2 : (l.length : Int) = 0
  · refine ⟨[], Ev.here rfl (Ev.neg h1 (Ev.here (l1In_some _ _ _) ?_)), .inl rfl⟩
    rw [decide_eq_false (show ¬ (1 ≤ (l.length : Int) ∧ (l.length : Int) ≤ 2000) by omega)]
    exact Ev.neg Bool.false_ne_true sj
  have hd : decide (1 ≤ (l.length : Int) ∧ (l.length : Int) ≤ 2000) = true := decide_eq_true (by omega)
  by_cases h3 : (rd_T35 l 0).f0 = 0
  · have hl0 : 0 < l.length := by omega
    have e0 : rd_T35 l ((0 : Nat) : Int) = l[0] := getD_eq hl0
    have h30 : (l[0]).f0 = 0 := by rw [← e0]; exact h3
    have hw : wrap64 (((0 : Nat) : Int) + 1) = ((0 + 1 : Nat) : Int) := by decide +kernel
    have htk : l.take (0 + 1) = l.take 0 ++ [l[0]] := List.take_succ_eq_append_getElem hl0
    obtain ⟨r, g1, g2⟩ := cutP_loop l (by omega) rows (by omega) (l.length - 1) (0 + 1) [] ([] ++ [l[0]]) (0 + 1) (by omega) (by simp) (by simp) (by omega) (fun x h => absurd h (by simp)) (PieceP.new (by omega) _ h30) (by rw [htk]; rfl)
    refine ⟨r, Ev.here rfl (Ev.neg h1 (Ev.here (l1In_some _ _ _) ?_)), g2⟩
    rw [hd]
    refine Ev.pos rfl (Ev.pos (by omega) ?_)
    rw [show (((rd_T35 l 0).f0) != 0) = false from bne_eq_false_iff_eq.mpr h3]
    refine Ev.step (fun k => by rw [spec_ChunkCut.j0]) (Ev.neg Bool.false_ne_true ?_)
    have hz : Ev (fun k => spec_ChunkCut.l0 k l rows [] ([] : List S35) 0 ((0 : Nat) : Int)) r := by
      refine Ev.step (fun k => by rw [spec_ChunkCut.l0]) ?_
      rw [e0, hw, show wrap64 ((0 : Int) + 1) = 0 + 1 by decide +kernel]
      exact Ev.pos (by omega) (Ev.pos (by omega) (Ev.pos h30 (Ev.neg (by omega) (Ev.pos (by simp) g1))))
    exact hz
  · refine ⟨[], Ev.here rfl (Ev.neg h1 (Ev.here (l1In_some _ _ _) ?_)), .inl rfl⟩
    rw [hd]
    refine Ev.pos rfl (Ev.pos (by omega) ?_)
    rw [show (((rd_T35 l 0).f0) != 0) = true from bne_iff_ne.mpr h3]
    exact sj
theorem sameTriples_ev (l : List S35) (hl : l.length ≤ 1048576) : Ev (fun k => laws_sameTriples.f k l l) true := by
  unfold laws_sameTriples.f
  refine Ev.pos rfl ?_
  refine same_loop (fun k i => laws_sameTriples.l0 k l l i) l.length (fun i r hi hr => ?_) ?_
  · refine Ev.step (fun k => by rw [laws_sameTriples.l0]) ?_
    refine Ev.pos (by omega) (Ev.pos (by omega) (Ev.pos (by omega) (Ev.neg (by simp) ?_)))
    rw [show wrap64 ((i : Int) + 1) = ((i + 1 : Nat) : Int) from by rw [wrap64_id (by omega) (by omega)]; omega]
    exact hr
  · exact Ev.step (fun k => by rw [laws_sameTriples.l0]) (by exact Ev.neg (by omega) (Ev.now _))
theorem cutlaw_loop (l : List S35) (hl : l.length ≤ 2000) (rows : Int) (r : List S31) (hr : pieceOk r) (o : List S31) (x : S31) (n : Int) (he : r = o ++ [x]) (ho : ∀ y ∈ o, PieceP rows rows y.f0) (hx : PieceP rows n x.f0) (hf : flat r = l) : Ev (fun k => laws_FnCut.l0 k l rows r [] 0) true := by
  have hlen : r.length = o.length + 1 := by rw [he, List.length_append]; rfl
  have key : ∀ (m i : Nat), i + m = r.length → Ev (fun k => laws_FnCut.l0 k l rows r (flat (r.take i)) (i : Int)) true := by
    intro m
    induction m with
    | zero =>
      intro i hi
      refine Ev.step (fun k => by rw [laws_FnCut.l0]) ?_
      rw [show i = r.length from by omega, List.take_length, hf]
      exact Ev.neg (by omega) (Ev.neg (by omega) (Ev.bind (sameTriples_ev l (by omega)) (Ev.now _)))
    | succ m im =>
      intro i hi
      have hil : i < r.length := by omega
      have e : rd_T31 r (i : Int) = r[i] := getD_eq hil
      have hsz := hr.2 _ (List.getElem_mem hil)
      have hr2 := hr.1
      have htk : flat (r.take (i + 1)) = flat (r.take i) ++ (r[i]).f0 := by rw [List.take_succ_eq_append_getElem hil, flat_snoc]
      have h1 := im (i + 1) (by omega)
      rw [htk] at h1
      have hle : (flat (r.take i)).length ≤ 2000 := by
        have h2 : (flat r).length = (flat (r.take i)).length + (flat (r.drop i)).length := by
          unfold flat
          rw [← List.length_append, ← List.flatMap_append, List.take_append_drop]
        rw [hf] at h2
        omega
      have hw : wrap64 ((i : Int) + 1) = ((i + 1 : Nat) : Int) := by rw [wrap64_id (by omega) (by omega)]; omega
      have hw1 : wrap64 ((r.length : Int) - 1) = (r.length : Int) - 1 := wrap64_id (by omega) (by omega)
      have er := impl_RowsOf_ev (r[i]).f0 (by omega)
      refine Ev.step (fun k => by rw [laws_FnCut.l0]) ?_
      rw [e, hw, hw1]
      by_cases hlast : i < o.length
      · have hp : PieceP rows rows (r[i]).f0 := by
          refine ho _ ?_
          have : r[i] = o[i] := by
            subst he
            exact List.getElem_append_left hlast
          rw [this]
          exact List.getElem_mem hlast
        obtain ⟨p0, p1, p2, p3, p4⟩ := hp
        rw [p2] at er
        exact Ev.pos (by omega) (Ev.pos (by omega) (Ev.bind er (Ev.neg (by omega) (Ev.neg (by omega) (Ev.pos (by omega) (Ev.pos rfl (Ev.pos (by omega) (Ev.pos p1 (Ev.pos (by omega) h1)))))))))
      · have hp : PieceP rows n (r[i]).f0 := by
          have : r[i] = x := by
            subst he
            rw [List.getElem_append_right (by omega)]
            simp
          rw [this]
          exact hx
        obtain ⟨p0, p1, p2, p3, p4⟩ := hp
        rw [p2] at er
        exact Ev.pos (by omega) (Ev.pos (by omega) (Ev.bind er (Ev.neg (by omega) (Ev.neg (by omega) (Ev.neg (by omega) (Ev.pos (by omega) (Ev.pos p1 (Ev.pos (by omega) h1))))))))
  exact key r.length 0 (by omega)
theorem FnCut : ∀ (x0 : List (Int)), (x0.length ≤ maxLen ∧ ∀ y ∈ x0, (Lit.int .u8 y).wf = true) → ∃ k, laws_FnCut.f k x0 = some true := by
  intro l hx
  refine Ev.rounds ?_
  unfold laws_FnCut.f
  by_cases hb : (l.length : Int) > 1048576
  · exact Ev.here (a := true) (by unfold laws_big.f; simp [hb]) (Ev.pos rfl (Ev.now _))
  refine Ev.here (a := false) (by unfold laws_big.f; simp [hb]) (Ev.neg (by decide) ?_)
  obtain ⟨list, n, e, hl⟩ := drawCut_ev l (by omega)
  obtain ⟨r, es, ei, hr⟩ := ChunkCut_both list (by omega) n
  obtain ⟨r', es', hc⟩ := cutP_ev list hl n
  obtain rfl := Ev.det es es'
  refine Ev.bind e (Ev.bind ei (Ev.bind es (Ev.pos rfl ?_)))
  rcases hc with rfl | ⟨o, x, m, he, ho, hp, hf⟩
  · exact Ev.step (fun k => by rw [laws_FnCut.l0]) (by exact Ev.neg (by simp) (Ev.pos rfl (Ev.now _)))
  · exact cutlaw_loop list hl n r hr o x m he ho hp hf
end Go.Proofs.Ytbiobenhhnbbaaa.Pure
