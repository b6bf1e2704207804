/- The pure statement of FnStats: the printed functions answer as the law says, for all arguments. No condition. -/
import Derived.Test.YtnlgodcbnlbdkaaVFnStats
import Derived.Test.YtnlgodcbnlbdkaaPFnStatsx
import Derived.Test.YtnlgodcbnlbdkaaArgFnStats
namespace Go.Proofs.Ytnlgodcbnlbdkaa.Pure
open Go.RowKit Go.Proofs.Ytnlgodcbnlbdkaa.PFnStats Go.Proofs.Ytnlgodcbnlbdkaa.Core Go.Proofs.YtnlgodcbnlbdkaaW.PrintWords Go.Proofs.YtnlgodcbnlbdkaaW.PrintLast Go.Proofs.YtnlgodcbnlbdkaaW.PrintMore Go.Proofs.YtnlgodcbnlbdkaaW.PrintMore2 Go.Proofs.Ytnlgodcbnlbdkaa.AFnStats
set_option linter.unusedVariables false
set_option linter.unusedSimpArgs false
def tOk (t : Int) : Bool := decide (t = 0 ∨ t = 1 ∨ t = 2 ∨ t = 5 ∨ t = 6)
theorem l5Type_some (t : Int) : spec_l5Type.f t = some (tOk t) := by
 unfold spec_l5Type.f
 (repeat' split) <;> simp_all [tOk]
theorem l1In_same (x lo hi : Int) : (if x ≥ lo then some (decide (x ≤ hi)) else some false) = some (decide (lo ≤ x ∧ x ≤ hi)) := by
 by_cases h : x ≥ lo
 ·
  rw [if_pos h]; congr 1; simp; omega
 ·
  rw [if_neg h]; congr 1; symm; simp; omega
theorem within_some (x lo hi : Int) : impl_within.f x lo hi = some (decide (lo ≤ x ∧ x ≤ hi)) := by unfold impl_within.f; exact l1In_same x lo hi
theorem typeOk_some (t : Int) : impl_TypeOk.f t = some (tOk t) := by
 unfold impl_TypeOk.f
 rw [within_some]
 simp only [Option.bind_some]
 by_cases h : 0 ≤ t ∧ t ≤ 2
 ·
  rw [if_pos (by simpa using h)]
  have : t = 0 ∨ t = 1 ∨ t = 2 := by omega
  rcases this with rfl | rfl | rfl <;> rfl
 ·
  rw [if_neg (by simpa using h)]
  by_cases h5 : t = 5
  ·
   subst h5; rfl
  ·
   rw [if_neg h5]
   by_cases h6 : t = 6
   ·
    subst h6; rfl
   ·
    have h0 : t ≠ 0 := by omega
    have h1 : t ≠ 1 := by omega
    have h2 : t ≠ 2 := by omega
    simp [tOk, h0, h1, h2, h5, h6]
def noText (s : ByteArray) : Bool := s.toList == ([] : List UInt8)
def vOk (t : Int) (v : S30) : Bool :=
 if t = 0 then decide (0 ≤ v.f0 ∧ v.f0 ≤ 1) && noText v.f1
 else if t = 1 then decide (-2147483648 ≤ v.f0 ∧ v.f0 ≤ 2147483647) && noText v.f1
 else if t = 2 ∨ t = 5 then noText v.f1
 else if t = 6 then decide (v.f0 = 0) && decide ((v.f1.size : Int) ≤ 40) else false
theorem l1In_some (x lo hi : Int) : spec_l1In.f x lo hi = some (decide (lo ≤ x ∧ x ≤ hi)) := by unfold spec_l1In.f; exact l1In_same x lo hi
theorem impl_ValOk_some (t : Int) (v : S30) : impl_ValOk.f t v.f0 v.f1 = some (vOk t v) := by
 unfold impl_ValOk.f impl_isInt32.f vOk noText
 simp only [within_some, Option.bind_some]
 by_cases h0 : t = 0
 ·
  rw [if_pos h0, if_pos h0]; by_cases h : 0 ≤ v.f0 ∧ v.f0 ≤ 1 <;> simp [h]
 rw [if_neg h0, if_neg h0]
 by_cases h1 : t = 1
 ·
  rw [if_pos h1, if_pos h1]; by_cases h : -2147483648 ≤ v.f0 ∧ v.f0 ≤ 2147483647 <;> simp [h]
 rw [if_neg h1, if_neg h1]
 by_cases h2 : t = 2
 ·
  rw [if_pos h2, if_pos (show t = 2 ∨ t = 5 from .inl h2)]
 rw [if_neg h2]
 by_cases h5 : t = 5
 ·
  rw [if_pos h5, if_pos (show t = 2 ∨ t = 5 from .inr h5)]
 rw [if_neg h5, if_neg (show ¬ (t = 2 ∨ t = 5) by omega)]
 by_cases h6 : t = 6
 ·
  rw [if_pos h6, if_pos h6]; by_cases h : v.f0 = 0 <;> simp [h]
 ·
  rw [if_neg h6, if_neg h6]
theorem spec_ValOk_ev (t : Int) (v : S30) : Ev (fun k => spec_ValOk.f k t v.f0 v.f1) (vOk t v) := by
 refine ⟨2, fun k hk => ?_⟩
 obtain ⟨m, rfl⟩ : ∃ m, k = m + 2 := ⟨k - 2, by omega⟩
 unfold spec_ValOk.f spec_l4Int.f vOk noText
 simp only [l1In_some, Option.bind_some, spec_ValOk.j0]
 by_cases h0 : t = 0
 ·
  rw [if_pos h0, if_pos h0]; by_cases h : 0 ≤ v.f0 ∧ v.f0 ≤ 1 <;> simp [h]
 rw [if_neg h0, if_neg h0]
 by_cases h1 : t = 1
 ·
  rw [if_pos h1, if_pos h1]; by_cases h : -2147483648 ≤ v.f0 ∧ v.f0 ≤ 2147483647 <;> simp [h]
 rw [if_neg h1, if_neg h1]
 by_cases h2 : t = 2
 ·
  rw [if_pos (show t = 2 ∨ t = 5 from .inl h2)]; simp [h2]
 rw [if_neg h2]
 by_cases h5 : t = 5
 ·
  rw [if_pos (show t = 2 ∨ t = 5 from .inr h5)]; simp [h5]
 rw [if_neg (show ¬ (t = 2 ∨ t = 5) by omega)]
 by_cases h6 : t = 6
 ·
  rw [if_pos h6]; by_cases h : v.f0 = 0 <;> simp [h, h6]
 ·
  rw [if_neg h6]; simp [h5, h6]
def Cur (s : List Int) (i : Int) : Prop := 0 ≤ i ∧ i ≤ s.length ∧ s.length ≤ 1048576
theorem l1New_ev (l : List Int) (hl : l.length ≤ 1048576) : ∃ h, Ev (fun k => spec_l1New.f k l) (l, 0, h) := by
 unfold spec_l1New.f
 have key : ∀ (d : Nat) (i h : Int), 0 ≤ i → i + d = l.length → ∃ h', Ev (fun k => spec_l1New.l0 k l h i) (l, 0, h') := by
  intro d
  induction d with
  | zero =>
   intro i h h0 hi
   exact ⟨_, Ev.step (fun k => by rw [spec_l1New.l0]) (by exact Ev.neg (by omega) (Ev.now _))⟩
  | succ d ih =>
   intro i h h0 hi
   by_cases h4 : i < 4000
   ·
    obtain ⟨h', hr⟩ := ih (i + 1) (Go.bits .and .i64 (wrap64 ((wrap64 ((wrap64 (h * 131)) + (wrap64 (rd l i)))) + 7)) 1073741823) (by omega) (by omega)
    refine ⟨h', Ev.step (fun k => by rw [spec_l1New.l0]) (Ev.pos (by omega) (Ev.pos h4 (Ev.pos h0 ?_)))⟩
    rw [wrap64_id (x := i + 1) (by omega) (by omega)]
    exact hr
   ·
    exact ⟨_, Ev.step (fun k => by rw [spec_l1New.l0]) (by exact Ev.pos (by omega) (Ev.neg h4 (Ev.now _)))⟩
 exact key l.length 0 _ (by omega) (by omega)
theorem l1Byte_some (s : List Int) (i h : Int) (hc : Cur s i) : ∃ v i' h', spec_l1Byte.f s i h = some (v, i', h') ∧ 0 ≤ v ∧ v ≤ 255 ∧ Cur s i' := by
 obtain ⟨h0, h1, h2⟩ := hc
 unfold spec_l1Byte.f
 by_cases hlt : i < (s.length : Int)
 ·
  rw [if_pos hlt, if_pos h0]
  refine ⟨_, _, _, rfl, (and_255 _).1, (and_255 _).2, ?_⟩
  rw [wrap64_id (by omega) (by omega)]
  exact ⟨by omega, by omega, h2⟩
 ·
  rw [if_neg hlt]
  exact ⟨_, _, _, rfl, (and_255 _).1, (and_255 _).2, h0, h1, h2⟩
theorem l1Below_some (s : List Int) (i h n : Int) (hc : Cur s i) : ∃ v i' h', spec_l1Below.f s i h n = some (v, i', h') ∧ 0 ≤ v ∧ (0 < n → v < n) ∧ (n ≤ 0 → v = 0) ∧ Cur s i' := by
 unfold spec_l1Below.f
 by_cases hn : n ≤ 0
 ·
  rw [if_pos hn]
  exact ⟨0, i, h, rfl, by omega, by omega, fun _ => rfl, hc⟩
 rw [if_neg hn]
 have hm : ∀ x : Int, 0 ≤ x → 0 ≤ Int.tmod x n ∧ Int.tmod x n < n := fun x hx => by
  rw [Int.tmod_eq_emod_of_nonneg hx]
  exact ⟨Int.emod_nonneg _ (by omega), Int.emod_lt_of_pos _ (by omega)⟩
 by_cases h256 : n ≤ 256
 ·
  rw [if_pos h256]
  obtain ⟨v, i', h', e, v0, v1, hc'⟩ := l1Byte_some s i h hc
  rw [e]
  simp only [Option.bind_some]
  rw [if_neg (by omega)]
  exact ⟨_, _, _, rfl, (hm v v0).1, fun _ => (hm v v0).2, by omega, hc'⟩
 ·
  rw [if_neg h256]
  obtain ⟨a, i1, h1, e1, a0, a1, c1⟩ := l1Byte_some s i h hc
  obtain ⟨b, i2, h2, e2, b0, b1, c2⟩ := l1Byte_some s i1 h1 c1
  obtain ⟨c, i3, h3, e3, c0, c1', c3⟩ := l1Byte_some s i2 h2 c2
  obtain ⟨d, i4, h4, e4, d0, d1, c4⟩ := l1Byte_some s i3 h3 c3
  rw [e1]; simp only [Option.bind_some]; rw [e2]; simp only [Option.bind_some]; rw [e3]; simp only [Option.bind_some]; rw [e4]; simp only [Option.bind_some]
  rw [if_neg (by omega)]
  have hx : 0 ≤ wrap64 ((wrap64 ((wrap64 ((wrap64 (a * 16777216)) + (wrap64 (b * 65536)))) + (wrap64 (c * 256)))) + d) := by
   rw [wrap64_id (x := a * 16777216) (by omega) (by omega), wrap64_id (x := b * 65536) (by omega) (by omega), wrap64_id (x := c * 256) (by omega) (by omega)]
   rw [wrap64_id (x := a * 16777216 + b * 65536) (by omega) (by omega), wrap64_id (x := a * 16777216 + b * 65536 + c * 256) (by omega) (by omega), wrap64_id (by omega) (by omega)]
   omega
  exact ⟨_, _, _, rfl, (hm _ hx).1, fun _ => (hm _ hx).2, by omega, c4⟩
theorem l1Once_some (s : List Int) (i h n : Int) (hc : Cur s i) : ∃ v i' h', spec_l1Once.f s i h n = some (v, i', h') ∧ Cur s i' := by
 unfold spec_l1Once.f
 obtain ⟨v, i', h', e, _, _, _, c⟩ := l1Below_some s i h n hc
 rw [e]
 exact ⟨_, _, _, rfl, c⟩
theorem l1PickInt_some (s : List Int) (i h : Int) (l : List Int) (hc : Cur s i) (hl : 0 < l.length) : ∃ v i' h', spec_l1PickInt.f s i h l = some (v, i', h') ∧ v ∈ l ∧ Cur s i' := by
 unfold spec_l1PickInt.f
 obtain ⟨v, i', h', e, v0, v1, _, c⟩ := l1Below_some s i h (l.length : Int) hc
 rw [e]; simp only [Option.bind_some]
 have := v1 (by omega)
 rw [if_pos v0, if_pos this, rd_eq (by omega)]
 exact ⟨_, _, _, rfl, List.getElem_mem _, c⟩
theorem l1Pick_some (s : List Int) (i h : Int) (l : List ByteArray) (hc : Cur s i) (hl : 0 < l.length) : ∃ v i' h', spec_l1Pick.f s i h l = some (v, i', h') ∧ v ∈ l ∧ Cur s i' := by
 unfold spec_l1Pick.f
 obtain ⟨v, i', h', e, v0, v1, _, c⟩ := l1Below_some s i h (l.length : Int) hc
 rw [e]; simp only [Option.bind_some]
 have := v1 (by omega)
 rw [if_pos v0, if_pos this, rdOf_eq (by omega)]
 exact ⟨_, _, _, rfl, List.getElem_mem _, c⟩
def I64 (x : Int) : Prop := -9223372036854775808 ≤ x ∧ x ≤ 9223372036854775807
theorem I64_wrap (x : Int) : I64 (wrap64 x) := ⟨wrap64_lo x, wrap64_hi x⟩
theorem l2DrawNum_some (s : List Int) (i h : Int) (hc : Cur s i) : ∃ v i' h', spec_l2DrawNum.f s i h = some (v, i', h') ∧ I64 v ∧ Cur s i' := by
 unfold spec_l2DrawNum.f
 obtain ⟨a, i1, h1, e1, a0, a1, _, c1⟩ := l1Below_some s i h 1000000 hc
 obtain ⟨b, i2, h2, e2, b0, b1, _, c2⟩ := l1Below_some s i1 h1 1000000 c1
 obtain ⟨c, i3, h3, e3, c0, c1', _, c3⟩ := l1Below_some s i2 h2 300 c2
 have := a1 (by omega); have := b1 (by omega); have := c1' (by omega)
 obtain ⟨v, i4, h4, e4, hv, c4⟩ := l1PickInt_some s i3 h3 ([0, 1, (-1), 63, 64, (-64), (-65), 127, 128, 16383, 16384, 2147483647, (-2147483648), 9223372036854775807, (-9223372036854775808), 4611686018427387904, a, wrap64 (-b), c] : List Int) c3 (by simp)
 refine ⟨v, i4, h4, ?_, ?_, c4⟩
 ·
  rw [e1]; simp only [Option.bind_some]; rw [e2]; simp only [Option.bind_some]; rw [e3]; simp only [Option.bind_some]; rw [e4]; rfl
 ·
  have w0 := wrap64_lo (-b); have w1 := wrap64_hi (-b)
  simp only [List.mem_cons, List.not_mem_nil, or_false] at hv
  unfold I64; omega
theorem l1DrawBytes_ev (s : List Int) (i h most : Int) (hc : Cur s i) (hm0 : 0 ≤ most) (hm : most ≤ 1000000) : ∃ (l : List Int) (i' h' : Int), Ev (fun k => spec_l1DrawBytes.f k s i h most) (l, i', h') ∧ (l.length : Int) ≤ most ∧ (∀ x ∈ l, 0 ≤ x ∧ x ≤ 255) ∧ Cur s i' := by
 unfold spec_l1DrawBytes.f
 rw [wrap64_id (by omega) (by omega)]
 obtain ⟨n, i1, h1, e1, n0, n1, _, c1⟩ := l1Below_some s i h (most + 1) hc
 have key : ∀ (d : Nat) (out : List Int) (j i h : Int), 0 ≤ j → j + d = n → out.length = j → (∀ x ∈ out, 0 ≤ x ∧ x ≤ 255) → Cur s i →
   ∃ (l : List Int) (i' h' : Int), Ev (fun k => spec_l1DrawBytes.l0 k out n j s i h) (l, i', h') ∧ (l.length : Int) = n ∧ (∀ x ∈ l, 0 ≤ x ∧ x ≤ 255) ∧ Cur s i' := by
  intro d
  induction d with
  | zero =>
   intro out j i h j0 hj ho hx hc
   exact ⟨out, i, h, Ev.step (fun k => by rw [spec_l1DrawBytes.l0]) (by exact Ev.neg (by omega) (Ev.now _)), by omega, hx, hc⟩
  | succ d ih =>
   intro out j i h j0 hj ho hx hc
   obtain ⟨v, i2, h2, e2, v0, v1, c2⟩ := l1Byte_some s i h hc
   obtain ⟨l, i3, h3, hr, hl, hx3, c3⟩ := ih (out ++ [v % 256]) (j + 1) i2 h2 (by omega) (by omega) (by simp; omega) (by
    intro x hx'
    rcases List.mem_append.1 hx' with h | h
    ·
     exact hx x h
    ·
     obtain rfl := List.mem_singleton.1 h
     omega) c2
   refine ⟨l, i3, h3, ?_, hl, hx3, c3⟩
   refine Ev.step (fun k => by rw [spec_l1DrawBytes.l0]) ?_
   refine Ev.pos (by omega) (Ev.here e2 (Ev.pos (by omega) ?_))
   rw [wrap64_id (x := j + 1) (by omega) (by omega)]
   exact hr
 obtain ⟨l, i', h', hr, hl, hx, c⟩ := key n.toNat [] 0 i1 h1 (by omega) (by omega) (by simp) (by simp) c1
 exact ⟨l, i', h', Ev.here e1 hr, by omega, hx, c⟩
theorem l4DrawText_ev (s : List Int) (i h most : Int) (hc : Cur s i) (hm0 : 0 ≤ most) (hm : most ≤ 1000000) : ∃ (t : ByteArray) (i' h' : Int), Ev (fun k => spec_l4DrawText.f k s i h most) (t, i', h') ∧ (t.size : Int) ≤ most ∧ Cur s i' := by
 unfold spec_l4DrawText.f
 obtain ⟨l, i', h', hr, hl, _, c⟩ := l1DrawBytes_ev s i h most hc hm0 hm
 exact ⟨_, _, _, Ev.bind hr (Ev.now _), by rw [strOfNums_size]; exact hl, c⟩
def DrawnV (v : Int) (x : ByteArray) : Prop := I64 v ∧ x.size ≤ 41
theorem DrawnV.num {v : Int} (h : I64 v) : DrawnV v (⟨#[]⟩ : ByteArray) := ⟨h, by decide⟩
theorem l6DrawRight_ev (s : List Int) (i h : Int) (t : Int) (hc : Cur s i) : ∃ v x i' h', Ev (fun k => spec_l6DrawRight.f k s i h t) (v, x, i', h') ∧ DrawnV v x ∧ Cur s i' := by
 unfold spec_l6DrawRight.f
 by_cases h0 : t = 0
 ·
  obtain ⟨v, i1, h1, e1, v0, v1, _, c1⟩ := l1Below_some s i h 2 hc
  have := v1 (by omega)
  exact ⟨_, _, _, _, Ev.pos h0 (Ev.here e1 (Ev.now _)), DrawnV.num (by unfold I64; (try dsimp only); omega), c1⟩
 by_cases h1 : t = 1
 ·
  obtain ⟨o, i1, h1', e1, c1⟩ := l1Once_some s i h 6 hc
  by_cases ho : o = true
  ·
   obtain ⟨v, i2, h2, e2, hv, c2⟩ := l1PickInt_some s i1 h1' ([2147483647, (-2147483648), 0] : List Int) c1 (by simp)
   simp only [List.mem_cons, List.not_mem_nil, or_false] at hv
   exact ⟨_, _, _, _, Ev.neg h0 (Ev.pos h1 (Ev.here e1 (Ev.pos ho (Ev.here e2 (Ev.now _))))), DrawnV.num (by unfold I64; (try dsimp only); omega), c2⟩
  ·
   obtain ⟨v, i2, h2, e2, v0, v1, _, c2⟩ := l1Below_some s i1 h1' 40 c1
   exact ⟨_, _, _, _, Ev.neg h0 (Ev.pos h1 (Ev.here e1 (Ev.neg ho (Ev.here e2 (Ev.now _))))), DrawnV.num (I64_wrap _), c2⟩
 by_cases h6 : t = 6
 ·
  obtain ⟨o, i1, h1', e1, c1⟩ := l1Once_some s i h 3 hc
  by_cases ho : o = true
  ·
   obtain ⟨v, i2, h2, e2, hv, c2⟩ := l1Pick_some s i1 h1' ([(⟨#[]⟩ : ByteArray), (⟨#[97]⟩ : ByteArray), (⟨#[97, 98]⟩ : ByteArray), (⟨#[97, 98, 99]⟩ : ByteArray), (⟨#[97, 98, 100]⟩ : ByteArray), (⟨#[98]⟩ : ByteArray), (⟨#[97, 97]⟩ : ByteArray)] : List ByteArray) c1 (by simp)
   refine ⟨_, _, _, _, Ev.neg h0 (Ev.neg h1 (Ev.pos h6 (Ev.here e1 (Ev.pos ho (Ev.here e2 (Ev.now _)))))), ⟨by unfold I64; (try dsimp only); omega, ?_⟩, c2⟩
   simp only [List.mem_cons, List.not_mem_nil, or_false] at hv
   rcases hv with rfl | rfl | rfl | rfl | rfl | rfl | rfl <;> (dsimp only; decide)
  ·
   obtain ⟨x, i2, h2, e2, hs, c2⟩ := l4DrawText_ev s i1 h1' 6 c1 (by omega) (by omega)
   exact ⟨_, _, _, _, Ev.neg h0 (Ev.neg h1 (Ev.pos h6 (Ev.here e1 (Ev.neg ho (Ev.bind e2 (Ev.now _)))))), ⟨by unfold I64; (try dsimp only); omega, by dsimp only; omega⟩, c2⟩
 by_cases h5 : t = 5
 ·
  obtain ⟨a, i1, h1', e1, a0, a1, _, c1⟩ := l1Below_some s i h 9 hc
  have := a1 (by omega)
  obtain ⟨b, i2, h2, e2, hb, c2⟩ := l2DrawNum_some s i1 h1' c1
  obtain ⟨v, i3, h3, e3, hv, c3⟩ := l1PickInt_some s i2 h2 ([0, (-9223372036854775808), 4607182418800017408, (-4616189618054758400), 9221120237041090560, (-2251799813685248), a, b] : List Int) c2 (by simp)
  simp only [List.mem_cons, List.not_mem_nil, or_false] at hv
  refine ⟨_, _, _, _, Ev.neg h0 (Ev.neg h1 (Ev.neg h6 (Ev.pos h5 (Ev.here e1 (Ev.here e2 (Ev.here e3 (Ev.now _))))))), DrawnV.num ?_, c3⟩
  unfold I64 at *; dsimp only; omega
 ·
  obtain ⟨o, i1, h1', e1, c1⟩ := l1Once_some s i h 2 hc
  by_cases ho : o = true
  ·
   obtain ⟨v, i2, h2, e2, v0, v1, _, c2⟩ := l1Below_some s i1 h1' 30 c1
   exact ⟨_, _, _, _, Ev.neg h0 (Ev.neg h1 (Ev.neg h6 (Ev.neg h5 (Ev.here e1 (Ev.pos ho (Ev.here e2 (Ev.now _))))))), DrawnV.num (I64_wrap _), c2⟩
  ·
   obtain ⟨v, i2, h2, e2, hv, c2⟩ := l2DrawNum_some s i1 h1' c1
   exact ⟨_, _, _, _, Ev.neg h0 (Ev.neg h1 (Ev.neg h6 (Ev.neg h5 (Ev.here e1 (Ev.neg ho (Ev.here e2 (Ev.now _))))))), DrawnV.num hv, c2⟩
def nameOk (b : ByteArray) : Bool := decide (1 ≤ (b.size : Int) ∧ (b.size : Int) ≤ 20) && (List.range b.size).all (fun (i : Nat) => decide (97 ≤ bt b (i : Int) ∧ bt b (i : Int) ≤ 122))
theorem spec_l5Name_ev (b : ByteArray) (hb : b.size ≤ 9223372036854775807) : Ev (fun k => spec_l5Name.f k b) (nameOk b) := by
 unfold spec_l5Name.f nameOk
 refine Ev.here (l1In_some _ _ _) ?_
 by_cases h : 1 ≤ (b.size : Int) ∧ (b.size : Int) ≤ 20
 ·
  rw [decide_eq_true h]
  refine Ev.pos rfl ?_
  have key := all_loop (fun k i => spec_l5Name.l0 k b i) (fun (i : Nat) => decide (97 ≤ bt b (i : Int) ∧ bt b (i : Int) ≤ 122)) b.size false true
   (fun i r hi hp hr => by
    have hp' := of_decide_eq_true hp
    refine Ev.step (fun k => by rw [spec_l5Name.l0]) ?_
    refine Ev.pos (by omega) (Ev.pos (by omega) (Ev.neg (by omega) (Ev.neg (by omega) ?_)))
    rw [wrap64_id (by omega) (by omega)]
    simpa using hr)
   (fun i hi hp => by
    have hp' := of_decide_eq_false hp
    refine Ev.step (fun k => by rw [spec_l5Name.l0]) ?_
    refine Ev.pos (by omega) (Ev.pos (by omega) ?_)
    by_cases h1 : bt b (i : Int) < 97
    ·
     exact Ev.pos h1 (Ev.now _)
    ·
     exact Ev.neg h1 (Ev.pos (by omega) (Ev.now _)))
   (by exact Ev.step (fun k => by rw [spec_l5Name.l0]) (by exact Ev.neg (by omega) (Ev.now _)))
  refine Ev.cast key ?_
  cases (List.range b.size).all _ <;> rfl
 ·
  rw [decide_eq_false h]
  exact Ev.neg (by decide) (Ev.now _)
def colB (root : Bool) (c : S94) : Bool := (if c.f1 = 7 then decide (1 ≤ c.f3) else tOk c.f1 && decide (c.f3 = 0)) && decide (0 ≤ c.f2 ∧ c.f2 ≤ 2) && (root || nameOk c.f0)
def parts (f : Int → Int) (s : List S94) : Nat → Int → List ByteArray → Int
 | 0, next, _ => next
 | n + 1, next, names => if next ≥ (s.length : Int) then -1 else if names.any (fun x => decide (x.toList = (rd_T94 s next).f0.toList)) then -1 else if f next < 0 then -1 else parts f s n (f next) (names ++ [(rd_T94 s next).f0])
def chk (s : List S94) : Nat → Int → Int
 | 0, _ => -1
 | d + 1, p => if p ≥ (s.length : Int) then -1 else if colB (decide (p = 0)) (rd_T94 s p) = true then parts (chk s d) s (rd_T94 s p).f3.toNat (p + 1) [] else -1
theorem parts_range (f : Int → Int) (s : List S94) (hf : ∀ p, 0 ≤ p → f p = -1 ∨ (p < f p ∧ f p ≤ s.length)) : ∀ (n : Nat) (next : Int) (names : List ByteArray), 0 ≤ next → next ≤ s.length → parts f s n next names = -1 ∨ (next ≤ parts f s n next names ∧ parts f s n next names ≤ s.length)
 | 0, next, names, h0, h1 => .inr ⟨by simp [parts], by simp [parts]; exact h1⟩
 | n + 1, next, names, h0, h1 => by
  unfold parts
  split
  ·
   exact .inl rfl
  split
  ·
   exact .inl rfl
  split
  ·
   exact .inl rfl
  ·
   have hn := hf next h0
   have := parts_range f s hf n (f next) (names ++ [(rd_T94 s next).f0]) (by omega) (by omega)
   omega
theorem chk_range (s : List S94) : ∀ (d : Nat) (p : Int), 0 ≤ p → chk s d p = -1 ∨ (p < chk s d p ∧ chk s d p ≤ s.length)
 | 0, p, h => .inl rfl
 | d + 1, p, h => by
  unfold chk
  split
  ·
   exact .inl rfl
  split
  ·
   have := parts_range (chk s d) s (fun q hq => chk_range s d q hq) (rd_T94 s p).f3.toNat (p + 1) [] (by omega) (by omega)
   omega
  ·
   exact .inl rfl
def ColsOk (s : List S94) : Prop := s.length ≤ 1048576 ∧ (∀ i : Int, (rd_T94 s i).f0.size ≤ 9223372036854775807) ∧ (∀ i : Int, (rd_T94 s i).f3 ≤ 9223372036854775807)
def rootB (c : S94) : Bool := decide (c.f1 = 7) && decide (c.f2 = 0) && decide (c.f0.toList = ([] : List UInt8))
theorem spec_l5Check_ev (s : List S94) (hs : ColsOk s) : ∀ (d : Nat) (p : Int), d ≤ 7 → 0 ≤ p → p ≤ s.length → Ev (fun k => spec_l5Check.f k s p (7 - (d : Int))) (if p = 0 ∧ rootB (rd_T94 s p) = false then -1 else chk s d p) := by
 obtain ⟨hl, hn, hm⟩ := hs
 have bad : ∀ p dd, Ev (fun k => spec_l5Check.j0 k s p dd true) (-1) := fun p dd => Ev.step (fun k => by rw [spec_l5Check.j0]) (by exact Ev.pos rfl (Ev.now _))
 intro d
 induction d with
 | zero =>
  intro p _ h0 h1
  refine Ev.step (fun k => by rw [spec_l5Check.f]) ?_
  have e : (if p = 0 ∧ rootB (rd_T94 s p) = false then -1 else chk s 0 p) = -1 := by split <;> rfl
  rw [e]
  by_cases h : p ≥ (s.length : Int)
  ·
   exact Ev.pos h (bad _ _)
  ·
   refine Ev.neg h ?_
   have : decide (7 - ((0 : Nat) : Int) > 6) = true := by decide
   rw [this]; exact bad _ _
 | succ d ih =>
  intro p hd h0 h1
  refine Ev.step (fun k => by rw [spec_l5Check.f]) ?_
  by_cases h : p ≥ (s.length : Int)
  ·
   have e : (if p = 0 ∧ rootB (rd_T94 s p) = false then -1 else chk s (d + 1) p) = -1 := by
    split
    ·
     rfl
    ·
     unfold chk; rw [if_pos h]
   rw [e]; exact Ev.pos h (bad _ _)
  refine Ev.neg h ?_
  have hdd : decide (7 - ((d + 1 : Nat) : Int) > 6) = false := decide_eq_false (by omega)
  rw [hdd]
  refine Ev.step (fun k => by rw [spec_l5Check.j0]) ?_
  refine Ev.neg (by decide) (Ev.pos h0 (Ev.pos (by omega) ?_))
  have inner : ∀ (n : Nat) (i next : Int) (names : List ByteArray), i + n = (rd_T94 s p).f3 → 0 ≤ i → 0 < next → next ≤ s.length → (names.length : Int) ≤ next →
    Ev (fun k => spec_l5Check.l0 k s (7 - ((d + 1 : Nat) : Int)) next names i (rd_T94 s p).f0 (rd_T94 s p).f1 (rd_T94 s p).f2 (rd_T94 s p).f3) (parts (chk s d) s n next names) := by
   intro n
   induction n with
   | zero =>
    intro i next names hi i0 n0 n1 nl
    exact Ev.step (fun k => by rw [spec_l5Check.l0]) (by exact Ev.neg (by omega) (Ev.now _))
   | succ n ihn =>
    intro i next names hi i0 n0 n1 nl
    refine Ev.step (fun k => by rw [spec_l5Check.l0]) ?_
    unfold parts
    refine Ev.pos (by omega) ?_
    by_cases hx : next ≥ (s.length : Int)
    ·
     rw [if_pos hx]; exact Ev.pos hx (Ev.now _)
    rw [if_neg hx]
    refine Ev.neg hx ?_
    have rest : ∀ (m j : Nat), j + m = names.length → Ev (fun k => spec_l5Check.l1 k s (7 - ((d + 1 : Nat) : Int)) next names i (j : Int) (rd_T94 s p).f0 (rd_T94 s p).f1 (rd_T94 s p).f2 (rd_T94 s p).f3)
      (if (names.drop j).any (fun x => decide (x.toList = (rd_T94 s next).f0.toList)) then -1 else if chk s d next < 0 then -1 else parts (chk s d) s n (chk s d next) (names ++ [(rd_T94 s next).f0])) := by
     intro m
     induction m with
     | zero =>
      intro j hj
      rw [List.drop_eq_nil_of_le (by omega)]
      rw [if_neg (by simp)]
      refine Ev.step (fun k => by rw [spec_l5Check.l1]) ?_
      refine Ev.neg (by omega) (Ev.pos (by omega) (Ev.pos (by omega) (Ev.pos (by omega) ?_)))
      have e : wrap64 (7 - ((d + 1 : Nat) : Int) + 1) = 7 - (d : Int) := by rw [wrap64_id (by omega) (by omega)]; omega
      rw [e]
      have hih := ih next (by omega) (by omega) n1
      rw [if_neg (by omega)] at hih
      refine Ev.bind hih ?_
      have hr := chk_range s d next (by omega)
      by_cases hneg : chk s d next < 0
      ·
       rw [if_pos hneg]; exact Ev.pos hneg (Ev.now _)
      ·
       rw [if_neg hneg]
       refine Ev.neg hneg ?_
       have hmm := hm p
       rw [wrap64_id (x := i + 1) (by omega) (by omega)]
       exact ihn (i + 1) (chk s d next) (names ++ [(rd_T94 s next).f0]) (by omega) (by omega) (by omega) (by omega) (by simp; omega)
     | succ m ihm =>
      intro j hj
      have hjl : j < names.length := by omega
      have ed : names.drop j = names[j] :: names.drop (j + 1) := List.drop_eq_getElem_cons hjl
      refine Ev.step (fun k => by rw [spec_l5Check.l1]) ?_
      refine Ev.pos (by omega) (Ev.pos (by omega) (Ev.pos (by omega) (Ev.pos (by omega) ?_)))
      rw [rdOf_eq (by omega)]
      have ej : names[((j : Int)).toNat]'(by omega) = names[j] := rfl
      rw [ej, ed, List.any_cons]
      by_cases he : (names[j]).toList = (rd_T94 s next).f0.toList
      ·
       rw [decide_eq_true he]; exact Ev.pos he (Ev.now _)
      ·
       rw [decide_eq_false he]
       refine Ev.neg he ?_
       rw [wrap64_id (x := (j : Int) + 1) (by omega) (by omega)]
       exact ihm (j + 1) (by omega)
    exact rest names.length 0 (by omega)
  -- what stands behind the checks of the name and of the kind of repetition
  have hx : ∀ b : Bool, (!b) = (decide (0 ≤ (rd_T94 s p).f2 ∧ (rd_T94 s p).f2 ≤ 2) && (decide (p = 0) || nameOk (rd_T94 s p).f0)) → Ev (fun k => spec_l5Check.j1 k s p (7 - ((d + 1 : Nat) : Int)) b (rd_T94 s p).f0 (rd_T94 s p).f1 (rd_T94 s p).f2 (rd_T94 s p).f3) (chk s (d + 1) p) := by
   intro b hb
   unfold chk
   rw [if_neg h]
   refine Ev.step (fun k => by rw [spec_l5Check.j1]) ?_
   unfold colB
   rw [Bool.and_assoc, ← hb]
   cases b with
   | true => rw [Bool.not_true, Bool.and_false, if_neg (show ¬ (false = true) by decide)]; exact Ev.pos rfl (Ev.now _)
   | false =>
    rw [Bool.not_false, Bool.and_true]
    refine Ev.neg (by decide) ?_
    by_cases h7 : (rd_T94 s p).f1 = 7
    ·
     refine Ev.pos h7 ?_
     rw [if_pos h7]
     by_cases h3 : (rd_T94 s p).f3 < 1
     ·
      rw [decide_eq_false (show ¬ 1 ≤ (rd_T94 s p).f3 by omega), if_neg (show ¬ (false = true) by decide)]; exact Ev.pos h3 (Ev.now _)
     ·
      rw [decide_eq_true (show 1 ≤ (rd_T94 s p).f3 by omega), if_pos (show true = true from rfl)]
      refine Ev.neg h3 ?_
      rw [wrap64_id (x := p + 1) (by omega) (by omega)]
      exact inner (rd_T94 s p).f3.toNat 0 (p + 1) [] (by omega) (by omega) (by omega) (by omega) (by simp; omega)
    ·
     refine Ev.neg h7 (Ev.here (l5Type_some _) ?_)
     rw [if_neg h7]
     cases ht : tOk (rd_T94 s p).f1 with
     | false => exact Ev.neg (show ¬ (false = true) by decide) (Ev.const rfl)
     | true =>
      refine Ev.pos rfl ?_
      by_cases h3 : (rd_T94 s p).f3 = 0
      ·
       rw [decide_eq_true h3, if_pos (show (true && true) = true from rfl), h3]
       refine Ev.pos rfl (Ev.const ?_)
       rw [wrap64_id (x := p + 1) (by omega) (by omega)]; rfl
      ·
       rw [decide_eq_false h3, if_neg (show ¬ ((true && false) = true) by decide)]; exact Ev.neg h3 (Ev.now _)
  by_cases hp0 : p = 0
  ·
   refine Ev.pos hp0 ?_
   have hbad : rootB (rd_T94 s p) = false → Ev (fun k => spec_l5Check.j1 k s p (7 - ((d + 1 : Nat) : Int)) true (rd_T94 s p).f0 (rd_T94 s p).f1 (rd_T94 s p).f2 (rd_T94 s p).f3) (if p = 0 ∧ rootB (rd_T94 s p) = false then -1 else chk s (d + 1) p) := fun hr => by
    rw [if_pos ⟨hp0, hr⟩]
    exact Ev.step (fun k => by rw [spec_l5Check.j1]) (by exact Ev.pos rfl (Ev.now _))
   by_cases r1 : (rd_T94 s p).f0.toList = ([] : List UInt8)
   ·
    refine Ev.pos r1 ?_
    by_cases r2 : (rd_T94 s p).f2 = 0
    ·
     refine Ev.pos r2 ?_
     by_cases r3 : (rd_T94 s p).f1 = 7
     ·
      refine Ev.pos r3 (Ev.neg (by omega) (Ev.here (l1In_some _ _ _) ?_))
      have hr : rootB (rd_T94 s p) = true := by unfold rootB; rw [decide_eq_true r1, decide_eq_true r2, decide_eq_true r3]; rfl
      rw [if_neg (by rw [hr]; simp)]
      exact hx _ (by rw [decide_eq_true hp0]; simp)
     ·
      exact Ev.neg r3 (hbad (by unfold rootB; rw [decide_eq_false r3]; simp))
    ·
     exact Ev.neg r2 (hbad (by unfold rootB; rw [decide_eq_false r2]; simp))
   ·
    exact Ev.neg r1 (hbad (by unfold rootB; rw [decide_eq_false r1]; simp))
  ·
   rw [if_neg (by omega)]
   refine Ev.neg hp0 (Ev.pos (by omega) (Ev.bind (spec_l5Name_ev _ (hn p)) ?_))
   cases hnm : nameOk (rd_T94 s p).f0 with
   | true =>
    refine Ev.pos rfl (Ev.here (l1In_some _ _ _) ?_)
    exact hx _ (by rw [hnm]; simp)
   | false => exact Ev.neg (by decide) (hx true (by rw [hnm, decide_eq_false hp0]; simp))
def schOk (s : List S94) : Bool := decide (2 ≤ (s.length : Int) ∧ (s.length : Int) ≤ 20) && rootB (rd_T94 s 0) && decide (chk s 6 0 = (s.length : Int))
theorem spec_SchemaOk_ev (s : List S94) (hs : ColsOk s) : Ev (fun k => spec_SchemaOk.f k s) (schOk s) := by
 unfold spec_SchemaOk.f schOk
 refine Ev.here (l1In_some _ _ _) ?_
 by_cases h : 2 ≤ (s.length : Int) ∧ (s.length : Int) ≤ 20
 ·
  rw [decide_eq_true h]
  refine Ev.pos rfl (Ev.bind (spec_l5Check_ev s hs 6 0 (by omega) (by omega) (by omega)) (Ev.const ?_))
  cases hr : rootB (rd_T94 s 0) with
  | false =>
   rw [if_pos ⟨rfl, rfl⟩]
   have : ((-1 : Int) == (s.length : Int)) = false := by simp
   rw [this]; rfl
  | true =>
   rw [if_neg (by simp)]
   rfl
 ·
  rw [decide_eq_false h]
  exact Ev.neg (by decide) (Ev.now _)
def lvStep (s : List S94) (i : Nat) (out : List Int) : List Int := if (rd_T94 s (i : Int)).f1 = 7 then out else out ++ [(i : Int)]
def lvs (s : List S94) (n : Nat) : List Int := (List.range n).foldl (fun out i => lvStep s i out) []
theorem lvStep_length (s : List S94) (i : Nat) (out : List Int) : (lvStep s i out).length ≤ out.length + 1 := by
 unfold lvStep; split <;> simp
theorem lvs_length (s : List S94) (n : Nat) : (lvs s n).length ≤ n := by
 induction n with
 | zero => simp [lvs]
 | succ n ih =>
  unfold lvs at ih ⊢
  rw [List.range_succ, List.foldl_append]
  simp only [List.foldl_cons, List.foldl_nil]
  have := lvStep_length s n ((List.range n).foldl (fun out i => lvStep s i out) [])
  omega
theorem lvs_mem (s : List S94) (n : Nat) : ∀ x ∈ lvs s n, 0 ≤ x ∧ x < n ∧ (rd_T94 s x).f1 ≠ 7 := by
 induction n with
 | zero => intro x hx; simp [lvs] at hx
 | succ n ih =>
  intro x hx
  unfold lvs at hx ih
  rw [List.range_succ, List.foldl_append] at hx
  simp only [List.foldl_cons, List.foldl_nil] at hx
  generalize (List.range n).foldl (fun out i => lvStep s i out) [] = q at hx ih
  unfold lvStep at hx
  split at hx
  ·
   have := ih x hx; omega
  ·
   rename_i h7
   rcases List.mem_append.1 hx with h | h
   ·
    have := ih x h; exact ⟨this.1, by omega, this.2.2⟩
   ·
    obtain rfl := List.mem_singleton.1 h
    exact ⟨by omega, by omega, h7⟩
theorem spec_l5Leaves_ev (s : List S94) (hs : s.length ≤ 1048576) : Ev (fun k => spec_l5Leaves.f k s) (lvs s s.length) := by
 unfold spec_l5Leaves.f
 refine loop_inv (fun k out i => spec_l5Leaves.l0 k s out i) (fun i out => lvStep s i out) s.length _ (fun i out => out.length ≤ i) [] (by simp) (fun i out hi ho => by have := lvStep_length s i out; omega) (fun i out hi ho hr => ?_) (fun out ho he => ?_)
 ·
  have e : ((i + 1 : Nat) : Int) = (i : Int) + 1 := by push_cast; rfl
  rw [e] at hr
  refine Ev.step (fun k => by rw [spec_l5Leaves.l0]) ?_
  refine Ev.pos (by omega) (Ev.pos (by omega) ?_)
  rw [wrap64_id (x := (i : Int) + 1) (by omega) (by omega)]
  unfold lvStep at hr
  by_cases h7 : (rd_T94 s (i : Int)).f1 = 7
  ·
   rw [if_pos h7] at hr; exact Ev.pos h7 hr
  ·
   rw [if_neg h7] at hr; exact Ev.neg h7 (Ev.pos (by omega) hr)
 ·
  refine Ev.step (fun k => by rw [spec_l5Leaves.l0]) ?_
  refine Ev.neg (by omega) (Ev.const ?_)
  rw [he]; rfl
def leaves (s : List S94) : List Int := if schOk s = true then lvs s s.length else []
theorem spec_SchemaLeaves_ev (s : List S94) (hs : ColsOk s) : Ev (fun k => spec_SchemaLeaves.f k s) (leaves s) := by
 unfold spec_SchemaLeaves.f leaves
 refine Ev.bind (spec_SchemaOk_ev s hs) ?_
 cases schOk s with
 | true => exact Ev.pos rfl (Ev.bind (spec_l5Leaves_ev s hs.1) (Ev.now _))
 | false => exact Ev.neg (by decide) (Ev.now _)
theorem leaves_length (s : List S94) : (leaves s).length ≤ s.length := by
 unfold leaves; split
 ·
  exact lvs_length s _
 ·
  simp
theorem parts_mono (f g : Int → Int) (s : List S94) (hr : ∀ p, 0 ≤ p → f p = -1 ∨ (p < f p ∧ f p ≤ s.length)) (hg : ∀ p, 0 ≤ p → f p ≠ -1 → g p = f p) :
  ∀ (n : Nat) (next : Int) (names : List ByteArray), 0 ≤ next → parts f s n next names ≠ -1 → parts g s n next names = parts f s n next names
 | 0, _, _, _, _ => rfl
 | n + 1, next, names, h0, h => by
  unfold parts at h ⊢
  by_cases h1 : next ≥ (s.length : Int)
  ·
   rw [if_pos h1, if_pos h1]
  rw [if_neg h1] at h
  rw [if_neg h1, if_neg h1]
  by_cases h2 : names.any (fun x => decide (x.toList = (rd_T94 s next).f0.toList)) = true
  ·
   rw [if_pos h2, if_pos h2]
  rw [if_neg h2] at h
  rw [if_neg h2, if_neg h2]
  by_cases h3 : f next < 0
  ·
   rw [if_pos h3] at h; exact absurd rfl h
  rw [if_neg h3] at h
  have e := hg next h0 (by omega)
  rw [e, if_neg h3, if_neg h3]
  have := hr next h0
  exact parts_mono f g s hr hg n (f next) _ (by omega) h
theorem chk_mono (s : List S94) : ∀ (d : Nat) (p : Int), 0 ≤ p → chk s d p ≠ -1 → chk s (d + 1) p = chk s d p
 | 0, p, h0, h => absurd rfl h
 | d + 1, p, h0, h => by
  rw [chk] at h ⊢
  rw [show chk s (d + 1) p = if p ≥ (s.length : Int) then -1 else if colB (decide (p = 0)) (rd_T94 s p) = true then parts (chk s d) s (rd_T94 s p).f3.toNat (p + 1) [] else -1 from rfl]
  by_cases h1 : p ≥ (s.length : Int)
  ·
   rw [if_pos h1, if_pos h1]
  rw [if_neg h1] at h
  rw [if_neg h1, if_neg h1]
  by_cases h2 : colB (decide (p = 0)) (rd_T94 s p) = true
  ·
   rw [if_pos h2] at h
   rw [if_pos h2, if_pos h2]
   exact parts_mono (chk s d) (chk s (d + 1)) s (fun q hq => chk_range s d q hq) (fun q hq hn => chk_mono s d q hq hn) _ _ _ (by omega) h
  ·
   rw [if_neg h2, if_neg h2]
def en (s : List S94) (p : Int) : Int := chk s 6 p
theorem chk_en (s : List S94) (p : Int) (h0 : 0 ≤ p) : ∀ (m d : Nat), d + m = 6 → chk s d p ≠ -1 → en s p = chk s d p := by
 intro m
 induction m with
 | zero => intro d hd h; (obtain rfl : d = 6 := (by omega)); rfl
 | succ m ih =>
  intro d hd h
  have := chk_mono s d p h0 h
  rw [← this]
  exact ih (d + 1) (by omega) (by rw [this]; exact h)
theorem parts_inside (f : Int → Int) (s : List S94) (hr : ∀ p, 0 ≤ p → f p = -1 ∨ (p < f p ∧ f p ≤ s.length)) (hi : ∀ p, 0 ≤ p → f p ≠ -1 → ∀ q, p ≤ q → q < f p → en s q ≠ -1 ∧ en s q ≤ f p) :
  ∀ (n : Nat) (next : Int) (names : List ByteArray), 0 ≤ next → parts f s n next names ≠ -1 → ∀ q, next ≤ q → q < parts f s n next names → en s q ≠ -1 ∧ en s q ≤ parts f s n next names
 | 0, next, _, _, _, q, h1, h2 => by unfold parts at h2; omega
 | n + 1, next, names, h0, h, q, hq1, hq2 => by
  rw [parts] at h hq2 ⊢
  by_cases h1 : next ≥ (s.length : Int)
  ·
   rw [if_pos h1] at h; exact absurd rfl h
  rw [if_neg h1] at h hq2 ⊢
  by_cases h2 : names.any (fun x => decide (x.toList = (rd_T94 s next).f0.toList)) = true
  ·
   rw [if_pos h2] at h; exact absurd rfl h
  rw [if_neg h2] at h hq2 ⊢
  by_cases h3 : f next < 0
  ·
   rw [if_pos h3] at h; exact absurd rfl h
  rw [if_neg h3] at h hq2 ⊢
  have hn := hr next h0
  have hpr := parts_range f s hr n (f next) (names ++ [(rd_T94 s next).f0]) (by omega) (by omega)
  by_cases h4 : q < f next
  ·
   have := hi next h0 (by omega) q hq1 h4
   exact ⟨this.1, by omega⟩
  ·
   exact parts_inside f s hr hi n (f next) _ (by omega) h q (by omega) hq2
theorem chk_inside (s : List S94) : ∀ (d : Nat), d ≤ 6 → ∀ (p : Int), 0 ≤ p → chk s d p ≠ -1 → ∀ q, p ≤ q → q < chk s d p → en s q ≠ -1 ∧ en s q ≤ chk s d p
 | 0, _, p, h0, h, _, _, _ => absurd rfl h
 | d + 1, hd, p, h0, h, q, hq1, hq2 => by
  by_cases e : q = p
  ·
   have := chk_en s p h0 (6 - (d + 1)) (d + 1) (by omega) h
   rw [e, this]; exact ⟨h, Int.le_refl _⟩
  rw [chk] at h hq2 ⊢
  by_cases h1 : p ≥ (s.length : Int)
  ·
   rw [if_pos h1] at h; exact absurd rfl h
  rw [if_neg h1] at h hq2 ⊢
  by_cases h2 : colB (decide (p = 0)) (rd_T94 s p) = true
  ·
   rw [if_pos h2] at h hq2 ⊢
   exact parts_inside (chk s d) s (fun q hq => chk_range s d q hq) (fun r hr hn => chk_inside s d (by omega) r hr hn) _ _ _ (by omega) h q (by omega) hq2
  ·
   rw [if_neg h2] at h; exact absurd rfl h
theorem spec_l5After_ev (s : List S94) (hs : ColsOk s) : ∀ (d : Nat) (p : Int), 0 ≤ p → chk s d p ≠ -1 → Ev (fun k => spec_l5After.f k s p) (chk s d p)
 | 0, p, h0, h => absurd rfl h
 | d + 1, p, h0, h => by
  rw [chk] at h ⊢
  by_cases h1 : p ≥ (s.length : Int)
  ·
   rw [if_pos h1] at h; exact absurd rfl h
  rw [if_neg h1] at h ⊢
  by_cases h2 : colB (decide (p = 0)) (rd_T94 s p) = true
  ·
   rw [if_pos h2] at h ⊢
   have hl := hs.1
   have hm := hs.2.2 p
   have hm0 : 0 ≤ (rd_T94 s p).f3 := by
    unfold colB at h2
    by_cases h7 : (rd_T94 s p).f1 = 7
    ·
     rw [if_pos h7] at h2; simp at h2; omega
    ·
     rw [if_neg h7] at h2; simp at h2; omega
   refine Ev.step (fun k => by rw [spec_l5After.f]) ?_
   rw [wrap64_id (x := p + 1) (by omega) (by omega)]
   have key : ∀ (n : Nat) (i next : Int) (names : List ByteArray), i + n = (rd_T94 s p).f3 → 0 ≤ i → 0 ≤ next → parts (chk s d) s n next names ≠ -1 → Ev (fun k => spec_l5After.l0 k s p next i) (parts (chk s d) s n next names) := by
    intro n
    induction n with
    | zero =>
     intro i next names hi i0 n0 hp
     refine Ev.step (fun k => by rw [spec_l5After.l0]) ?_
     exact Ev.pos h0 (Ev.pos (by omega) (Ev.neg (by omega) (Ev.now _)))
    | succ n ih =>
     intro i next names hi i0 n0 hp
     refine Ev.step (fun k => by rw [spec_l5After.l0]) ?_
     rw [parts] at hp ⊢
     by_cases g1 : next ≥ (s.length : Int)
     ·
      rw [if_pos g1] at hp; exact absurd rfl hp
     rw [if_neg g1] at hp ⊢
     by_cases g2 : names.any (fun x => decide (x.toList = (rd_T94 s next).f0.toList)) = true
     ·
      rw [if_pos g2] at hp; exact absurd rfl hp
     rw [if_neg g2] at hp ⊢
     by_cases g3 : chk s d next < 0
     ·
      rw [if_pos g3] at hp; exact absurd rfl hp
     rw [if_neg g3] at hp ⊢
     refine Ev.pos h0 (Ev.pos (by omega) (Ev.pos (by omega) (Ev.bind (spec_l5After_ev s hs d next n0 (by omega)) ?_)))
     rw [wrap64_id (x := i + 1) (by omega) (by omega)]
     exact ih (i + 1) (chk s d next) _ (by omega) (by omega) (by omega) hp
   exact key _ 0 (p + 1) [] (by omega) (by omega) (by omega) h
  ·
   rw [if_neg h2] at h; exact absurd rfl h
theorem schOk_parts {s : List S94} (h : schOk s = true) : 2 ≤ (s.length : Int) ∧ (s.length : Int) ≤ 20 ∧ rootB (rd_T94 s 0) = true ∧ chk s 6 0 = (s.length : Int) := by
 unfold schOk at h
 simp only [Bool.and_eq_true, decide_eq_true_eq] at h
 exact ⟨h.1.1.1, h.1.1.2, h.1.2, h.2⟩
theorem en_ok {s : List S94} (h : schOk s = true) (q : Int) (h0 : 0 ≤ q) (h1 : q < s.length) : en s q ≠ -1 ∧ q < en s q ∧ en s q ≤ s.length := by
 obtain ⟨_, _, _, h4⟩ := schOk_parts h
 have := chk_inside s 6 (by omega) 0 (by omega) (by omega) q h0 (by omega)
 have hr := chk_range s 6 q h0
 unfold en at this ⊢
 exact ⟨this.1, by omega, by omega⟩
def wayF (s : List S94) (pos : Int) : Nat → List Int
 | 0 => []
 | d + 1 => if en s (pos - d) > pos then (pos - d) :: wayF s pos d else wayF s pos d
theorem wayF_mem (s : List S94) (pos : Int) : ∀ (d : Nat), ∀ x ∈ wayF s pos d, pos - d < x ∧ x ≤ pos
 | 0, x, h => by simp [wayF] at h
 | d + 1, x, h => by
  unfold wayF at h
  split at h
  ·
   rcases List.mem_cons.1 h with rfl | h
   ·
    omega
   ·
    have := wayF_mem s pos d x h; omega
  ·
   have := wayF_mem s pos d x h; omega
theorem wayF_length (s : List S94) (pos : Int) : ∀ (d : Nat), (wayF s pos d).length ≤ d
 | 0 => by simp [wayF]
 | d + 1 => by
  have := wayF_length s pos d
  unfold wayF
  split
  ·
   simp; exact this
  ·
   omega
theorem spec_l5Way_ev (s : List S94) (hs : ColsOk s) (hk : schOk s = true) (pos : Nat) (hp : pos < s.length) : Ev (fun k => spec_l5Way.f k s (pos : Int)) (wayF s pos (pos + 1)) := by
 obtain ⟨_, hl, _, _⟩ := schOk_parts hk
 unfold spec_l5Way.f
 have key : ∀ (d : Nat) (q : Int) (out : List Int), q + d = pos + 1 → 0 ≤ q → (out.length : Int) ≤ q → Ev (fun k => spec_l5Way.l0 k s (pos : Int) out q) (out ++ wayF s pos d) := by
  intro d
  induction d with
  | zero =>
   intro q out hq h0 ho
   refine Ev.step (fun k => by rw [spec_l5Way.l0]) ?_
   exact Ev.neg (by omega) (Ev.const (by simp [wayF]))
  | succ d ih =>
   intro q out hq h0 ho
   obtain ⟨e1, e2, e3⟩ := en_ok hk q h0 (by omega)
   have eq : (pos : Int) - d = q := by omega
   refine Ev.step (fun k => by rw [spec_l5Way.l0]) ?_
   refine Ev.pos (by omega) (Ev.bind (spec_l5After_ev s hs 6 q h0 e1) ?_)
   rw [wrap64_id (x := q + 1) (by omega) (by omega)]
   unfold wayF
   rw [eq]
   by_cases h : en s q > pos
   ·
    rw [if_pos h]
    have := ih (q + 1) (out ++ [q]) (by omega) (by omega) (by simp; omega)
    rw [List.append_assoc, List.singleton_append] at this
    exact Ev.pos h (Ev.pos (by omega) this)
   ·
    rw [if_neg h]
    exact Ev.neg h (ih (q + 1) out (by omega) (by omega) (by omega))
 have := key (pos + 1) 0 [] (by omega) (by omega) (by simp)
 simpa using this
def mstep (s : List S94) (st : Int × Int) (q : Int) : Int × Int := if (rd_T94 s q).f2 = 0 then st else if (rd_T94 s q).f2 = 2 then (wrap64 (st.1 + 1), wrap64 (st.2 + 1)) else (wrap64 (st.1 + 1), st.2)
theorem spec_max_loop (s : List S94) (ws : List Int) (hw : ∀ x ∈ ws, 0 ≤ x ∧ x < s.length) (hl : ws.length ≤ 1048576) : ∀ (d i : Nat) (st : Int × Int), i + d = ws.length → Ev (fun k => spec_l5Max.l0 k s st.1 st.2 ws (i : Int)) ((ws.drop i).foldl (mstep s) st) := by
 intro d
 induction d with
 | zero =>
  intro i st hi
  rw [List.drop_eq_nil_of_le (by omega)]
  exact Ev.step (fun k => by rw [spec_l5Max.l0]) (by exact Ev.neg (by omega) (Ev.now _))
 | succ d ih =>
  intro i st hi
  have hil : i < ws.length := by omega
  rw [List.drop_eq_getElem_cons hil, List.foldl_cons]
  have he : rd ws (i : Int) = ws[i] := rd_eq (by omega)
  have hb := hw ws[i] (List.getElem_mem _)
  have := ih (i + 1) (mstep s st ws[i]) (by omega)
  refine Ev.step (fun k => by rw [spec_l5Max.l0]) ?_
  rw [he, wrap64_id (x := (i : Int) + 1) (by omega) (by omega)]
  refine Ev.pos (by omega) (Ev.pos (by omega) (Ev.pos hb.1 (Ev.pos hb.2 ?_)))
  generalize (ws.drop (i + 1)).foldl (mstep s) (mstep s st ws[i]) = R at this ⊢
  unfold mstep at this
  by_cases h0 : (rd_T94 s ws[i]).f2 = 0
  ·
   rw [if_pos h0] at this
   exact Ev.pos h0 (Ev.neg (by omega) (by simpa using this))
  ·
   rw [if_neg h0] at this
   refine Ev.neg h0 ?_
   by_cases h2 : (rd_T94 s ws[i]).f2 = 2
   ·
    rw [if_pos h2] at this; exact Ev.pos h2 (by simpa using this)
   ·
    rw [if_neg h2] at this; exact Ev.neg h2 (by simpa using this)
def leafMx (s : List S94) (pos : Int) : Int × Int := (wayF s pos pos.toNat).foldl (mstep s) (0, 0)
def leafR (s : List S94) (i : Int) : Int × Int × Int × Bool :=
 if 0 ≤ i ∧ i < (leaves s).length then ((rd_T94 s (rd (leaves s) i)).f1, (leafMx s (rd (leaves s) i)).2, (leafMx s (rd (leaves s) i)).1, true) else (0, 0, 0, false)
theorem leaf_pos {s : List S94} {i : Int} (h0 : 0 ≤ i) (h1 : i < (leaves s).length) : ∃ pos : Nat, rd (leaves s) i = (pos : Int) ∧ pos < s.length ∧ 0 < pos ∧ schOk s = true := by
 have hk : schOk s = true := by
  unfold leaves at h1
  split at h1
  ·
   assumption
  ·
   simp at h1; omega
 have hm : rd (leaves s) i ∈ leaves s := by rw [rd_eq (by omega)]; exact List.getElem_mem _
 have hm2 : rd (leaves s) i ∈ lvs s s.length := by
  have e : leaves s = lvs s s.length := by unfold leaves; rw [if_pos hk]
  rw [e] at hm ⊢; exact hm
 obtain ⟨m0, m1, m7⟩ := lvs_mem s s.length _ hm2
 obtain ⟨_, _, hr, _⟩ := schOk_parts hk
 have hne : rd (leaves s) i ≠ 0 := by
  intro e
  rw [e] at m7
  unfold rootB at hr
  simp only [Bool.and_eq_true, decide_eq_true_eq] at hr
  exact m7 hr.1.1
 exact ⟨(rd (leaves s) i).toNat, by omega, by omega, by omega, hk⟩
theorem wayF_pos (s : List S94) (hk : schOk s = true) (pos : Nat) (hp : pos < s.length) (h0 : 0 < pos) : wayF s pos (pos + 1) = 0 :: wayF s pos pos ∧ wayF s pos pos ≠ [] := by
 obtain ⟨_, _, _, h4⟩ := schOk_parts hk
 refine ⟨?_, ?_⟩
 ·
  rw [wayF, if_pos (by rw [show (pos : Int) - pos = 0 by omega]; unfold en; omega)]
  rw [show (pos : Int) - pos = 0 by omega]
 ·
  have key : ∀ d : Nat, d ≤ pos → 1 ≤ d → wayF s pos d ≠ [] := by
   intro d
   induction d with
   | zero => intro _ h; omega
   | succ d ih =>
    intro hd _
    rw [wayF]
    by_cases hd0 : d = 0
    ·
     subst hd0
     have := en_ok hk (pos : Int) (by omega) (by omega)
     rw [if_pos (by rw [show (pos : Int) - (0 : Nat) = pos by omega]; omega)]; simp
    ·
     split
     ·
      simp
     ·
      exact ih (by omega) (by omega)
  exact key pos (Nat.le_refl _) h0
theorem spec_l5Max_ev (s : List S94) (hs : ColsOk s) (hk : schOk s = true) (pos : Nat) (hp : pos < s.length) (h0 : 0 < pos) : Ev (fun k => spec_l5Max.f k s (pos : Int)) (leafMx s pos) := by
 obtain ⟨hl2, hl, hr, _⟩ := schOk_parts hk
 unfold spec_l5Max.f
 refine Ev.bind (spec_l5Way_ev s hs hk pos hp) ?_
 obtain ⟨w1, _⟩ := wayF_pos s hk pos hp h0
 rw [w1]
 have hlen := wayF_length s pos pos
 have := spec_max_loop s (0 :: wayF s pos pos) (fun x hx => by
  rcases List.mem_cons.1 hx with rfl | h
  ·
   omega
  ·
   have := wayF_mem s pos pos x h; omega) (by simp; omega) (0 :: wayF s pos pos).length 0 (0, 0) (by omega)
 refine Ev.cast this ?_
 rw [List.drop_zero, List.foldl_cons]
 have e : mstep s (0, 0) 0 = (0, 0) := by
  unfold rootB at hr
  simp only [Bool.and_eq_true, decide_eq_true_eq] at hr
  unfold mstep; rw [if_pos hr.1.2]
 rw [e]; rfl
theorem spec_LeafOf_ev (s : List S94) (hs : ColsOk s) (i : Int) (hi0 : -9223372036854775808 ≤ i) (hi1 : i ≤ 9223372036854775807) : Ev (fun k => spec_LeafOf.f k s i) (leafR s i) := by
 unfold spec_LeafOf.f leafR
 have hll := leaves_length s
 have hl := hs.1
 refine Ev.bind (spec_SchemaLeaves_ev s hs) (Ev.here (l1In_some _ _ _) ?_)
 rw [wrap64_id (by omega) (by omega)]
 by_cases h : 0 ≤ i ∧ i < (leaves s).length
 ·
  rw [if_pos h]
  obtain ⟨pos, hp, hps, hp0, hk⟩ := leaf_pos h.1 h.2
  rw [hp]
  exact Ev.pos (by simp; omega) (Ev.pos h.1 (Ev.pos h.2 (Ev.bind (spec_l5Max_ev s hs hk pos hps hp0) (Ev.pos (by omega) (Ev.pos (by omega) (Ev.now _))))))
 ·
  rw [if_neg h]
  exact Ev.neg (by simp; omega) (Ev.now _)
def zv : S30 := ⟨0, ⟨#[]⟩⟩
def grp (s : List S94) (p : Int) : Bool := decide ((rd_T94 s p).f2 = 0) && decide ((rd_T94 s p).f1 = 7)
def eParts (f : Int → List S30) (s : List S94) : Nat → Int → List S30
 | 0, _ => []
 | n + 1, next => f next ++ eParts f s n (en s next)
def emp (s : List S94) : Nat → Int → List S30
 | 0, _ => []
 | d + 1, p => if grp s p = true then eParts (emp s d) s (rd_T94 s p).f3.toNat (p + 1) else [zv]
theorem chk_parts (s : List S94) (d : Nat) (p : Int) (h : chk s (d + 1) p ≠ -1) : p < s.length ∧ 0 ≤ (rd_T94 s p).f3 ∧ chk s (d + 1) p = parts (chk s d) s (rd_T94 s p).f3.toNat (p + 1) [] := by
 rw [chk] at h ⊢
 by_cases h1 : p ≥ (s.length : Int)
 ·
  rw [if_pos h1] at h; exact absurd rfl h
 rw [if_neg h1] at h ⊢
 by_cases h2 : colB (decide (p = 0)) (rd_T94 s p) = true
 ·
  rw [if_pos h2]
  refine ⟨by omega, ?_, rfl⟩
  unfold colB at h2
  by_cases h7 : (rd_T94 s p).f1 = 7
  ·
   rw [if_pos h7] at h2; simp at h2; omega
  ·
   rw [if_neg h7] at h2; simp at h2; omega
 ·
  rw [if_neg h2] at h; exact absurd rfl h
theorem parts_step (f : Int → Int) (s : List S94) (n : Nat) (next : Int) (names : List ByteArray) (h : parts f s (n + 1) next names ≠ -1) : next < s.length ∧ ¬ f next < 0 ∧ ∃ names', parts f s (n + 1) next names = parts f s n (f next) names' := by
 rw [parts] at h ⊢
 by_cases g1 : next ≥ (s.length : Int)
 ·
  rw [if_pos g1] at h; exact absurd rfl h
 rw [if_neg g1] at h ⊢
 by_cases g2 : names.any (fun x => decide (x.toList = (rd_T94 s next).f0.toList)) = true
 ·
  rw [if_pos g2] at h; exact absurd rfl h
 rw [if_neg g2] at h ⊢
 by_cases g3 : f next < 0
 ·
  rw [if_pos g3] at h; exact absurd rfl h
 rw [if_neg g3]
 exact ⟨by omega, g3, _, rfl⟩
theorem emp_length (s : List S94) : ∀ (d : Nat), d ≤ 6 → ∀ (p : Int), 0 ≤ p → chk s d p ≠ -1 → ((emp s d p).length : Int) ≤ chk s d p - p := by
 intro d
 induction d with
 | zero => intro _ p _ h; exact absurd rfl h
 | succ d ih =>
  intro hd p h0 h
  have hr := chk_range s (d + 1) p h0
  obtain ⟨h1, h2, h3⟩ := chk_parts s d p h
  unfold emp
  split
  ·
   rw [h3] at h ⊢
   have key : ∀ (n : Nat) (next : Int) (names : List ByteArray), 0 ≤ next → parts (chk s d) s n next names ≠ -1 → ((eParts (emp s d) s n next).length : Int) ≤ parts (chk s d) s n next names - next := by
    intro n
    induction n with
    | zero => intro next names _ _; simp [eParts, parts]
    | succ n ihn =>
     intro next names hn hp
     obtain ⟨g1, g2, names', g3⟩ := parts_step _ _ _ _ _ hp
     rw [g3] at hp ⊢
     have hcr := chk_range s d next hn
     have hen := chk_en s next hn (6 - d) d (by omega) (by omega)
     unfold eParts
     rw [List.length_append, hen]
     have := ih (by omega) next hn (by omega)
     have := ihn (chk s d next) names' (by omega) hp
     push_cast; omega
   have := key _ (p + 1) [] (by omega) h
   omega
  ·
   simp; omega
theorem spec_l13Empty_ev (s : List S94) (hs : ColsOk s) : ∀ (d : Nat), d ≤ 6 → ∀ (p : Int), 0 ≤ p → (p = 0 → (rd_T94 s p).f2 = 0) → chk s d p ≠ -1 → Ev (fun k => spec_l13Empty.f k s p) (emp s d p) := by
 obtain ⟨hl, _, hm⟩ := hs
 intro d
 induction d with
 | zero => intro _ p _ _ h; exact absurd rfl h
 | succ d ih =>
  intro hd p h0 hroot h
  obtain ⟨h1, h2, h3⟩ := chk_parts s d p h
  have h3f := hm p
  have body : Ev (fun k => spec_l13Empty.j0 k s p (!(grp s p))) (emp s (d + 1) p) := by
   unfold emp
   cases hg : grp s p with
   | false =>
    rw [if_neg (by decide)]
    exact Ev.step (fun k => by rw [spec_l13Empty.j0]) (by exact Ev.pos rfl (Ev.now _))
   | true =>
    rw [if_pos rfl]
    refine Ev.step (fun k => by rw [spec_l13Empty.j0]) ?_
    refine Ev.neg (by decide) ?_
    rw [wrap64_id (x := p + 1) (by omega) (by omega)]
    rw [h3] at h
    have key : ∀ (n : Nat) (i next : Int) (names : List ByteArray) (out : List S30), i + n = (rd_T94 s p).f3 → 0 ≤ i → 0 < next → next ≤ s.length → (out.length : Int) ≤ next → parts (chk s d) s n next names ≠ -1 →
      Ev (fun k => spec_l13Empty.l0 k s p out next i) (out ++ eParts (emp s d) s n next) := by
     intro n
     induction n with
     | zero =>
      intro i next names out hi i0 n0 n1 ho hp
      refine Ev.step (fun k => by rw [spec_l13Empty.l0]) ?_
      exact Ev.pos h0 (Ev.pos h1 (Ev.neg (by omega) (Ev.const (by simp [eParts]))))
     | succ n ihn =>
      intro i next names out hi i0 n0 n1 ho hp
      obtain ⟨g1, g2, names', g3⟩ := parts_step _ _ _ _ _ hp
      rw [g3] at hp
      have hcr := chk_range s d next (by omega)
      have hen := chk_en s next (by omega) (6 - d) d (by omega) (by omega)
      have hlen := emp_length s d (by omega) next (by omega) (by omega)
      refine Ev.step (fun k => by rw [spec_l13Empty.l0]) ?_
      refine Ev.pos h0 (Ev.pos h1 (Ev.pos (by omega) (Ev.bind (ih (by omega) next (by omega) (by omega) (by omega)) (Ev.pos (by omega) (Ev.bind (spec_l5After_ev s ⟨hl, ‹_›, hm⟩ d next (by omega) (by omega)) ?_)))))
      rw [wrap64_id (x := i + 1) (by omega) (by omega)]
      unfold eParts
      rw [hen, ← List.append_assoc]
      exact ihn (i + 1) (chk s d next) names' (out ++ emp s d next) (by omega) (by omega) (by omega) (by omega) (by simp; omega) hp
    exact key _ 0 (p + 1) [] [] (by omega) (by omega) (by omega) (by omega) (by simp; omega) h
  have hgn : ∀ b, b = (!(grp s p)) → Ev (fun k => spec_l13Empty.j0 k s p b) (emp s (d + 1) p) := fun b e => by rw [e]; exact body
  refine Ev.step (fun k => by rw [spec_l13Empty.f]) ?_
  by_cases hp0 : p > 0
  ·
   refine Ev.pos hp0 (Ev.pos h0 (Ev.pos h1 ?_))
   by_cases hf2 : (rd_T94 s p).f2 = 0
   ·
    exact Ev.pos hf2 (hgn _ (by unfold grp; rw [decide_eq_true hf2]; by_cases h7 : (rd_T94 s p).f1 = 7 <;> simp [h7]))
   ·
    exact Ev.neg hf2 (hgn _ (by unfold grp; rw [decide_eq_false hf2]; simp))
  ·
   refine Ev.neg hp0 (Ev.pos h0 (Ev.pos h1 ?_))
   have hf2 := hroot (by omega)
   exact hgn _ (by unfold grp; rw [decide_eq_true hf2]; by_cases h7 : (rd_T94 s p).f1 = 7 <;> simp [h7])
def vcount (v : S30) (most : Int) : Int := if v.f1.toList = [] ∧ 0 ≤ v.f0 ∧ v.f0 ≤ most then v.f0 else -1
theorem l13Count_some (v : S30) (most : Int) : spec_l13Count.f v.f0 v.f1 most = some (vcount v most) := by
 unfold spec_l13Count.f vcount
 by_cases h1 : v.f1.toList = []
 ·
  rw [if_pos h1, l1In_some, Option.bind_some]
  by_cases h2 : 0 ≤ v.f0 ∧ v.f0 ≤ most
  ·
   rw [if_pos (decide_eq_true h2), if_pos ⟨h1, h2⟩]
  ·
   rw [if_neg (by rw [decide_eq_false h2]; decide), if_neg (fun h => h2 h.2)]
 ·
  rw [if_neg h1, if_neg (fun h => h1 h.1)]
def ColD (c : S94) : Prop := c.f0.size ≤ 2 ∧ 0 ≤ c.f3 ∧ c.f3 ≤ 4
def ColsD (l : List S94) : Prop := ∀ x ∈ l, ColD x
theorem ColsD.rd {l : List S94} (h : ColsD l) (i : Int) : ColD (rd_T94 l i) := by
 unfold rd_T94
 rcases Nat.lt_or_ge i.toNat l.length with hi | hi
 ·
  rw [List.getD_eq_getElem?_getD, List.getElem?_eq_getElem hi]
  exact h _ (List.getElem_mem hi)
 ·
  rw [List.getD_eq_getElem?_getD, List.getElem?_eq_none hi]
  exact ⟨by decide, by decide, by decide⟩
theorem ColsD.ok {l : List S94} (h : ColsD l) (hl : l.length ≤ 1048576) : ColsOk l := ⟨hl, fun i => by have := (h.rd i).1; omega, fun i => by have := (h.rd i).2.2; omega⟩
theorem ColsD.snoc {l : List S94} {x : S94} (h : ColsD l) (hx : ColD x) : ColsD (l ++ [x]) := fun y hy => by
 rcases List.mem_append.mp hy with hy | hy
 ·
  exact h y hy
 ·
  rw [List.mem_singleton.mp hy]; exact hx
theorem ColsD.set {l : List S94} {x : S94} (h : ColsD l) (i : Nat) (hx : ColD x) : ColsD (l.set i x) := fun y hy => by
 rcases List.mem_or_eq_of_mem_set hy with hy | hy
 ·
  exact h y hy
 ·
  rw [hy]; exact hx
def colW : Nat → Nat
 | 0 => 1
 | d + 1 => 1 + 3 * colW d
theorem strOfNums_two (x y : Int) : (strOfNums [x, y]).size = 2 := by
 unfold strOfNums
 rfl
theorem str_empty (b : ByteArray) (h : b.toList = []) : b.size = 0 := by
 rw [ByteArray.toList_eq] at h
 have := congrArg List.length h
 rw [Array.length_toList] at this
 exact this
def DrawsCol (s : List Int) (d : Nat) : Prop := ∀ (i h : Int) (a1 : ByteArray) (a2 : Int) (l : List S94), Cur s i → a1.size ≤ 2 → a2 ≤ (d : Int) → 0 ≤ a2 → (a1.toList = [] → 0 < a2) → ColsD l → l.length + colW d ≤ 100000 → ∃ (r : List S94) (i' h' : Int), Ev (fun k => spec_l5DrawCol.f k s i h a1 a2 l) (r, i', h') ∧ Cur s i' ∧ ColsD r ∧ r.length ≤ l.length + colW d
theorem drawcol_loop (s : List Int) (d : Nat) (ih : DrawsCol s d) (a2 : Int) (ha : a2 - 1 ≤ (d : Int)) (ha0 : 1 ≤ a2) (ha1 : a2 ≤ 1000) (n : Int) (hn : n ≤ 3) : ∀ (m : Nat) (j : Int) (i h : Int) (l : List S94), j + m = n → 0 ≤ j → Cur s i → ColsD l → l.length + m * colW d ≤ 100000 →
  ∃ (r : List S94) (i' h' : Int), Ev (fun k => spec_l5DrawCol.l0 k a2 l n j s i h) (r, i', h') ∧ Cur s i' ∧ ColsD r ∧ r.length ≤ l.length + m * colW d := by
 intro m
 induction m with
 | zero =>
  intro j i h l hj h0 hc hl hs
  exact ⟨l, i, h, Ev.step (fun k => by rw [spec_l5DrawCol.l0]) (by exact Ev.neg (by omega) (Ev.now _)), hc, hl, by omega⟩
 | succ m im =>
  intro j i h l hj h0 hc hl hs
  obtain ⟨v, i1, h1, e1, v0, v1, -, c1⟩ := l1Below_some s i h 4 hc
  rw [Nat.succ_mul] at hs
  obtain ⟨r, i2, h2, e2, c2, d2, s2⟩ := ih i1 h1 (strOfNums ([(wrap64 (97 + j)) % 256, (wrap64 (97 + v)) % 256] : List Int)) (wrap64 (a2 - 1)) l c1 (by rw [strOfNums_two]; omega) (by rw [wrap64_id (by omega) (by omega)]; exact ha) (by rw [wrap64_id (by omega) (by omega)]; omega) (fun he => by have := str_empty _ he; rw [strOfNums_two] at this; omega) hl (by omega)
  obtain ⟨r', i3, h3, e3, c3, d3, s3⟩ := im (j + 1) i2 h2 r (by omega) (by omega) c2 d2 (by omega)
  refine ⟨r', i3, h3, Ev.step (fun k => by rw [spec_l5DrawCol.l0]) ?_, c3, d3, by rw [Nat.succ_mul]; omega⟩
  refine Ev.pos (by omega) (Ev.here e1 (Ev.bind e2 ?_))
  rw [wrap64_id (x := j + 1) (by omega) (by omega)]
  exact e3
theorem rd_last (l : List S94) (x : S94) : rd_T94 (l ++ [x]) (l.length : Int) = x := by
 unfold rd_T94
 rw [Int.toNat_natCast, List.getD_eq_getElem?_getD, List.getElem?_append_right (Nat.le_refl _), Nat.sub_self]
 rfl
theorem set_last (l : List S94) (x y : S94) : (l ++ [x]).set (l.length : Int).toNat y = l ++ [y] := by
 rw [Int.toNat_natCast, List.set_append_right _ _ (Nat.le_refl _), Nat.sub_self]
 rfl
theorem drawcol_leaf (s : List Int) (i h : Int) (a1 : ByteArray) (a2 : Int) (l : List S94) (t rep : Int) (ht : t ≠ 7) (hl : l.length ≤ 100000) : Ev (fun k => spec_l5DrawCol.j1 k a1 a2 l s i h a1 t rep 0) (l ++ [⟨a1, t, rep, 0⟩], i, h) :=
 Ev.step (fun k => by rw [spec_l5DrawCol.j1]) (by exact Ev.pos (by omega) (Ev.here rfl (Ev.neg ht (Ev.now _))))
theorem drawcol_group (s : List Int) (d : Nat) (ih : DrawsCol s d) (i h : Int) (a1 : ByteArray) (a2 : Int) (l : List S94) (rep : Int) (hc : Cur s i) (ha1 : a1.size ≤ 2) (ha : a2 ≤ (d : Int) + 1) (hb0 : 1 ≤ a2) (hb1 : a2 ≤ 1000) (hl : ColsD l) (hs : l.length + colW (d + 1) ≤ 100000) :
  ∃ (r : List S94) (i' h' : Int), Ev (fun k => spec_l5DrawCol.j1 k a1 a2 l s i h a1 7 rep 0) (r, i', h') ∧ Cur s i' ∧ ColsD r ∧ r.length ≤ l.length + colW (d + 1) := by
 obtain ⟨v, i1, h1, e1, v0, v1, -, c1⟩ := l1Below_some s i h 3 hc
 have v1 := v1 (by omega)
 have hw : wrap64 (1 + v) = 1 + v := wrap64_id (by omega) (by omega)
 have hW : colW (d + 1) = 1 + 3 * colW d := rfl
 have key : ∀ rep' : Int, ∃ (r : List S94) (i' h' : Int), Ev (fun k => spec_l5DrawCol.l0 k a2 (l ++ [⟨a1, 7, rep', 1 + v⟩]) (1 + v) 0 s i1 h1) (r, i', h') ∧ Cur s i' ∧ ColsD r ∧ r.length ≤ l.length + colW (d + 1) := by
  intro rep'
  have hm : (1 + v).toNat * colW d ≤ 3 * colW d := Nat.mul_le_mul_right _ (by omega)
  obtain ⟨r, i2, h2, e2, c2, d2, s2⟩ := drawcol_loop s d ih a2 (by omega) hb0 hb1 (1 + v) (by omega) (1 + v).toNat 0 i1 h1 (l ++ [⟨a1, 7, rep', 1 + v⟩]) (by omega) (by omega) c1 (hl.snoc ⟨ha1, by show (0 : Int) ≤ 1 + v; omega, by show 1 + v ≤ 4; omega⟩) (by rw [List.length_append]; simp only [List.length_singleton]; omega)
  rw [List.length_append] at s2
  simp only [List.length_singleton] at s2
  exact ⟨r, i2, h2, e2, c2, d2, by omega⟩
 by_cases he : a1.toList = ([] : List UInt8)
 ·
  obtain ⟨r, i2, h2, e2, c2, d2, s2⟩ := key 0
  refine ⟨r, i2, h2, Ev.step (fun k => by rw [spec_l5DrawCol.j1]) ?_, c2, d2, s2⟩
  refine Ev.pos (by omega) (Ev.here rfl (Ev.pos rfl (Ev.here e1 (Ev.pos (by omega) (Ev.pos (by rw [List.length_append]; simp only [List.length_singleton]; omega) (Ev.here rfl (Ev.pos he ?_)))))))
  refine Ev.step (fun k => by rw [spec_l5DrawCol.j2]) ?_
  simp only [rd_last, set_last, hw]
  exact e2
 ·
  obtain ⟨r, i2, h2, e2, c2, d2, s2⟩ := key rep
  refine ⟨r, i2, h2, Ev.step (fun k => by rw [spec_l5DrawCol.j1]) ?_, c2, d2, s2⟩
  refine Ev.pos (by omega) (Ev.here rfl (Ev.pos rfl (Ev.here e1 (Ev.pos (by omega) (Ev.pos (by rw [List.length_append]; simp only [List.length_singleton]; omega) (Ev.here rfl (Ev.neg he ?_)))))))
  refine Ev.step (fun k => by rw [spec_l5DrawCol.j2]) ?_
  simp only [rd_last, set_last, hw]
  exact e2
theorem pick_ne7 {v : Int} (h : v ∈ ([0, 1, 2, 5, 6] : List Int)) : v ≠ 7 := by
 intro he
 subst he
 simp at h
theorem drawcol_all (s : List Int) : ∀ d : Nat, d ≤ 4 → DrawsCol s d := by
 intro d
 induction d with
 | zero =>
  intro hd i h a1 a2 l hc ha1 ha2 hb0 hne hl hs
  have hne' : a1.toList ≠ [] := fun he => absurd (hne he) (by omega)
  obtain ⟨t, i1, h1, e1, t1, c1⟩ := l1PickInt_some s i h [0, 1, 2, 5, 6] hc (by decide)
  obtain ⟨rep, i2, h2, e2, r0, r1, -, c2⟩ := l1Below_some s i1 h1 3 c1
  refine ⟨l ++ [⟨a1, t, rep, 0⟩], i2, h2, Ev.step (fun k => by rw [spec_l5DrawCol.f]) ?_, c2, hl.snoc ⟨ha1, Int.le_refl _, (by omega : (0 : Int) ≤ 4)⟩, by rw [List.length_append]; exact Nat.le_refl _⟩
  refine Ev.here e1 (Ev.here e2 (Ev.neg hne' (Ev.neg (by omega) ?_)))
  refine Ev.step (fun k => by rw [spec_l5DrawCol.j0]) (Ev.neg (by decide) ?_)
  exact drawcol_leaf s i2 h2 a1 a2 l t rep (pick_ne7 t1) (by omega)
 | succ d ih =>
  intro hd i h a1 a2 l hc ha1 ha2 hb0 hne hl hs
  have ih := ih (by omega)
  obtain ⟨t, i1, h1, e1, t1, c1⟩ := l1PickInt_some s i h [0, 1, 2, 5, 6] hc (by decide)
  obtain ⟨rep, i2, h2, e2, r0, r1, -, c2⟩ := l1Below_some s i1 h1 3 c1
  have leaf : ∀ i3 h3, Cur s i3 → ∃ (r : List S94) (i' h' : Int), Ev (fun k => spec_l5DrawCol.j0 k a1 a2 l false s i3 h3 a1 t rep 0) (r, i', h') ∧ Cur s i' ∧ ColsD r ∧ r.length ≤ l.length + colW (d + 1) := fun i3 h3 c3 =>
   ⟨l ++ [⟨a1, t, rep, 0⟩], i3, h3, Ev.step (fun k => by rw [spec_l5DrawCol.j0]) (Ev.neg (by decide) (drawcol_leaf s i3 h3 a1 a2 l t rep (pick_ne7 t1) (by omega))), c3, hl.snoc ⟨ha1, Int.le_refl _, (by omega : (0 : Int) ≤ 4)⟩, by rw [List.length_append]; show l.length + 1 ≤ l.length + (1 + 3 * colW d); omega⟩
  have grp : ∀ i3 h3, Cur s i3 → 1 ≤ a2 → ∃ (r : List S94) (i' h' : Int), Ev (fun k => spec_l5DrawCol.j0 k a1 a2 l true s i3 h3 a1 t rep 0) (r, i', h') ∧ Cur s i' ∧ ColsD r ∧ r.length ≤ l.length + colW (d + 1) := fun i3 h3 c3 h1a => by
   obtain ⟨r, i4, h4, e4, c4, d4, s4⟩ := drawcol_group s d ih i3 h3 a1 a2 l rep c3 ha1 (by omega) h1a (by omega) hl hs
   exact ⟨r, i4, h4, Ev.step (fun k => by rw [spec_l5DrawCol.j0]) (Ev.pos rfl e4), c4, d4, s4⟩
  by_cases he : a1.toList = ([] : List UInt8)
  ·
   obtain ⟨r, i4, h4, e4, c4, d4, s4⟩ := grp i2 h2 c2 (by have := hne he; omega)
   exact ⟨r, i4, h4, Ev.step (fun k => by rw [spec_l5DrawCol.f]) (by exact Ev.here e1 (Ev.here e2 (Ev.pos he e4))), c4, d4, s4⟩
  ·
   by_cases h0 : a2 > 0
   ·
    obtain ⟨o, i3, h3, e3, c3⟩ := l1Once_some s i2 h2 3 c2
    cases o with
    | true =>
     obtain ⟨r, i4, h4, e4, c4, d4, s4⟩ := grp i3 h3 c3 (by omega)
     exact ⟨r, i4, h4, Ev.step (fun k => by rw [spec_l5DrawCol.f]) (by exact Ev.here e1 (Ev.here e2 (Ev.neg he (Ev.pos h0 (Ev.here e3 e4))))), c4, d4, s4⟩
    | false =>
     obtain ⟨r, i4, h4, e4, c4, d4, s4⟩ := leaf i3 h3 c3
     exact ⟨r, i4, h4, Ev.step (fun k => by rw [spec_l5DrawCol.f]) (by exact Ev.here e1 (Ev.here e2 (Ev.neg he (Ev.pos h0 (Ev.here e3 e4))))), c4, d4, s4⟩
   ·
    obtain ⟨r, i4, h4, e4, c4, d4, s4⟩ := leaf i2 h2 c2
    exact ⟨r, i4, h4, Ev.step (fun k => by rw [spec_l5DrawCol.f]) (by exact Ev.here e1 (Ev.here e2 (Ev.neg he (Ev.neg h0 e4)))), c4, d4, s4⟩
def schMin : List S94 := [⟨⟨#[]⟩, 7, 0, 1⟩, ⟨⟨#[97]⟩, 2, 1, 0⟩]
theorem schMin_name : nameOk (⟨#[97]⟩ : ByteArray) = true := by decide
theorem schMin_ok : schOk schMin = true := by
 have e0 : (⟨#[]⟩ : ByteArray).toList = [] := by rw [ByteArray.toList_eq]
 have h0 : rd_T94 schMin 0 = ⟨⟨#[]⟩, 7, 0, 1⟩ := rfl
 have h1 : rd_T94 schMin 1 = ⟨⟨#[97]⟩, 2, 1, 0⟩ := rfl
 have hl : (schMin.length : Int) = 2 := rfl
 have c1 : chk schMin 5 1 = 2 := by
  unfold chk
  rw [hl, if_neg (by decide), h1, if_pos (by simp only [colB, schMin_name]; decide)]
  rfl
 have c0 : chk schMin 6 0 = 2 := by
  unfold chk
  rw [hl, if_neg (by decide), h0, if_pos (by simp only [colB]; decide)]
  show parts (chk schMin 5) schMin 1 1 [] = 2
  unfold parts
  rw [hl, if_neg (by decide), if_neg (by simp), c1, if_neg (by decide)]
  rfl
 simp only [schOk, rootB, h0, hl, c0, e0]
 decide
theorem schMin_d : ColsD schMin := by
 intro x hx
 simp only [schMin, List.mem_cons, List.not_mem_nil, or_false] at hx
 rcases hx with rfl | rfl
 ·
  exact ⟨by decide, by decide, by decide⟩
 ·
  exact ⟨by decide, by decide, by decide⟩
theorem drawRight_loop (s : List Int) : ∀ (m : Nat) (j i h : Int), j + m = 9 → 0 ≤ j → Cur s i → ∃ (r : List S94) (i' h' : Int), Ev (fun k => spec_l5DrawRight.l0 k j s i h) (r, i', h') ∧ Cur s i' ∧ ColsD r ∧ schOk r = true := by
 intro m
 induction m with
 | zero =>
  intro j i h hj h0 hc
  exact ⟨schMin, i, h, Ev.step (fun k => by rw [spec_l5DrawRight.l0]) (by exact Ev.neg (by omega) (Ev.now _)), hc, schMin_d, schMin_ok⟩
 | succ m im =>
  intro j i h hj h0 hc
  obtain ⟨v, i1, h1, e1, v0, v1, -, c1⟩ := l1Below_some s i h 3 hc
  have v1 := v1 (by omega)
  have hw : wrap64 (1 + v) = 1 + v := wrap64_id (by omega) (by omega)
  obtain ⟨r, i2, h2, e2, c2, d2, s2⟩ := drawcol_all s 3 (by omega) i1 h1 (⟨#[]⟩ : ByteArray) (wrap64 (1 + v)) [] c1 (by decide) (by rw [hw]; omega) (by rw [hw]; omega) (fun _ => by rw [hw]; omega) (fun x hx => absurd hx (by simp)) (by decide)
  have hk : ColsOk r := d2.ok (by have : colW 3 = 40 := rfl; simp only [List.length_nil] at s2; omega)
  have e3 := spec_SchemaOk_ev r hk
  cases hb : schOk r with
  | true =>
   rw [hb] at e3
   exact ⟨r, i2, h2, Ev.step (fun k => by rw [spec_l5DrawRight.l0]) (by exact Ev.pos (by omega) (Ev.here e1 (Ev.bind e2 (Ev.bind e3 (Ev.pos rfl (Ev.now _)))))), c2, d2, hb⟩
  | false =>
   rw [hb] at e3
   obtain ⟨r', i3, h3, e4, c3, d3, s3⟩ := im (j + 1) i2 h2 (by omega) (by omega) c2
   refine ⟨r', i3, h3, Ev.step (fun k => by rw [spec_l5DrawRight.l0]) ?_, c3, d3, s3⟩
   refine Ev.pos (by omega) (Ev.here e1 (Ev.bind e2 (Ev.bind e3 (Ev.neg (by decide) ?_))))
   rw [wrap64_id (x := j + 1) (by omega) (by omega)]
   exact e4
theorem l5DrawRight_ev (s : List Int) (i h : Int) (hc : Cur s i) : ∃ (r : List S94) (i' h' : Int), Ev (fun k => spec_l5DrawRight.f k s i h) (r, i', h') ∧ Cur s i' ∧ ColsD r ∧ schOk r = true := drawRight_loop s 9 0 i h rfl (Int.le_refl _) hc
def cW : Nat → Nat
 | 0 => 1
 | d + 1 => 20 * cW d + 1
theorem cW_pos : ∀ d, 1 ≤ cW d
 | 0 => Nat.le_refl _
 | d + 1 => by show 1 ≤ 20 * cW d + 1; omega
def VFine (l : List S30) : Prop := ∀ v ∈ l, I64 v.f0
theorem VFine.snoc {l : List S30} {v : S30} (h : VFine l) (hv : I64 v.f0) : VFine (l ++ [v]) := fun x hx => by
 rcases List.mem_append.mp hx with h1 | h1
 ·
  exact h x h1
 ·
  rw [List.mem_singleton.mp h1]; exact hv
def PartDraws (sc : List S94) (s : List Int) (d : Nat) : Prop := ∀ (p : Int), 0 ≤ p → chk sc d p ≠ -1 → ∀ (i h : Int) (l : List S30), Cur s i → VFine l → l.length + (chk sc d p - p).toNat * cW d ≤ 1000000000000 →
 ∃ (R : List S30 × Int × Int), Ev (fun k => spec_l13DrawPart.f k s i h sc p l) R ∧ Cur s R.2.1 ∧ R.1.length ≤ l.length + (chk sc d p - p).toNat * cW d ∧ VFine R.1
theorem parts_range' (sc : List S94) (d : Nat) (n : Nat) (next : Int) (names : List ByteArray) (h0 : 0 ≤ next) (h1 : next ≤ sc.length) (h : parts (chk sc d) sc n next names ≠ -1) : next ≤ parts (chk sc d) sc n next names := by
 rcases parts_range (chk sc d) sc (fun q hq => chk_range sc d q hq) n next names h0 h1 with h2 | h2
 ·
  exact absurd h2 h
 ·
  exact h2.1
theorem drawparts (sc : List S94) (hs : ColsOk sc) (s : List Int) (d : Nat) (ih : PartDraws sc s d) (p : Int) (hp0 : 0 ≤ p) (hp1 : p < sc.length) (n j : Int) (B : Nat) : ∀ (m : Nat) (x next : Int) (names : List ByteArray) (i h : Int) (l : List S30),
  x + m = (rd_T94 sc p).f3 → 0 ≤ x → 0 ≤ next → next ≤ sc.length → parts (chk sc d) sc m next names ≠ -1 → Cur s i → VFine l → l.length + (parts (chk sc d) sc m next names - next).toNat * cW d ≤ 1000000000000 →
  (∀ (r : List S30) (i' h' : Int), Cur s i' → VFine r → r.length ≤ l.length + (parts (chk sc d) sc m next names - next).toNat * cW d → ∃ R, Ev (fun k => spec_l13DrawPart.l0 k sc p r n (wrap64 (j + 1)) s i' h') R ∧ Cur s R.2.1 ∧ R.1.length ≤ B ∧ VFine R.1) →
  ∃ R, Ev (fun k => spec_l13DrawPart.l1 k sc p l n j next x s i h) R ∧ Cur s R.2.1 ∧ R.1.length ≤ B ∧ VFine R.1 := by
 intro m
 induction m with
 | zero =>
  intro x next names i h l hx h0 hn0 hn1 hp hc hv hl K
  obtain ⟨R, e, hR⟩ := K l i h hc hv (by omega)
  refine ⟨R, Ev.step (fun k => by rw [spec_l13DrawPart.l1]) ?_, hR⟩
  exact Ev.pos hp0 (Ev.pos hp1 (Ev.neg (by omega) e))
 | succ m im =>
  intro x next names i h l hx h0 hn0 hn1 hp hc hv hl K
  obtain ⟨q1, q2, names', q3⟩ := parts_step (chk sc d) sc m next names hp
  have hq : chk sc d next ≠ -1 := by omega
  have hr := (chk_range sc d next hn0).resolve_left hq
  rw [q3] at hp hl K
  have hr2 := parts_range' sc d m (chk sc d next) names' (by omega) hr.2 hp
  have hsum : (parts (chk sc d) sc m (chk sc d next) names' - next).toNat * cW d = (chk sc d next - next).toNat * cW d + (parts (chk sc d) sc m (chk sc d next) names' - chk sc d next).toNat * cW d := by
   rw [← Nat.add_mul]
   congr 1
   omega
  rw [hsum] at hl K
  obtain ⟨⟨r1, i1, h1⟩, e1, c1, s1, v1⟩ := ih next hn0 hq i h l hc hv (by omega)
  have e2 := spec_l5After_ev sc hs d next hn0 hq
  obtain ⟨R, e3, hR⟩ := im (x + 1) (chk sc d next) names' i1 h1 r1 (by omega) (by omega) (by omega) hr.2 hp c1 v1 (by simp only at s1; omega) (fun r i' h' hc' hv' hr' => K r i' h' hc' hv' (by simp only at s1; omega))
  refine ⟨R, Ev.step (fun k => by rw [spec_l13DrawPart.l1]) ?_, hR⟩
  refine Ev.pos hp0 (Ev.pos hp1 (Ev.pos (by omega) (Ev.bind e1 (Ev.bind e2 ?_))))
  have hf := hs.2.2 p
  rw [wrap64_id (x := x + 1) (by omega) (by omega)]
  exact e3
theorem drawtimes (sc : List S94) (hs : ColsOk sc) (s : List Int) (d : Nat) (ih : PartDraws sc s d) (p : Int) (hp0 : 0 ≤ p) (hk : chk sc (d + 1) p ≠ -1) (n : Int) (hn : n ≤ 20) : ∀ (m : Nat) (j i h : Int) (l : List S30), j + m = n → 0 ≤ j → Cur s i → VFine l → l.length + m * ((chk sc (d + 1) p - p).toNat * cW d) ≤ 1000000000000 →
  ∃ R, Ev (fun k => spec_l13DrawPart.l0 k sc p l n j s i h) R ∧ Cur s R.2.1 ∧ R.1.length ≤ l.length + m * ((chk sc (d + 1) p - p).toNat * cW d) ∧ VFine R.1 := by
 obtain ⟨hp1, hf0, hpt⟩ := chk_parts sc d p hk
 have hr := (chk_range sc (d + 1) p hp0).resolve_left hk
 have hone : 1 ≤ (chk sc (d + 1) p - p).toNat * cW d := Nat.mul_le_mul (m₁ := 1) (n₁ := 1) (by omega) (cW_pos d)
 intro m
 induction m with
 | zero =>
  intro j i h l hj h0 hc hv hl
  exact ⟨(l, i, h), Ev.step (fun k => by rw [spec_l13DrawPart.l0]) (by exact Ev.neg (by omega) (Ev.now _)), hc, by simp, hv⟩
 | succ m im =>
  intro j i h l hj h0 hc hv hl
  rw [Nat.succ_mul] at hl
  have hw : wrap64 (j + 1) = j + 1 := wrap64_id (by omega) (by omega)
  by_cases h7 : (rd_T94 sc p).f1 = 7
  ·
   have hsub : (parts (chk sc d) sc (rd_T94 sc p).f3.toNat (p + 1) [] - (p + 1)).toNat * cW d ≤ (chk sc (d + 1) p - p).toNat * cW d := Nat.mul_le_mul_right _ (by rw [hpt]; omega)
   obtain ⟨R, e, c, hR, vR⟩ := drawparts sc hs s d ih p hp0 hp1 n j (l.length + (m + 1) * ((chk sc (d + 1) p - p).toNat * cW d)) (rd_T94 sc p).f3.toNat 0 (p + 1) [] i h l (by omega) (Int.le_refl _) (by omega) (by omega) (by rw [← hpt]; exact hk) hc hv (by omega) (fun r i' h' hc' hv' hr' => by
    rw [hw]
    obtain ⟨R, e, c, hR, vR⟩ := im (j + 1) i' h' r (by omega) (by omega) hc' hv' (by omega)
    exact ⟨R, e, c, by rw [Nat.succ_mul]; omega, vR⟩)
   refine ⟨R, Ev.step (fun k => by rw [spec_l13DrawPart.l0]) ?_, c, hR, vR⟩
   refine Ev.pos (by omega) (Ev.pos hp0 (Ev.pos hp1 (Ev.pos h7 ?_)))
   rw [wrap64_id (x := p + 1) (by have := hs.1; omega) (by have := hs.1; omega)]
   exact e
  ·
   obtain ⟨v, x, i1, h1, e1, dv, c1⟩ := l6DrawRight_ev s i h (rd_T94 sc p).f1 hc
   obtain ⟨R, e, c, hR, vR⟩ := im (j + 1) i1 h1 (l ++ [⟨v, x⟩]) (by omega) (by omega) c1 (hv.snoc dv.1) (by rw [List.length_append]; simp only [List.length_singleton]; omega)
   rw [List.length_append] at hR
   simp only [List.length_singleton] at hR
   refine ⟨R, Ev.step (fun k => by rw [spec_l13DrawPart.l0]) ?_, c, by rw [Nat.succ_mul]; omega, vR⟩
   refine Ev.pos (by omega) (Ev.pos hp0 (Ev.pos hp1 (Ev.neg h7 (Ev.bind e1 (Ev.pos (by omega) ?_)))))
   rw [hw]
   exact e
theorem drawpart_step (sc : List S94) (hs : ColsOk sc) (s : List Int) (d : Nat) (ih : PartDraws sc s d) : PartDraws sc s (d + 1) := by
 intro p hp0 hk i h l hc hv hl
 obtain ⟨hp1, hf0, hpt⟩ := chk_parts sc d p hk
 have hr := (chk_range sc (d + 1) p hp0).resolve_left hk
 have hW : (chk sc (d + 1) p - p).toNat * cW (d + 1) = 20 * ((chk sc (d + 1) p - p).toNat * cW d) + (chk sc (d + 1) p - p).toNat := by
  show (chk sc (d + 1) p - p).toNat * (20 * cW d + 1) = _
  rw [Nat.mul_add, Nat.mul_one, Nat.mul_left_comm]
 rw [hW] at hl ⊢
 have go : ∀ (n i1 h1 : Int) (l1 : List S30), 0 ≤ n → n ≤ 20 → Cur s i1 → VFine l1 → l1.length ≤ l.length + 1 → ∃ R, Ev (fun k => spec_l13DrawPart.j1 k sc p l1 n s i1 h1) R ∧ Cur s R.2.1 ∧ R.1.length ≤ l.length + (20 * ((chk sc (d + 1) p - p).toNat * cW d) + (chk sc (d + 1) p - p).toNat) ∧ VFine R.1 := by
  intro n i1 h1 l1 n0 n1 c1 hv1 hl1
  have hm : n.toNat * ((chk sc (d + 1) p - p).toNat * cW d) ≤ 20 * ((chk sc (d + 1) p - p).toNat * cW d) := Nat.mul_le_mul_right _ (by omega)
  obtain ⟨R, e, c, hR, vR⟩ := drawtimes sc hs s d ih p hp0 hk n n1 n.toNat 0 i1 h1 l1 (by omega) (Int.le_refl _) c1 hv1 (by omega)
  exact ⟨R, Ev.step (fun k => by rw [spec_l13DrawPart.j1]) e, c, by omega, vR⟩
 have plain : ∃ R, Ev (fun k => spec_l13DrawPart.j0 k sc p l 1 false s i h) R ∧ Cur s R.2.1 ∧ R.1.length ≤ l.length + (20 * ((chk sc (d + 1) p - p).toNat * cW d) + (chk sc (d + 1) p - p).toNat) ∧ VFine R.1 := by
  obtain ⟨R, e, hR⟩ := go 1 i h l (by omega) (by omega) hc hv (by omega)
  exact ⟨R, Ev.step (fun k => by rw [spec_l13DrawPart.j0]) (Ev.neg (by decide) e), hR⟩
 by_cases hp : p > 0
 ·
  by_cases h2 : (rd_T94 sc p).f2 = 0
  ·
   obtain ⟨R, e, hR⟩ := plain
   refine ⟨R, Ev.step (fun k => by rw [spec_l13DrawPart.f]) ?_, hR⟩
   refine Ev.pos hp (Ev.pos hp0 (Ev.pos hp1 ?_))
   rw [show ((rd_T94 sc p).f2 != 0) = false from bne_eq_false_iff_eq.mpr h2]
   exact e
  ·
   obtain ⟨v, i1, h1, e1, v0, v1, -, c1⟩ := l1Below_some s i h 2 hc
   have v1 := v1 (by omega)
   have fin : ∃ R, Ev (fun k => spec_l13DrawPart.j0 k sc p l 1 true s i h) R ∧ Cur s R.2.1 ∧ R.1.length ≤ l.length + (20 * ((chk sc (d + 1) p - p).toNat * cW d) + (chk sc (d + 1) p - p).toNat) ∧ VFine R.1 := by
    by_cases h22 : (rd_T94 sc p).f2 = 2
    ·
     obtain ⟨v', i2, h2', e2, w0, w1, -, c2⟩ := l1Below_some s i1 h1 4 c1
     have w1 := w1 (by omega)
     obtain ⟨o, i3, h3, e3, c3⟩ := l1Once_some s i2 h2' 60 c2
     cases o with
     | true =>
      obtain ⟨R, e, hR⟩ := go 20 i3 h3 (l ++ [⟨20, (⟨#[]⟩ : ByteArray)⟩]) (by omega) (by omega) c3 (hv.snoc (by unfold I64; (try dsimp only); omega)) (by rw [List.length_append]; exact Nat.le_refl _)
      exact ⟨R, Ev.step (fun k => by rw [spec_l13DrawPart.j0]) (by exact Ev.pos rfl (Ev.here e1 (Ev.pos hp0 (Ev.pos hp1 (Ev.pos h22 (Ev.here e2 (Ev.here e3 (Ev.pos rfl (Ev.pos (by omega) e))))))))), hR⟩
     | false =>
      obtain ⟨R, e, hR⟩ := go v' i3 h3 (l ++ [⟨v', (⟨#[]⟩ : ByteArray)⟩]) (by omega) (by omega) c3 (hv.snoc (by unfold I64; (try dsimp only); omega)) (by rw [List.length_append]; exact Nat.le_refl _)
      exact ⟨R, Ev.step (fun k => by rw [spec_l13DrawPart.j0]) (by exact Ev.pos rfl (Ev.here e1 (Ev.pos hp0 (Ev.pos hp1 (Ev.pos h22 (Ev.here e2 (Ev.here e3 (Ev.neg Bool.false_ne_true (Ev.pos (by omega) e))))))))), hR⟩
    ·
     obtain ⟨R, e, hR⟩ := go v i1 h1 (l ++ [⟨v, (⟨#[]⟩ : ByteArray)⟩]) (by omega) (by omega) c1 (hv.snoc (by unfold I64; (try dsimp only); omega)) (by rw [List.length_append]; exact Nat.le_refl _)
     exact ⟨R, Ev.step (fun k => by rw [spec_l13DrawPart.j0]) (by exact Ev.pos rfl (Ev.here e1 (Ev.pos hp0 (Ev.pos hp1 (Ev.neg h22 (Ev.pos (by omega) e)))))), hR⟩
   obtain ⟨R, e, hR⟩ := fin
   refine ⟨R, Ev.step (fun k => by rw [spec_l13DrawPart.f]) ?_, hR⟩
   refine Ev.pos hp (Ev.pos hp0 (Ev.pos hp1 ?_))
   rw [show ((rd_T94 sc p).f2 != 0) = true from bne_iff_ne.mpr h2]
   exact e
 ·
  obtain ⟨R, e, hR⟩ := plain
  exact ⟨R, Ev.step (fun k => by rw [spec_l13DrawPart.f]) (by exact Ev.neg hp e), hR⟩
theorem drawpart_all (sc : List S94) (hs : ColsOk sc) (s : List Int) : ∀ d, PartDraws sc s d
 | 0 => fun p hp hk => absurd (by unfold chk; rfl) hk
 | d + 1 => drawpart_step sc hs s d (drawpart_all sc hs s d)
def lf (s : List S94) (n : Nat) : Nat := (lvs s n).length
theorem lf_le (s : List S94) (n : Nat) : lf s n ≤ n := lvs_length s n
theorem lf_succ (s : List S94) (n : Nat) : lf s (n + 1) = if (rd_T94 s (n : Int)).f1 = 7 then lf s n else lf s n + 1 := by
 unfold lf lvs
 rw [List.range_succ, List.foldl_append]
 simp only [List.foldl_cons, List.foldl_nil]
 unfold lvStep
 split
 ·
  rfl
 ·
  rw [List.length_append]; rfl
theorem lf_mono (s : List S94) (a : Nat) : ∀ m, lf s a ≤ lf s (a + m)
 | 0 => Nat.le_refl _
 | m + 1 => by
  have h := lf_mono s a m
  have e := lf_succ s (a + m)
  rw [show a + (m + 1) = a + m + 1 from rfl, e]
  split <;> omega
attribute [irreducible] lf
theorem l14Leaf_ev (s : List S94) (hs : s.length ≤ 1048576) (p : Nat) (hp : p ≤ s.length) : Ev (fun k => spec_l14Leaf.f k s (p : Int)) (lf s p : Int) := by
 unfold spec_l14Leaf.f
 have h00 : lf s 0 = 0 := by have := lf_le s 0; omega
 have key : ∀ (m i : Nat), i + m = p → Ev (fun k => spec_l14Leaf.l0 k s (p : Int) (lf s i : Int) (i : Int)) (lf s p : Int) := by
  intro m
  induction m with
  | zero =>
   intro i hi
   refine Ev.step (fun k => by rw [spec_l14Leaf.l0]) ?_
   refine Ev.neg (by omega) ?_
   rw [show i = p from by omega]
   exact Ev.now _
  | succ m im =>
   intro i hi
   have h1 := im (i + 1) (by omega)
   have hb : lf s i ≤ i := lf_le s i
   have hw : wrap64 ((i : Int) + 1) = ((i + 1 : Nat) : Int) := by rw [wrap64_id (by omega) (by omega)]; omega
   rw [lf_succ] at h1
   refine Ev.step (fun k => by rw [spec_l14Leaf.l0]) ?_
   refine Ev.pos (by omega) (Ev.pos (by omega) (Ev.pos (by omega) ?_))
   by_cases h7 : (rd_T94 s (i : Int)).f1 = 7
   ·
    rw [if_pos h7] at h1
    rw [hw]
    exact Ev.pos h7 h1
   ·
    rw [if_neg h7] at h1
    rw [hw, wrap64_id (x := (lf s i : Int) + 1) (by omega) (by omega)]
    exact Ev.neg h7 h1
 have h1 := key p 0 (by omega)
 rw [h00] at h1
 exact h1
def Fine (l : List S36) : Prop := ∀ t ∈ l, I64 t.f2.f0
def Room (T : TT) (N b : Nat) : Prop := T.length = N ∧ ∀ j : Nat, (T.getD j []).length ≤ b ∧ Fine (T.getD j [])
theorem Fine.snoc {l : List S36} {t : S36} (h : Fine l) (ht : I64 t.f2.f0) : Fine (l ++ [t]) := fun x hx => by
 rcases List.mem_append.mp hx with h1 | h1
 ·
  exact h x h1
 ·
  rw [List.mem_singleton.mp h1]; exact ht
theorem getD_put (T : TT) (i j : Nat) (x : List S36) (hi : i < T.length) : (T.set i x).getD j [] = if j = i then x else T.getD j [] := by
 rw [List.getD_eq_getElem?_getD, List.getElem?_set]
 by_cases h : i = j
 ·
  subst h
  rw [if_pos rfl, if_pos hi, if_pos rfl]; rfl
 ·
  rw [if_neg h, if_neg (fun e => h e.symm), List.getD_eq_getElem?_getD]
theorem null_ev (s : List S94) (hs : ColsOk s) (d : Nat) (p : Int) (hp0 : 0 ≤ p) (hk : chk s d p ≠ -1) (t : S36) (ht : I64 t.f2.f0) (N b : Nat) (hN : N = lf s s.length) (hb : b ≤ 1000000) (T : TT) (hT : Room T N b) : ∃ T', Ev (fun k => spec_l14Null.f k s p t T) T' ∧ Room T' N (b + 1) := by
 have hr := (chk_range s d p hp0).resolve_left hk
 have ea := spec_l5After_ev s hs d p hp0 hk
 obtain ⟨e, he⟩ : ∃ e : Nat, chk s d p = (e : Int) := ⟨(chk s d p).toNat, by omega⟩
 obtain ⟨p', hp'⟩ : ∃ e : Nat, p = (e : Int) := ⟨p.toNat, by omega⟩
 subst hp'
 rw [he] at ea hr
 have el := l14Leaf_ev s hs.1 e (by omega)
 have ef := l14Leaf_ev s hs.1 p' (by omega)
 have hle : lf s e ≤ N := by
  have := lf_mono s e (s.length - e)
  rw [show e + (s.length - e) = s.length from by omega] at this
  omega
 have hlb : lf s e ≤ e := lf_le s e
 have hsl := hs.1
 have key : ∀ (m i : Nat) (T : TT), (i + m = lf s e ∨ (m = 0 ∧ lf s e ≤ i)) → T.length = N → (∀ j : Nat, (T.getD j []).length ≤ b + 1 ∧ Fine (T.getD j [])) → (∀ j : Nat, i ≤ j → (T.getD j []).length ≤ b) → ∃ T', Ev (fun k => spec_l14Null.l0 k s (p' : Int) t T (i : Int)) T' ∧ Room T' N (b + 1) := by
  intro m
  induction m with
  | zero =>
   intro i T hi hn h1 h2
   refine ⟨T, Ev.step (fun k => by rw [spec_l14Null.l0]) ?_, hn, h1⟩
   exact Ev.bind ea (Ev.bind el (Ev.neg (by omega) (Ev.now _)))
  | succ m im =>
   intro i T hi hn h1 h2
   have hi2 : i < T.length := by omega
   obtain ⟨T', e1, hR⟩ := im (i + 1) (T.set i (T.getD i [] ++ [t])) (by omega) (by rw [List.length_set]; exact hn) (fun j => by
    rw [getD_put _ _ _ _ hi2]
    split
    ·
     exact ⟨by rw [List.length_append]; have := h2 i (Nat.le_refl _); simp only [List.length_singleton]; omega, (h1 i).2.snoc ht⟩
    ·
     exact h1 j) (fun j hj => by
    rw [getD_put _ _ _ _ hi2, if_neg (by omega)]
    exact h2 j (by omega))
   refine ⟨T', Ev.step (fun k => by rw [spec_l14Null.l0]) ?_, hR⟩
   refine Ev.bind ea (Ev.bind el (Ev.pos (by omega) (Ev.pos ⟨by omega, by omega, ?_⟩ ?_)))
   ·
    have := (h1 i).1; rw [Int.toNat_natCast]; omega
   ·
    rw [Int.toNat_natCast, show wrap64 ((i : Int) + 1) = ((i + 1 : Nat) : Int) from by rw [wrap64_id (by omega) (by omega)]; omega]
    exact e1
 obtain ⟨T', e1, hR⟩ := key (lf s e - lf s p') (lf s p') T (by
  have := lf_mono s p' (e - p')
  rw [show p' + (e - p') = e from by omega] at this
  omega) hT.1 (fun j => ⟨by have := (hT.2 j).1; omega, (hT.2 j).2⟩) (fun j _ => (hT.2 j).1)
 exact ⟨T', by unfold spec_l14Null.f; exact Ev.bind ef e1, hR⟩
section
variable (s : List S94) (L : List S30) (N : Nat)
def ShC (d : Nat) : Prop := ∀ (p : Int), 0 ≤ p → chk s d p ≠ -1 → ∀ pos : Nat, pos ≤ L.length → ∃ r, Ev (fun k => spec_l13Content.f k s p L (pos : Int)) r ∧ (r = -1 ∨ ∃ q : Nat, r = (q : Int) ∧ pos ≤ q ∧ q ≤ L.length ∧
 ∀ (rep dfn reps : Int) (T : TT) (b : Nat), Room T N b → b + (q - pos) ≤ 1000000 → ∃ T', Ev (fun k => spec_l14Content.f k s p L (pos : Int) rep dfn reps T) (T', (q : Int)) ∧ Room T' N (b + (q - pos)))
def ShP (d : Nat) : Prop := ∀ (p : Int), 0 ≤ p → chk s d p ≠ -1 → ∀ pos : Nat, pos ≤ L.length → ∃ r, Ev (fun k => spec_l13Part.f k s p L (pos : Int)) r ∧ (r = -1 ∨ ∃ q : Nat, r = (q : Int) ∧ pos ≤ q ∧ q ≤ L.length ∧
 ∀ (rep dfn reps : Int) (T : TT) (b : Nat), Room T N b → b + (q - pos) ≤ 1000000 → ∃ T', Ev (fun k => spec_l14Part.f k s p L (pos : Int) rep dfn reps T) (T', (q : Int)) ∧ Room T' N (b + (q - pos)))
theorem sh_parts (hs : ColsOk s) (d : Nat) (ih : ShP s L N d) (p : Int) (h0 : 0 ≤ p) (h1 : p < s.length) : ∀ (n : Nat) (i next : Int) (names : List ByteArray) (pos : Nat), i + n = (rd_T94 s p).f3 → 0 ≤ i → 0 ≤ next → parts (chk s d) s n next names ≠ -1 → pos ≤ L.length →
  ∃ r, Ev (fun k => spec_l13Content.l0 k s p L (pos : Int) next i) r ∧ (r = -1 ∨ ∃ q : Nat, r = (q : Int) ∧ pos ≤ q ∧ q ≤ L.length ∧
   ∀ (rep dfn reps : Int) (T : TT) (b : Nat), Room T N b → b + (q - pos) ≤ 1000000 → ∃ T', Ev (fun k => spec_l14Content.l0 k s p L (pos : Int) rep dfn reps next T i) (T', (q : Int)) ∧ Room T' N (b + (q - pos))) := by
 have hm := hs.2.2 p
 intro n
 induction n with
 | zero =>
  intro i next names pos hi i0 n0 hp hpos
  refine ⟨(pos : Int), ?_, Or.inr ⟨pos, rfl, Nat.le_refl _, hpos, fun rep dfn reps T b hT hb => ⟨T, ?_, by rw [Nat.sub_self]; exact hT⟩⟩⟩
  ·
   refine Ev.step (fun k => by rw [spec_l13Content.l0]) ?_
   exact Ev.pos h0 (Ev.pos h1 (Ev.neg (by omega) (Ev.now _)))
  ·
   refine Ev.step (fun k => by rw [spec_l14Content.l0]) ?_
   exact Ev.pos ⟨h0, h1⟩ (Ev.neg (by omega) (Ev.now _))
 | succ n ihn =>
  intro i next names pos hi i0 n0 hp hpos
  obtain ⟨g1, g2, names', g3⟩ := parts_step (chk s d) s n next names hp
  have w1 : wrap64 (i + 1) = i + 1 := wrap64_id (by omega) (by omega)
  have ea := spec_l5After_ev s hs d next n0 (by omega)
  obtain ⟨r, e1, e3⟩ := ih next n0 (by omega) pos hpos
  rcases e3 with rfl | ⟨q, rfl, hq0, hq, hS⟩
  ·
   refine ⟨-1, ?_, Or.inl rfl⟩
   refine Ev.step (fun k => by rw [spec_l13Content.l0]) ?_
   exact Ev.pos h0 (Ev.pos h1 (Ev.pos (by omega) (Ev.bind e1 (Ev.pos (by omega) (Ev.now _)))))
  ·
   rw [g3] at hp
   obtain ⟨r2, f1, f3⟩ := ihn (i + 1) (chk s d next) names' q (by omega) (by omega) (by omega) hp hq
   refine ⟨r2, ?_, ?_⟩
   ·
    refine Ev.step (fun k => by rw [spec_l13Content.l0]) ?_
    refine Ev.pos h0 (Ev.pos h1 (Ev.pos (by omega) (Ev.bind e1 (Ev.neg (by omega) (Ev.bind ea ?_)))))
    rw [w1]; exact f1
   ·
    rcases f3 with rfl | ⟨q2, rfl, hq2, hq3, hS2⟩
    ·
     exact Or.inl rfl
    ·
     refine Or.inr ⟨q2, rfl, by omega, hq3, fun rep dfn reps T b hT hb => ?_⟩
     obtain ⟨T1, x1, hT1⟩ := hS rep dfn reps T b hT (by omega)
     obtain ⟨T2, x2, hT2⟩ := hS2 rep dfn reps T1 _ hT1 (by omega)
     refine ⟨T2, ?_, by rw [show b + (q2 - pos) = b + (q - pos) + (q2 - q) from by omega]; exact hT2⟩
     refine Ev.step (fun k => by rw [spec_l14Content.l0]) ?_
     refine Ev.pos ⟨h0, h1⟩ (Ev.pos (by omega) (Ev.bind x1 (Ev.bind ea ?_)))
     rw [w1]; exact x2
theorem sh_content (hs : ColsOk s) (hN : N = lf s s.length) (hL : L.length ≤ 300) (hV : ∀ v ∈ L, I64 v.f0) (d : Nat) (ih : ShP s L N d) : ShC s L N (d + 1) := by
 intro p h0 h pos hpos
 obtain ⟨h1, hm0, hc⟩ := chk_parts s d p h
 have hl := hs.1
 have W1 : Aside0 (wrap64 (p + 1) = p + 1) := ⟨wrap64_id (by omega) (by omega)⟩
 have W2 : Aside0 (wrap64 ((pos : Int) + 1) = ((pos + 1 : Nat) : Int)) := ⟨by rw [wrap64_id (by omega) (by omega)]; omega⟩
 by_cases h7 : (rd_T94 s p).f1 = 7
 ·
  obtain ⟨r, e1, e3⟩ := sh_parts s L N hs d ih p h0 h1 (rd_T94 s p).f3.toNat 0 (p + 1) [] pos (by omega) (by omega) (by omega) (by rw [← hc]; exact h) hpos
  refine ⟨r, ?_, ?_⟩
  ·
   refine Ev.step (fun k => by rw [spec_l13Content.f]) ?_
   refine Ev.pos h0 (Ev.pos h1 (Ev.pos h7 ?_))
   rw [W1.out]; exact e1
  ·
   rcases e3 with rfl | ⟨q, rfl, hq0, hq, hS⟩
   ·
    exact Or.inl rfl
   ·
    refine Or.inr ⟨q, rfl, hq0, hq, fun rep dfn reps T b hT hb => ?_⟩
    obtain ⟨T1, x1, hT1⟩ := hS rep dfn reps T b hT hb
    refine ⟨T1, ?_, hT1⟩
    refine Ev.step (fun k => by rw [spec_l14Content.f]) ?_
    refine Ev.pos ⟨h0, h1⟩ (Ev.pos h7 ?_)
    rw [W1.out]; exact x1
 ·
  by_cases hp : L.length ≤ pos
  ·
   have hge : (pos : Int) ≥ (L.length : Int) := Int.ofNat_le.mpr hp
   have e : Ev (fun k => spec_l13Content.f k s p L (pos : Int)) (-1) := by
    refine Ev.step (fun k => by rw [spec_l13Content.f]) ?_
    refine Ev.pos h0 ?_
    refine Ev.pos h1 ?_
    refine Ev.neg h7 ?_
    refine Ev.pos hge ?_
    exact Ev.now _
   exact ⟨-1, e, Or.inl rfl⟩
  ·
   have hsp : ∀ r, Ev (fun _ : Nat => if vOk (rd_T94 s p).f1 (rd_T30 L (pos : Int)) = true then some (wrap64 ((pos : Int) + 1)) else some (-1)) r → Ev (fun k => spec_l13Content.f k s p L (pos : Int)) r := by
    intro r hr
    refine Ev.step (fun k => by rw [spec_l13Content.f]) ?_
    exact Ev.pos h0 (Ev.pos h1 (Ev.neg h7 (Ev.neg (by omega) (Ev.pos (by omega) (Ev.pos (by omega) (Ev.bind (spec_ValOk_ev _ _) hr))))))
   by_cases hv : vOk (rd_T94 s p).f1 (rd_T30 L (pos : Int)) = true
   ·
    refine ⟨((pos + 1 : Nat) : Int), hsp _ ?_, Or.inr ⟨pos + 1, rfl, by omega, by omega, fun rep dfn reps T b hT hb => ?_⟩⟩
    ·
     rw [W2.out]; exact Ev.pos hv (Ev.now _)
    ·
     obtain ⟨p', rfl⟩ : ∃ e : Nat, p = (e : Int) := ⟨p.toNat, by omega⟩
     have el := l14Leaf_ev s hs.1 p' (by omega)
     have hlt : lf s p' < N := by
      have h2 := lf_succ s p'
      rw [if_neg h7] at h2
      have h3 := lf_mono s (p' + 1) (s.length - (p' + 1))
      rw [show p' + 1 + (s.length - (p' + 1)) = s.length from by omega] at h3
      omega
     have hi2 : lf s p' < T.length := by rw [hT.1]; exact hlt
     refine ⟨T.set (lf s p') (T.getD (lf s p') [] ++ [⟨rep, dfn, rd_T30 L (pos : Int)⟩]), ?_, by rw [List.length_set]; exact hT.1, fun j => ?_⟩
     ·
      refine Ev.step (fun k => by rw [spec_l14Content.f]) ?_
      refine Ev.pos ⟨h0, h1⟩ (Ev.neg h7 (Ev.bind el (Ev.pos ⟨by omega, by omega, ?_, by omega, by omega⟩ ?_)))
      ·
       have := (hT.2 (lf s p')).1; rw [Int.toNat_natCast]; omega
      ·
       rw [Int.toNat_natCast, W2.out]; exact Ev.now _
     ·
      rw [getD_put _ _ _ _ hi2]
      split
      ·
       refine ⟨by rw [List.length_append]; have := (hT.2 (lf s p')).1; simp only [List.length_singleton]; omega, (hT.2 (lf s p')).2.snoc ?_⟩
       show I64 (L.getD (pos : Int).toNat _).f0
       rw [List.getD_eq_getElem?_getD, List.getElem?_eq_getElem (by omega)]
       exact hV _ (List.getElem_mem _)
      ·
       exact ⟨by have := (hT.2 j).1; omega, (hT.2 j).2⟩
   ·
    exact ⟨-1, hsp _ (Ev.neg hv (Ev.now _)), Or.inl rfl⟩
theorem sh_rep (d : Nat) (ih : ShC s L N d) (p : Int) (h0 : 0 ≤ p) (h : chk s d p ≠ -1) (n : Int) (hn : n ≤ 20) : ∀ (m : Nat) (i : Int) (pos : Nat), i + m = n → 0 ≤ i → pos ≤ L.length →
  ∃ r, Ev (fun k => spec_l13Part.l0 k s p L (pos : Int) n i) r ∧ (r = -1 ∨ ∃ q : Nat, r = (q : Int) ∧ pos ≤ q ∧ q ≤ L.length ∧
   ∀ (rep dfn reps : Int) (T : TT) (b : Nat), Room T N b → b + (q - pos) ≤ 1000000 → ∃ T', Ev (fun k => spec_l14Part.l0 k s p L (pos : Int) rep dfn reps T n i) (T', (q : Int)) ∧ Room T' N (b + (q - pos))) := by
 intro m
 induction m with
 | zero =>
  intro i pos hi i0 hpos
  refine ⟨(pos : Int), Ev.step (fun k => by rw [spec_l13Part.l0]) (by exact Ev.neg (by omega) (Ev.now _)), Or.inr ⟨pos, rfl, Nat.le_refl _, hpos, fun rep dfn reps T b hT hb => ⟨T, ?_, by rw [Nat.sub_self]; exact hT⟩⟩⟩
  exact Ev.step (fun k => by rw [spec_l14Part.l0]) (by exact Ev.neg (by omega) (Ev.now _))
 | succ m im =>
  intro i pos hi i0 hpos
  have w1 : wrap64 (i + 1) = i + 1 := wrap64_id (by omega) (by omega)
  obtain ⟨r, e1, e3⟩ := ih p h0 h pos hpos
  rcases e3 with rfl | ⟨q, rfl, hq0, hq, hS⟩
  ·
   exact ⟨-1, Ev.step (fun k => by rw [spec_l13Part.l0]) (by exact Ev.pos (by omega) (Ev.bind e1 (Ev.pos (by omega) (Ev.now _)))), Or.inl rfl⟩
  ·
   obtain ⟨r2, f1, f3⟩ := im (i + 1) q (by omega) (by omega) hq
   refine ⟨r2, ?_, ?_⟩
   ·
    refine Ev.step (fun k => by rw [spec_l13Part.l0]) ?_
    refine Ev.pos (by omega) (Ev.bind e1 (Ev.neg (by omega) ?_))
    rw [w1]; exact f1
   ·
    rcases f3 with rfl | ⟨q2, rfl, hq2, hq3, hS2⟩
    ·
     exact Or.inl rfl
    ·
     refine Or.inr ⟨q2, rfl, by omega, hq3, fun rep dfn reps T b hT hb => ?_⟩
     obtain ⟨T1, x1, hT1⟩ := hS rep (wrap64 (dfn + 1)) reps T b hT (by omega)
     obtain ⟨T2, x2, hT2⟩ := hS2 reps dfn reps T1 _ hT1 (by omega)
     refine ⟨T2, ?_, by rw [show b + (q2 - pos) = b + (q - pos) + (q2 - q) from by omega]; exact hT2⟩
     refine Ev.step (fun k => by rw [spec_l14Part.l0]) ?_
     refine Ev.pos (by omega) (Ev.bind x1 ?_)
     rw [w1]; exact x2
end
section
variable (s : List S94) (L : List S30) (N : Nat)
theorem sh_part (hs : ColsOk s) (hN : N = lf s s.length) (hL : L.length ≤ 300) (d : Nat) (ih : ShC s L N d) : ShP s L N d := by
 intro p h0 h pos hpos
 have hr := chk_range s d p h0
 have h1 : p < s.length := by omega
 have W2 : Aside0 (wrap64 ((pos : Int) + 1) = ((pos + 1 : Nat) : Int)) := ⟨by rw [wrap64_id (by omega) (by omega)]; omega⟩
 by_cases hz : (rd_T94 s p).f2 = 0
 ·
  obtain ⟨r, e1, e3⟩ := ih p h0 h pos hpos
  refine ⟨r, ?_, ?_⟩
  ·
   refine Ev.step (fun k => by rw [spec_l13Part.f]) ?_
   refine Ev.pos h0 (Ev.pos h1 (Ev.pos hz ?_))
   refine Ev.step (fun k => by rw [spec_l13Part.j1]) ?_
   refine Ev.step (fun k => by rw [spec_l13Part.l0]) ?_
   refine Ev.pos (by omega) (Ev.bind e1 ?_)
   rcases e3 with rfl | ⟨q, rfl, hq0, hq, hS⟩
   ·
    exact Ev.pos (by omega) (Ev.now _)
   ·
    refine Ev.neg (by omega) ?_
    rw [wrap64_id (by omega) (by omega)]
    exact Ev.step (fun k => by rw [spec_l13Part.l0]) (by exact Ev.neg (by omega) (Ev.now _))
  ·
   rcases e3 with rfl | ⟨q, rfl, hq0, hq, hS⟩
   ·
    exact Or.inl rfl
   ·
    refine Or.inr ⟨q, rfl, hq0, hq, fun rep dfn reps T b hT hb => ?_⟩
    obtain ⟨T1, x1, hT1⟩ := hS rep dfn reps T b hT hb
    refine ⟨T1, ?_, hT1⟩
    refine Ev.step (fun k => by rw [spec_l14Part.f]) ?_
    exact Ev.pos ⟨h0, h1⟩ (Ev.pos hz x1)
 ·
  obtain ⟨most, hmost⟩ : ∃ most : Int, most = if (rd_T94 s p).f2 = 2 then 20 else 1 := ⟨_, rfl⟩
  have hm20 : most ≤ 20 := by rw [hmost]; split <;> omega
  have spf : ∀ r, Ev (fun k => spec_l13Part.j0 k s p L (pos : Int) most) r → Ev (fun k => spec_l13Part.f k s p L (pos : Int)) r := by
   intro r hr'
   refine Ev.step (fun k => by rw [spec_l13Part.f]) ?_
   refine Ev.pos h0 (Ev.pos h1 (Ev.neg hz ?_))
   by_cases h2 : (rd_T94 s p).f2 = 2
   ·
    rw [if_pos h2] at hmost
    subst hmost
    exact Ev.pos h2 hr'
   ·
    rw [if_neg h2] at hmost
    subst hmost
    exact Ev.neg h2 hr'
  clear hmost
  by_cases hp : L.length ≤ pos
  ·
   have hge : (pos : Int) ≥ (L.length : Int) := Int.ofNat_le.mpr hp
   exact ⟨-1, spf _ (Ev.step (fun k => by rw [spec_l13Part.j0]) (by exact Ev.pos hge (Ev.now _))), Or.inl rfl⟩
  have hlt : (pos : Int) < (L.length : Int) := Int.ofNat_lt.mpr (Nat.lt_of_not_le hp)
  have hg0 : (0 : Int) ≤ (pos : Int) := Int.natCast_nonneg pos
  have hcnt := l13Count_some (rd_T30 L (pos : Int)) most
  by_cases hv : vcount (rd_T30 L (pos : Int)) most = -1
  ·
   rw [hv] at hcnt
   exact ⟨-1, spf _ (Ev.step (fun k => by rw [spec_l13Part.j0]) (by exact Ev.neg (by omega) (Ev.pos hg0 (Ev.pos hlt (Ev.here hcnt (Ev.pos (by decide) (Ev.now _))))))), Or.inl rfl⟩
  ·
   have hvc : vcount (rd_T30 L (pos : Int)) most = (rd_T30 L (pos : Int)).f0 ∧ 0 ≤ (rd_T30 L (pos : Int)).f0 ∧ (rd_T30 L (pos : Int)).f0 ≤ most := by
    unfold vcount at hv ⊢
    by_cases hc : (rd_T30 L (pos : Int)).f1.toList = [] ∧ 0 ≤ (rd_T30 L (pos : Int)).f0 ∧ (rd_T30 L (pos : Int)).f0 ≤ most
    ·
     rw [if_pos hc]; exact ⟨rfl, hc.2⟩
    ·
     rw [if_neg hc] at hv; exact absurd rfl hv
   rw [hvc.1] at hcnt
   obtain ⟨n, hn⟩ : ∃ n, n = (rd_T30 L (pos : Int)).f0 := ⟨_, rfl⟩
   have hcn : spec_l13Count.f (rd_T30 L (pos : Int)).f0 (rd_T30 L (pos : Int)).f1 most = some n := by rw [hcnt, hn]
   obtain ⟨n0, n1⟩ : 0 ≤ n ∧ n ≤ most := by rw [hn]; exact hvc.2
   clear hvc hcnt
   obtain ⟨r, e1, e3⟩ := sh_rep s L N d ih p h0 h n (by omega) n.toNat 0 (pos + 1) (by omega) (by omega) (by omega)
   refine ⟨r, spf _ ?_, ?_⟩
   ·
    refine Ev.step (fun k => by rw [spec_l13Part.j0]) ?_
    refine Ev.neg (by omega) (Ev.pos hg0 (Ev.pos hlt (Ev.here hcn (Ev.neg (by omega) ?_))))
    refine Ev.step (fun k => by rw [spec_l13Part.j1]) ?_
    rw [W2.out]; exact e1
   ·
    rcases e3 with rfl | ⟨q, rfl, hq0, hq, hS⟩
    ·
     exact Or.inl rfl
    ·
     refine Or.inr ⟨q, rfl, by omega, hq, fun rep dfn reps T b hT hb => ?_⟩
     by_cases hn0 : n = 0
     ·
      obtain ⟨T1, x1, hT1⟩ := null_ev s hs d p h0 h ⟨rep, dfn, z30⟩ (show I64 0 by unfold I64; omega) N b hN (by omega) T hT
      have hq1 : q = pos + 1 := by
       subst hn0
       have e2 : Ev (fun k => spec_l13Part.l0 k s p L ((pos + 1 : Nat) : Int) 0 0) ((pos + 1 : Nat) : Int) := Ev.step (fun k => by rw [spec_l13Part.l0]) (by exact Ev.neg (by omega) (Ev.now _))
       have := Ev.det e1 e2
       omega
      refine ⟨T1, ?_, by rw [show b + (q - pos) = b + 1 from by omega]; exact hT1⟩
      refine Ev.step (fun k => by rw [spec_l14Part.f]) ?_
      refine Ev.pos ⟨h0, h1⟩ (Ev.neg hz (Ev.pos ⟨hg0, hlt⟩ (Ev.pos (by rw [← hn]; exact hn0) (Ev.bind x1 ?_))))
      rw [W2.out, hq1]
      exact Ev.now _
     ·
      obtain ⟨T1, x1, hT1⟩ := hS rep dfn (if (rd_T94 s p).f2 = 2 then wrap64 (reps + 1) else reps) T b hT (by omega)
      refine ⟨T1, ?_, hT1.1, fun j => ⟨by have := (hT1.2 j).1; omega, (hT1.2 j).2⟩⟩
      refine Ev.step (fun k => by rw [spec_l14Part.f]) ?_
      refine Ev.pos ⟨h0, h1⟩ (Ev.neg hz (Ev.pos ⟨hg0, hlt⟩ (Ev.neg (by rw [← hn]; exact hn0) ?_)))
      rw [W2.out, ← hn]
      exact x1
theorem sh_all (hs : ColsOk s) (hN : N = lf s s.length) (hL : L.length ≤ 300) (hV : ∀ v ∈ L, I64 v.f0) : ∀ d : Nat, ShC s L N d ∧ ShP s L N d := by
 intro d
 induction d with
 | zero =>
  have h : ShC s L N 0 := fun p h0 hk => absurd (by unfold chk; rfl) hk
  exact ⟨h, sh_part s L N hs hN hL 0 h⟩
 | succ d ih =>
  have h := sh_content s L N hs hN hL hV d ih.2
  exact ⟨h, sh_part s L N hs hN hL (d + 1) h⟩
end
theorem rec_shred (s : List S94) (hs : ColsOk s) (hk : schOk s = true) (L : List S30) (hV : ∀ v ∈ L, I64 v.f0) : ∃ b, Ev (fun k => spec_RecOk.f k s L) b ∧ (b = true → ∀ (T : TT) (c : Nat), Room T (lf s s.length) c → c + 300 ≤ 1000000 → ∃ T' q, Ev (fun k => spec_l14Content.f k s 0 L 0 0 0 0 T) (T', q) ∧ Room T' (lf s s.length) (c + 300)) := by
 obtain ⟨k1, k2, k3, k4⟩ := schOk_parts hk
 have e0 := spec_SchemaOk_ev s hs
 rw [hk] at e0
 by_cases hl : (L.length : Int) ≤ 300
 ·
  obtain ⟨r, e1, e2⟩ := (sh_all s L (lf s s.length) hs rfl (by omega) hV 6).1 0 (Int.le_refl _) (by omega) 0 (Nat.zero_le _)
  refine ⟨r == (L.length : Int), ?_, fun hb T c hT hc => ?_⟩
  ·
   unfold spec_RecOk.f
   exact Ev.bind e0 (Ev.pos rfl (Ev.pos hl (Ev.bind e1 (Ev.now _))))
  ·
   have hr : r = (L.length : Int) := beq_iff_eq.mp hb
   rcases e2 with h | ⟨q, hq, -, hq2, hS⟩
   ·
    omega
   ·
    obtain ⟨T', x, hR⟩ := hS 0 0 0 T c hT (by omega)
    exact ⟨T', _, x, hR.1, fun j => ⟨by have := (hR.2 j).1; omega, (hR.2 j).2⟩⟩
 ·
  refine ⟨false, ?_, fun h => absurd h (by decide)⟩
  unfold spec_RecOk.f
  exact Ev.bind e0 (Ev.pos rfl (Ev.neg hl (Ev.now _)))
theorem recEmpty_ev (s : List S94) (hs : ColsOk s) (hk : schOk s = true) : Ev (fun k => spec_RecEmpty.f k s) (emp s 6 0, true) := by
 obtain ⟨k1, k2, k3, k4⟩ := schOk_parts hk
 have e0 := spec_SchemaOk_ev s hs
 rw [hk] at e0
 have hz : (rd_T94 s 0).f2 = 0 := by
  unfold rootB at k3
  simp only [Bool.and_eq_true, decide_eq_true_eq] at k3
  exact k3.1.2
 unfold spec_RecEmpty.f
 exact Ev.bind e0 (Ev.pos rfl (Ev.bind (spec_l13Empty_ev s hs 6 (Nat.le_refl _) 0 (Int.le_refl _) (fun _ => hz) (by omega)) (Ev.now _)))
theorem eParts_fine (s : List S94) (f : Int → List S30) (hf : ∀ p, VFine (f p)) : ∀ (n : Nat) (next : Int), VFine (eParts f s n next)
 | 0, _ => fun v hv => absurd hv (by simp [eParts])
 | n + 1, next => fun v hv => by
  rw [eParts] at hv
  rcases List.mem_append.mp hv with h | h
  ·
   exact hf _ v h
  ·
   exact eParts_fine s f hf n _ v h
theorem emp_fine (s : List S94) : ∀ (d : Nat) (p : Int), VFine (emp s d p)
 | 0, _ => fun v hv => absurd hv (by simp [emp])
 | d + 1, p => fun v hv => by
  rw [emp] at hv
  split at hv
  ·
   exact eParts_fine s (emp s d) (emp_fine s d) _ _ v hv
  ·
   rw [List.mem_singleton.mp hv]; show I64 0; unfold I64; omega
theorem drawRec_ev (sc : List S94) (hs : ColsOk sc) (hk : schOk sc = true) (s : List Int) (i h : Int) (hc : Cur s i) : ∃ (r : List S30) (i' h' : Int), Ev (fun k => spec_l13DrawRight.f k s i h sc) (r, i', h') ∧ Cur s i' ∧ VFine r := by
 obtain ⟨k1, k2, k3, k4⟩ := schOk_parts hk
 have hW : cW 6 = 67368421 := rfl
 obtain ⟨⟨r, i1, h1⟩, e1, c1, -, v1⟩ := drawpart_all sc hs s 6 0 (Int.le_refl _) (by omega) i h [] hc (fun v hv => absurd hv (by simp)) (by
  have : (chk sc 6 0 - 0).toNat ≤ 20 := by omega
  have := Nat.mul_le_mul_right (cW 6) this
  rw [hW] at this ⊢
  simp only [List.length_nil]
  omega)
 obtain ⟨b, e2, -⟩ := rec_shred sc hs hk r v1
 cases b with
 | true =>
  refine ⟨r, i1, h1, ?_, c1, v1⟩
  unfold spec_l13DrawRight.f
  exact Ev.bind e1 (Ev.bind e2 (Ev.pos rfl (Ev.now _)))
 | false =>
  refine ⟨emp sc 6 0, i1, h1, ?_, c1, emp_fine sc 6 0⟩
  unfold spec_l13DrawRight.f
  exact Ev.bind e1 (Ev.bind e2 (Ev.neg Bool.false_ne_true (Ev.bind (recEmpty_ev sc hs hk) (Ev.now _))))
theorem drawRecs_ev (sc : List S94) (hs : ColsOk sc) (hk : schOk sc = true) (s : List Int) (i h most : Int) (hc : Cur s i) (hm0 : 0 ≤ most) (hm : most ≤ 100) : ∃ (r : List S100) (i' h' : Int), Ev (fun k => spec_l14DrawRecs.f k s i h sc most) (r, i', h') ∧ Cur s i' ∧ r.length ≤ 101 ∧ (∀ x ∈ r, VFine x.f0) := by
 have hw : wrap64 (most + 1) = most + 1 := wrap64_id (by omega) (by omega)
 obtain ⟨n, i1, h1, e1, n0, n1, -, c1⟩ := l1Below_some s i h (wrap64 (most + 1)) hc
 rw [hw] at n1
 have n1 := n1 (by omega)
 have key : ∀ (m : Nat) (j i h : Int) (out : List S100), j + m = n → 0 ≤ j → Cur s i → out.length + m ≤ 101 → (∀ x ∈ out, VFine x.f0) → ∃ (r : List S100) (i' h' : Int), Ev (fun k => spec_l14DrawRecs.l0 k s sc n j i h out) (r, i', h') ∧ Cur s i' ∧ r.length ≤ 101 ∧ (∀ x ∈ r, VFine x.f0) := by
  intro m
  induction m with
  | zero =>
   intro j i h out hj h0 hc ho hv
   exact ⟨out, i, h, Ev.step (fun k => by rw [spec_l14DrawRecs.l0]) (by exact Ev.neg (by omega) (Ev.now _)), hc, by omega, hv⟩
  | succ m im =>
   intro j i h out hj h0 hc ho hv
   obtain ⟨v, i2, h2, e2, c2, vv⟩ := drawRec_ev sc hs hk s i h hc
   obtain ⟨r, i3, h3, e3, c3, s3⟩ := im (j + 1) i2 h2 (out ++ [⟨v⟩]) (by omega) (by omega) c2 (by rw [List.length_append]; simp only [List.length_singleton]; omega) (fun x hx => by
    rcases List.mem_append.mp hx with h1 | h1
    ·
     exact hv x h1
    ·
     rw [List.mem_singleton.mp h1]; exact vv)
   refine ⟨r, i3, h3, Ev.step (fun k => by rw [spec_l14DrawRecs.l0]) ?_, c3, s3⟩
   refine Ev.pos (by omega) (Ev.bind e2 (Ev.pos (by omega) ?_))
   rw [wrap64_id (x := j + 1) (by omega) (by omega)]
   exact e3
 obtain ⟨r, i2, h2, e2, c2, s2⟩ := key n.toNat 0 i1 h1 [] (by omega) (Int.le_refl _) c1 (by simp only [List.length_nil]; omega) (fun x hx => absurd hx (by simp))
 refine ⟨r, i2, h2, ?_, c2, s2⟩
 unfold spec_l14DrawRecs.f
 exact Ev.here e1 e2
def ColumnsOk (r : List S69) : Prop := r.length ≤ 20 ∧ ∀ x ∈ r, x.f0.length ≤ 2000 ∧ Fine x.f0
theorem shred_out (T : TT) (hT : T.length ≤ 20) (hF : ∀ j : Nat, Fine (T.getD j [])) : ∃ r b, Ev (fun k => spec_Shred.l1 k T 0 []) (r, b) ∧ ColumnsOk r := by
 have key : ∀ (m i : Nat) (out : List S69), i + m = T.length → out.length = i → (∀ x ∈ out, x.f0.length ≤ 2000 ∧ Fine x.f0) → ∃ r b, Ev (fun k => spec_Shred.l1 k T (i : Int) out) (r, b) ∧ ColumnsOk r := by
  intro m
  induction m with
  | zero =>
   intro i out hi ho hx
   exact ⟨out, true, Ev.step (fun k => by rw [spec_Shred.l1]) (by exact Ev.neg (by omega) (Ev.now _)), by omega, hx⟩
  | succ m im =>
   intro i out hi ho hx
   by_cases h2 : ((T.getD (i : Int).toNat []).length : Int) > 2000
   ·
    exact ⟨[], false, Ev.step (fun k => by rw [spec_Shred.l1]) (by exact Ev.pos (by omega) (Ev.pos ⟨by omega, by omega⟩ (Ev.pos h2 (Ev.now _)))), by simp, fun x hx => absurd hx (by simp)⟩
   ·
    obtain ⟨r, b, e, hr⟩ := im (i + 1) (out ++ [⟨T.getD (i : Int).toNat []⟩]) (by omega) (by rw [List.length_append, ho]; rfl) (fun x hx' => by
     rcases List.mem_append.mp hx' with h | h
     ·
      exact hx x h
     ·
      rw [List.mem_singleton.mp h]; exact ⟨by show (T.getD (i : Int).toNat []).length ≤ 2000; omega, hF _⟩)
    refine ⟨r, b, Ev.step (fun k => by rw [spec_Shred.l1]) ?_, hr⟩
    refine Ev.pos (by omega) (Ev.pos ⟨by omega, by omega⟩ (Ev.neg h2 ?_))
    rw [show wrap64 ((i : Int) + 1) = ((i + 1 : Nat) : Int) from by rw [wrap64_id (by omega) (by omega)]; omega]
    exact e
 exact key T.length 0 [] (by omega) rfl (fun x hx => absurd hx (by simp))
theorem shred_ev (sc : List S94) (hs : ColsOk sc) (hk : schOk sc = true) (recs : List S100) (hr : recs.length ≤ 200) (hV : ∀ x ∈ recs, VFine x.f0) : ∃ r b, Ev (fun k => spec_Shred.f k sc recs) (r, b) ∧ ColumnsOk r := by
 obtain ⟨k1, k2, k3, k4⟩ := schOk_parts hk
 have e0 := spec_SchemaOk_ev sc hs
 rw [hk] at e0
 have el := spec_l5Leaves_ev sc hs.1
 have hlen := lvs_length sc sc.length
 have key : ∀ (m i : Nat) (T : TT), i + m = recs.length → Room T (lf sc sc.length) (300 * i) → ∃ r b, Ev (fun k => spec_Shred.l0 k sc recs T (i : Int)) (r, b) ∧ ColumnsOk r := by
  intro m
  induction m with
  | zero =>
   intro i T hi hT
   obtain ⟨r, b, e, h⟩ := shred_out T (by rw [hT.1]; have := lf_le sc sc.length; omega) (fun j => (hT.2 j).2)
   exact ⟨r, b, Ev.step (fun k => by rw [spec_Shred.l0]) (by exact Ev.neg (by omega) e), h⟩
  | succ m im =>
   intro i T hi hT
   obtain ⟨b, e1, e2⟩ := rec_shred sc hs hk (rd_T100 recs (i : Int)).f0 (by
    unfold rd_T100
    rw [List.getD_eq_getElem?_getD, List.getElem?_eq_getElem (by omega)]
    exact hV _ (List.getElem_mem _))
   cases b with
   | false => exact ⟨[], false, Ev.step (fun k => by rw [spec_Shred.l0]) (by exact Ev.pos (by omega) (Ev.pos (by omega) (Ev.bind e1 (Ev.neg Bool.false_ne_true (Ev.now _))))), by simp, fun x hx => absurd hx (by simp)⟩
   | true =>
    obtain ⟨T', q, x, hR⟩ := e2 rfl T (300 * i) hT (by omega)
    obtain ⟨r, b, e, h⟩ := im (i + 1) T' (by omega) (by rw [show 300 * (i + 1) = 300 * i + 300 from by omega]; exact hR)
    refine ⟨r, b, Ev.step (fun k => by rw [spec_Shred.l0]) ?_, h⟩
    refine Ev.pos (by omega) (Ev.pos (by omega) (Ev.bind e1 (Ev.pos rfl (Ev.bind x ?_))))
    rw [show wrap64 ((i : Int) + 1) = ((i + 1 : Nat) : Int) from by rw [wrap64_id (by omega) (by omega)]; omega]
    exact e
 obtain ⟨r, b, e, h⟩ := key recs.length 0 (List.replicate (lvs sc sc.length).length []) (by omega) ⟨by rw [List.length_replicate]; unfold lf; rfl, fun j => by
  rw [List.getD_eq_getElem?_getD, List.getElem?_replicate]
  split <;> exact ⟨by simp, fun x hx => absurd hx (by simp)⟩⟩
 refine ⟨r, b, ?_, h⟩
 unfold spec_Shred.f
 exact Ev.bind e0 (Ev.pos rfl (Ev.neg (by omega) (Ev.bind el (Ev.pos (by omega) e))))
theorem l15Draw_ev (s : List Int) (i h most : Int) (hc : Cur s i) (hm0 : 0 ≤ most) (hm : most ≤ 100) : ∃ (x1 x2 x3 : Int) (list : List S36) (i' h' : Int), Ev (fun k => spec_l15Draw.f k s i h most) (x1, x2, x3, list, i', h') ∧ Cur s i' ∧ list.length ≤ 2000 ∧ Fine list := by
 obtain ⟨sc, i1, h1, e1, c1, d1, k1⟩ := l5DrawRight_ev s i h hc
 obtain ⟨q1, q2, -, -⟩ := schOk_parts k1
 have hs : ColsOk sc := d1.ok (by omega)
 obtain ⟨recs, i2, h2, e2, c2, s2, v2⟩ := drawRecs_ev sc hs k1 s i1 h1 most c1 hm0 hm
 obtain ⟨cols, b, e3, hco⟩ := shred_ev sc hs k1 recs (by omega) v2
 by_cases h0 : (cols.length : Int) = 0
 ·
  refine ⟨0, 0, 0, [], i2, h2, ?_, c2, by simp, fun x hx => absurd hx (by simp)⟩
  unfold spec_l15Draw.f
  exact Ev.bind e1 (Ev.bind e2 (Ev.bind e3 (Ev.pos h0 (Ev.now _))))
 ·
  obtain ⟨v, i3, h3, e4, v0, v1, -, c3⟩ := l1Below_some s i2 h2 (cols.length : Int) c2
  have v1 := v1 (by omega)
  have e5 := spec_LeafOf_ev sc hs v (by omega) (by have := hco.1; omega)
  obtain ⟨y1, y2, y3, y4, hy⟩ : ∃ y1 y2 y3 y4, leafR sc v = (y1, y2, y3, y4) := ⟨_, _, _, _, rfl⟩
  rw [hy] at e5
  refine ⟨y1, y2, y3, (rd_T69 cols v).f0, i3, h3, ?_, c3, ?_⟩
  ·
   unfold spec_l15Draw.f
   exact Ev.bind e1 (Ev.bind e2 (Ev.bind e3 (Ev.neg h0 (Ev.here e4 (Ev.bind e5 (Ev.pos ⟨v0, v1⟩ (Ev.now _)))))))
  ·
   unfold rd_T69
   rw [List.getD_eq_getElem?_getD, List.getElem?_eq_getElem (by omega)]
   exact hco.2 _ (List.getElem_mem _)
theorem l15Spoil_some (s : List Int) (i h : Int) (a b c : Int) (l : List S36) (hc : Cur s i) (hl : l.length ≤ 2000) (hF : Fine l) : ∃ (a' b' c' : Int) (l' : List S36) (i' h' : Int), spec_l15Spoil.f s i h a b c l = some (a', b', c', l', i', h') ∧ Cur s i' ∧ l'.length = l.length ∧ Fine l' := by
 unfold spec_l15Spoil.f
 simp only [Option.bind_some, List.nil_append, List.length_nil]
 rw [if_pos (by omega)]
 obtain ⟨v, i1, h1, e1, v0, v1, -, c1⟩ := l1Below_some s i h 25 hc
 rw [e1]
 simp only [Option.bind_some]
 by_cases h0 : v = 0
 ·
  rw [if_pos h0]
  obtain ⟨w, i2, h2, e2, -, c2⟩ := l1PickInt_some s i1 h1 [3, 7, a] c1 (by simp)
  rw [e2]
  exact ⟨_, _, _, _, _, _, rfl, c2, rfl, hF⟩
 rw [if_neg h0]
 by_cases h1' : v = 1
 ·
  rw [if_pos h1']
  obtain ⟨w, i2, h2, e2, -, c2⟩ := l1PickInt_some s i1 h1 [(-1), wrap64 (c + 1), 7] c1 (by simp)
  rw [e2]
  exact ⟨_, _, _, _, _, _, rfl, c2, rfl, hF⟩
 rw [if_neg h1']
 by_cases h2' : v = 2
 ·
  rw [if_pos h2']
  obtain ⟨w, i2, h2, e2, -, c2⟩ := l1PickInt_some s i1 h1 [(-1), 7, wrap64 (c + 1)] c1 (by simp)
  rw [e2]
  exact ⟨_, _, _, _, _, _, rfl, c2, rfl, hF⟩
 rw [if_neg h2']
 by_cases h3' : v = 3
 ·
  rw [if_pos h3']
  by_cases hp : (l.length : Int) > 0
  ·
   rw [if_pos hp]
   obtain ⟨w, i2, h2, e2, w0, w1, -, c2⟩ := l1Below_some s i1 h1 (l.length : Int) c1
   obtain ⟨x, i3, h3, e3, -, -, -, c3⟩ := l1Below_some s i2 h2 2 c2
   obtain ⟨y, i4, h4, e4, -, -, -, c4⟩ := l1Below_some s i3 h3 4 c3
   obtain ⟨z, i5, h5, e5, z0, z1, -, c5⟩ := l1Below_some s i4 h4 3 c4
   rw [e2]; simp only [Option.bind_some]; rw [e3]; simp only [Option.bind_some]; rw [e4]; simp only [Option.bind_some]; rw [e5]; simp only [Option.bind_some]
   rw [if_pos w0, if_pos (w1 (by omega))]
   refine ⟨_, _, _, _, _, _, rfl, c5, by rw [List.length_set], fun t ht => ?_⟩
   rcases List.mem_or_eq_of_mem_set ht with h | h
   ·
    exact hF t h
   ·
    rw [h]; have := z1 (by omega); show I64 z; unfold I64; omega
  ·
   rw [if_neg hp]
   exact ⟨_, _, _, _, _, _, rfl, c1, rfl, hF⟩
 ·
  rw [if_neg h3']
  exact ⟨_, _, _, _, _, _, rfl, c1, rfl, hF⟩
theorem drawStatsOf_ev (l : List Int) (hl : l.length ≤ 1048576) : ∃ (a b c : Int) (list : List S36), Ev (fun k => spec_DrawStatsOf.f k l) (a, b, c, list) ∧ list.length ≤ 2000 ∧ Fine list := by
 obtain ⟨h0, e0⟩ := l1New_ev l hl
 have c0 : Cur l 0 := ⟨by omega, by omega, hl⟩
 obtain ⟨x1, x2, x3, list, i1, h1, e1, c1, s1, f1⟩ := l15Draw_ev l 0 h0 9 c0 (by omega) (by omega)
 obtain ⟨a, b, c, list', i2, h2, e2, c2, s2, f2⟩ := l15Spoil_some l i1 h1 x1 x2 x3 list c1 s1 f1
 refine ⟨a, b, c, list', ?_, by omega, f2⟩
 unfold spec_DrawStatsOf.f
 exact Ev.bind e0 (Ev.bind e1 (Ev.here e2 (Ev.now _)))
def lOk (a b c : Int) : Bool := tOk a && decide (0 ≤ b ∧ b ≤ c ∧ c ≤ 6)
theorem spec_LeafOk_some (a b c : Int) : spec_LeafOk.f a b c = some (lOk a b c) := by
 unfold spec_LeafOk.f lOk
 rw [l5Type_some]
 simp only [Option.bind_some, l1In_some]
 cases tOk a with
 | false => rfl
 | true =>
  rw [if_pos rfl]
  by_cases h : 0 ≤ b ∧ b ≤ 6
  ·
   rw [if_pos (by simpa using h)]; congr 1; rw [Bool.true_and]; apply decide_eq_decide.2; constructor <;> intro h' <;> omega
  ·
   rw [if_neg (by simpa using h)]; congr 1; symm; rw [Bool.true_and]; apply decide_eq_false; omega
theorem impl_LeafOk_some (a b c : Int) : impl_LeafOk.f a b c = some (lOk a b c) := by
 unfold impl_LeafOk.f lOk
 rw [typeOk_some]
 simp only [Option.bind_some, within_some]
 cases tOk a with
 | false => rfl
 | true =>
  rw [if_pos rfl]
  by_cases h : 0 ≤ c ∧ c ≤ 6
  ·
   rw [if_pos (by simpa using h)]; congr 1; rw [Bool.true_and]; apply decide_eq_decide.2; constructor <;> intro h' <;> omega
  ·
   rw [if_neg (by simpa using h)]; congr 1; symm; rw [Bool.true_and]; apply decide_eq_false; omega
def fk (x : Int) : Int := if x < 0 then Go.bits .xor .i64 x 9223372036854775807 else x
theorem spec_fk (x : Int) : spec_FloatKey.f x = some (fk x) := by unfold spec_FloatKey.f fk; split <;> rfl
theorem impl_fk (x : Int) : impl_FloatKey.f x = some (fk x) := by unfold impl_FloatKey.f fk; split <;> rfl
def vLess (t : Int) (a b : S30) : Bool := vOk t a && vOk t b && (if t = 5 then decide (fk a.f0 < fk b.f0) else if t = 6 then Op.bytesLess a.f1.toList b.f1.toList else decide (a.f0 < b.f0))
theorem toList_at (a : ByteArray) : a.toList.length = a.size := by rw [ByteArray.toList_eq]; rw [Array.length_toList]; rfl
theorem bt_at (a : ByteArray) (i : Nat) (h : i < a.size) : ∃ u : UInt8, a.toList.drop i = u :: a.toList.drop (i + 1) ∧ bt a (i : Int) = u.toNat := by
 have hl := toList_at a
 refine ⟨a.toList[i]'(by omega), List.drop_eq_getElem_cons (by omega), ?_⟩
 unfold bt
 have hd : a.data.size = a.size := rfl
 rw [dif_pos (by simp; omega)]
 simp only [ByteArray.toList_eq]
 simp
 rfl
theorem spec_less_text (a b : ByteArray) (ha : a.size ≤ 1000000) (hb : b.size ≤ 1000000) (n0 n1 : Int) : ∀ (d i : Nat), i ≤ a.size → i ≤ b.size → i + d = a.size → Ev (fun k => spec_ValLess.l0 k (i : Int) n0 a n1 b) (Op.bytesLess (a.toList.drop i) (b.toList.drop i)) := by
 have la := toList_at a
 have lb := toList_at b
 intro d
 induction d with
 | zero =>
  intro i h1 h2 hi
  refine Ev.step (fun k => by rw [spec_ValLess.l0]) ?_
  refine Ev.neg (by omega) ?_
  refine Ev.step (fun k => by rw [spec_ValLess.j2]) ?_
  refine Ev.neg (by decide) (Ev.const ?_)
  congr 1
  rw [show a.toList.drop i = [] from List.drop_eq_nil_of_le (by omega)]
  by_cases hb2 : i < b.size
  ·
   obtain ⟨u, hu, _⟩ := bt_at b i hb2
   rw [hu]; simp [Op.bytesLess]; omega
  ·
   rw [show b.toList.drop i = [] from List.drop_eq_nil_of_le (by omega)]; simp [Op.bytesLess]; omega
 | succ d ih =>
  intro i h1 h2 hi
  obtain ⟨u, hu, eu⟩ := bt_at a i (by omega)
  refine Ev.step (fun k => by rw [spec_ValLess.l0]) ?_
  refine Ev.pos (by omega) ?_
  refine Ev.step (fun k => by rw [spec_ValLess.j2]) ?_
  by_cases hb2 : i < b.size
  ·
   obtain ⟨v, hv, ev⟩ := bt_at b i hb2
   refine Ev.pos (by simp; omega) (Ev.pos (by omega) (Ev.pos (by omega) (Ev.pos (by omega) ?_)))
   rw [eu, ev, hu, hv]
   by_cases he : u = v
   ·
    subst he
    refine Ev.pos rfl ?_
    rw [wrap64_id (by omega) (by omega)]
    have := ih (i + 1) (by omega) (by omega) (by omega)
    have e2 : Op.bytesLess (u :: a.toList.drop (i + 1)) (u :: b.toList.drop (i + 1)) = Op.bytesLess (a.toList.drop (i + 1)) (b.toList.drop (i + 1)) := by simp [Op.bytesLess]
    rw [e2]
    simpa using this
   ·
    have hn : ¬ ((u.toNat : Int) = (v.toNat : Int)) := fun h => he (UInt8.toNat_inj.1 (by exact_mod_cast h))
    refine Ev.neg hn (Ev.const ?_)
    congr 1
    have e2 : Op.bytesLess (u :: a.toList.drop (i + 1)) (v :: b.toList.drop (i + 1)) = decide (u < v) := by simp [Op.bytesLess, he]
    rw [e2]
    simp [UInt8.lt_iff_toNat_lt]
  ·
   refine Ev.neg (by simp; omega) (Ev.const ?_)
   congr 1
   rw [show b.toList.drop i = [] from List.drop_eq_nil_of_le (by omega), hu]; simp [Op.bytesLess]; omega
theorem vOk_text {t : Int} {v : S30} (h : vOk t v = true) (h6 : t = 6) : v.f1.size ≤ 40 := by
 subst h6
 unfold vOk at h
 simp at h; omega
theorem spec_ValLess_ev (t : Int) (a b : S30) : Ev (fun k => spec_ValLess.f k t a.f0 a.f1 b.f0 b.f1) (vLess t a b) := by
 have bad : ∀ {x}, x = true → vLess t a b = false → Ev (fun k => spec_ValLess.j0 k t x a.f0 a.f1 b.f0 b.f1) (vLess t a b) := fun hx h => by
  rw [h, hx]; exact Ev.step (fun k => by rw [spec_ValLess.j0]) (by exact Ev.pos rfl (Ev.now _))
 unfold spec_ValLess.f
 refine Ev.bind (spec_ValOk_ev t a) ?_
 cases ha : vOk t a with
 | false => exact Ev.neg (by decide) (bad rfl (by simp [vLess, ha]))
 | true =>
  refine Ev.pos rfl (Ev.bind (spec_ValOk_ev t b) ?_)
  cases hb : vOk t b with
  | false => exact bad rfl (by simp [vLess, hb])
  | true =>
   refine Ev.step (fun k => by rw [spec_ValLess.j0]) ?_
   refine Ev.neg (by decide) ?_
   by_cases h5 : t = 5
   ·
    refine Ev.pos h5 (Ev.here (spec_fk _) (Ev.here (spec_fk _) (Ev.const ?_)))
    unfold vLess; rw [ha, hb, if_pos h5]; rfl
   refine Ev.neg h5 ?_
   by_cases h6 : t = 6
   ·
    refine Ev.pos h6 ?_
    have := spec_less_text a.f1 b.f1 (by have := vOk_text ha h6; omega) (by have := vOk_text hb h6; omega) a.f0 b.f0 a.f1.size 0 (by omega) (by omega) (by omega)
    refine Ev.cast this ?_
    unfold vLess; rw [ha, hb, if_neg h5, if_pos h6]; rfl
   ·
    refine Ev.neg h6 (Ev.const ?_)
    unfold vLess; rw [ha, hb, if_neg h5, if_neg h6]; rfl
theorem impl_ValLess_ev (t : Int) (a b : S30) : Ev (fun k => impl_ValLess.f k t a.f0 a.f1 b.f0 b.f1) (vLess t a b) := by
 have bad : ∀ {x}, x = true → vLess t a b = false → Ev (fun k => impl_ValLess.j0 k t x a.f0 a.f1 b.f0 b.f1) (vLess t a b) := fun hx h => by
  rw [h, hx]; exact Ev.step (fun k => by rw [impl_ValLess.j0]) (by exact Ev.pos rfl (Ev.now _))
 unfold impl_ValLess.f
 refine Ev.here (impl_ValOk_some t a) ?_
 cases ha : vOk t a with
 | false => exact Ev.neg (by decide) (bad rfl (by simp [vLess, ha]))
 | true =>
  refine Ev.pos rfl (Ev.here (impl_ValOk_some t b) ?_)
  cases hb : vOk t b with
  | false => exact bad rfl (by simp [vLess, hb])
  | true =>
   refine Ev.step (fun k => by rw [impl_ValLess.j0]) ?_
   refine Ev.neg (by decide) ?_
   by_cases h5 : t = 5
   ·
    refine Ev.pos h5 (Ev.here (impl_fk _) (Ev.here (impl_fk _) (Ev.const ?_)))
    unfold vLess; rw [ha, hb, if_pos h5]; rfl
   refine Ev.neg h5 ?_
   by_cases h6 : t = 6
   ·
    refine Ev.pos h6 (Ev.const ?_)
    unfold vLess; rw [ha, hb, if_neg h5, if_pos h6]; rfl
   ·
    refine Ev.neg h6 (Ev.const ?_)
    unfold vLess; rw [ha, hb, if_neg h5, if_neg h6]; rfl
def tripOk (a b c : Int) (t : S36) : Bool := decide (0 ≤ t.f0 ∧ t.f0 ≤ b) && decide (0 ≤ t.f1 ∧ t.f1 ≤ c) && (if t.f1 = c then vOk a t.f2 else decide (t.f2.f0 = 0) && noText t.f2.f1)
def tripsOk (a b c : Int) (l : List S36) : Bool := l.all (tripOk a b c) && decide ((l.length : Int) ≤ 2000)
theorem impl_tripleOk_ev (a b c : Int) (t : S36) : Ev (fun k => impl_tripleOk.f k a b c t.f0 t.f1 t.f2.f0 t.f2.f1) (tripOk a b c t) := by
 have bad : ∀ {x}, x = true → tripOk a b c t = false → Ev (fun k => impl_tripleOk.j0 k x a b c t.f0 t.f1 t.f2.f0 t.f2.f1) (tripOk a b c t) := fun hx h => by
  rw [h, hx]; exact Ev.step (fun k => by rw [impl_tripleOk.j0]) (by exact Ev.pos rfl (Ev.now _))
 unfold impl_tripleOk.f
 refine Ev.here (within_some _ _ _) ?_
 by_cases h1 : 0 ≤ t.f0 ∧ t.f0 ≤ b
 ·
  refine Ev.pos (by simpa using h1) (Ev.here (within_some _ _ _) ?_)
  by_cases h2 : 0 ≤ t.f1 ∧ t.f1 ≤ c
  ·
   refine Ev.step (fun k => by rw [impl_tripleOk.j0]) ?_
   refine Ev.neg (by simpa using h2) ?_
   by_cases h3 : t.f1 = c
   ·
    refine Ev.pos h3 (Ev.here (impl_ValOk_some a t.f2) (Ev.const ?_))
    unfold tripOk; rw [if_pos h3]; simp only [decide_eq_true h1, decide_eq_true h2]; rfl
   ·
    refine Ev.neg h3 (Ev.const ?_)
    unfold tripOk noText; rw [if_neg h3]; simp only [decide_eq_true h1, decide_eq_true h2]; rfl
  ·
   exact bad (by rw [decide_eq_false h2]; rfl) (by unfold tripOk; rw [decide_eq_false h2]; simp)
 ·
  exact Ev.neg (by simpa using h1) (bad rfl (by unfold tripOk; rw [decide_eq_false h1]; simp))
theorem spec_l15Right_ev (a b c : Int) (t : S36) : Ev (fun k => spec_l15Right.f k a b c t.f0 t.f1 t.f2.f0 t.f2.f1) (tripOk a b c t) := by
 have bad : ∀ {x}, x = true → tripOk a b c t = false → Ev (fun k => spec_l15Right.j0 k x a b c t.f0 t.f1 t.f2.f0 t.f2.f1 0 (⟨#[]⟩ : ByteArray)) (tripOk a b c t) := fun hx h => by
  rw [h, hx]; exact Ev.step (fun k => by rw [spec_l15Right.j0]) (by exact Ev.pos rfl (Ev.now _))
 unfold spec_l15Right.f
 refine Ev.here (l1In_some _ _ _) ?_
 by_cases h1 : 0 ≤ t.f0 ∧ t.f0 ≤ b
 ·
  refine Ev.pos (by simpa using h1) (Ev.here (l1In_some _ _ _) ?_)
  by_cases h2 : 0 ≤ t.f1 ∧ t.f1 ≤ c
  ·
   refine Ev.step (fun k => by rw [spec_l15Right.j0]) ?_
   refine Ev.neg (by simpa using h2) ?_
   by_cases h3 : t.f1 = c
   ·
    refine Ev.neg (by omega) (Ev.bind (spec_ValOk_ev a t.f2) (Ev.const ?_))
    unfold tripOk; rw [if_pos h3]; simp only [decide_eq_true h1, decide_eq_true h2]; rfl
   ·
    refine Ev.pos (by omega) (Ev.const ?_)
    have hem : (⟨#[]⟩ : ByteArray).toList = ([] : List UInt8) := by unfold ByteArray.toList; unfold ByteArray.toList.loop; rfl
    rw [hem]
    unfold tripOk noText; rw [if_neg h3]; simp only [decide_eq_true h1, decide_eq_true h2]; rfl
  ·
   exact bad (by rw [decide_eq_false h2]; rfl) (by unfold tripOk; rw [decide_eq_false h2]; simp)
 ·
  exact Ev.neg (by simpa using h1) (bad rfl (by unfold tripOk; rw [decide_eq_false h1]; simp))
theorem impl_triplesRight_ev (a b c : Int) (l : List S36) (hl : l.length ≤ 1048576) : Ev (fun k => impl_triplesRight.f k a b c l) (tripsOk a b c l) := by
 unfold impl_triplesRight.f
 have key := all_loop (fun k i => impl_triplesRight.l0 k l l (l.length : Int) i a b c) (fun i => tripOk a b c (l.getD i z36)) l.length false (decide ((l.length : Int) ≤ 2000))
  (fun i r hi hp hr => by
   have e : rd_T36 l (i : Int) = l.getD i z36 := rfl
   refine Ev.step (fun k => by rw [impl_triplesRight.l0]) ?_
   refine Ev.pos (by omega) (Ev.pos (by omega) (Ev.pos (by omega) (Ev.bind (impl_tripleOk_ev a b c _) ?_)))
   rw [e, hp]
   refine Ev.pos rfl ?_
   rw [wrap64_id (by omega) (by omega)]
   simpa using hr)
  (fun i hi hp => by
   have e : rd_T36 l (i : Int) = l.getD i z36 := rfl
   refine Ev.step (fun k => by rw [impl_triplesRight.l0]) ?_
   refine Ev.pos (by omega) (Ev.pos (by omega) (Ev.pos (by omega) (Ev.bind (impl_tripleOk_ev a b c _) ?_)))
   rw [e, hp]
   exact Ev.neg (by decide) (Ev.now _))
  (by exact Ev.step (fun k => by rw [impl_triplesRight.l0]) (by exact Ev.neg (by omega) (Ev.now _)))
 refine Ev.cast key ?_
 rw [all_range]
 unfold tripsOk
 cases l.all (tripOk a b c) <;> simp
theorem spec_l15All_ev (a b c : Int) (l : List S36) (hl : l.length ≤ 1048576) : Ev (fun k => spec_l15All.f k a b c l) (lOk a b c && tripsOk a b c l) := by
 have bad : ∀ {x}, x = true → (lOk a b c && tripsOk a b c l) = false → Ev (fun k => spec_l15All.j0 k l x a b c) (lOk a b c && tripsOk a b c l) := fun hx h => by
  rw [h, hx]; exact Ev.step (fun k => by rw [spec_l15All.j0]) (by exact Ev.pos rfl (Ev.now _))
 unfold spec_l15All.f
 refine Ev.here (spec_LeafOk_some a b c) ?_
 cases ho : lOk a b c with
 | false => exact Ev.neg (by decide) (by rw [← ho]; exact bad rfl (by simp [ho]))
 | true =>
  refine Ev.pos rfl ?_
  rw [← ho]
  by_cases hn : (l.length : Int) > 2000
  ·
   exact bad (by simpa using hn) (by unfold tripsOk; rw [decide_eq_false (show ¬ ((l.length : Int) ≤ 2000) by omega)]; simp)
  ·
   refine Ev.step (fun k => by rw [spec_l15All.j0]) ?_
   refine Ev.neg (by simpa using hn) ?_
   have key := all_loop (fun k i => spec_l15All.l0 k l i a b c) (fun i => tripOk a b c (l.getD i z36)) l.length false true
    (fun i r hi hp hr => by
     have e : rd_T36 l (i : Int) = l.getD i z36 := rfl
     refine Ev.step (fun k => by rw [spec_l15All.l0]) ?_
     refine Ev.pos (by omega) (Ev.pos (by omega) (Ev.bind (spec_l15Right_ev a b c _) ?_))
     rw [e, hp]
     refine Ev.pos rfl ?_
     rw [wrap64_id (by omega) (by omega)]
     simpa using hr)
    (fun i hi hp => by
     have e : rd_T36 l (i : Int) = l.getD i z36 := rfl
     refine Ev.step (fun k => by rw [spec_l15All.l0]) ?_
     refine Ev.pos (by omega) (Ev.pos (by omega) (Ev.bind (spec_l15Right_ev a b c _) ?_))
     rw [e, hp]
     exact Ev.neg (by decide) (Ev.now _))
    (by exact Ev.step (fun k => by rw [spec_l15All.l0]) (by exact Ev.neg (by omega) (Ev.now _)))
   refine Ev.cast key ?_
   rw [all_range]
   unfold tripsOk
   rw [decide_eq_true (show ((l.length : Int) ≤ 2000) by omega), ho]
   cases l.all (tripOk a b c) <;> simp
structure SSt where
 n : Int
 h : Bool
 lo : S30
 hi : S30
def sStep (a c : Int) (s : SSt) (t : S36) : SSt :=
 if t.f1 = c then ⟨s.n, true, if s.h = true then (if vLess a t.f2 s.lo = true then t.f2 else s.lo) else t.f2, if s.h = true then (if vLess a s.hi t.f2 = true then t.f2 else s.hi) else t.f2⟩
 else ⟨wrap64 (s.n + 1), s.h, s.lo, s.hi⟩
def sOut (s : SSt) : Int × Bool × Int × ByteArray × Int × ByteArray × Bool := (s.n, s.h, s.lo.f0, s.lo.f1, s.hi.f0, s.hi.f1, true)
def s0 : SSt := ⟨0, false, ⟨0, ⟨#[]⟩⟩, ⟨0, ⟨#[]⟩⟩⟩
def statsR (a b c : Int) (l : List S36) : Int × Bool × Int × ByteArray × Int × ByteArray × Bool :=
 if (lOk a b c && tripsOk a b c l) = true then sOut ((List.range l.length).foldl (fun s (i : Nat) => sStep a c s (rd_T36 l (i : Int))) s0) else (0, false, 0, (⟨#[]⟩ : ByteArray), 0, (⟨#[]⟩ : ByteArray), false)
theorem impl_StatsOf_ev (a b c : Int) (l : List S36) (hl : l.length ≤ 1048576) : Ev (fun k => impl_StatsOf.f k a b c l) (statsR a b c l) := by
 have bad : ∀ {x}, x = true → (lOk a b c && tripsOk a b c l) = false → Ev (fun k => impl_StatsOf.j0 k l x a b c) (statsR a b c l) := fun hx h => by
  unfold statsR; rw [if_neg (by simp [h]), hx]; exact Ev.step (fun k => by rw [impl_StatsOf.j0]) (by exact Ev.pos rfl (Ev.now _))
 unfold impl_StatsOf.f
 refine Ev.here (impl_LeafOk_some a b c) ?_
 cases ho : lOk a b c with
 | false => exact Ev.neg (by decide) (bad rfl (by simp [ho]))
 | true =>
  refine Ev.pos rfl (Ev.bind (impl_triplesRight_ev a b c l hl) ?_)
  cases ht : tripsOk a b c l with
  | false => exact bad rfl (by simp [ht])
  | true =>
   refine Ev.step (fun k => by rw [impl_StatsOf.j0]) ?_
   refine Ev.neg (by decide) ?_
   unfold statsR
   rw [if_pos (by simp [ho, ht])]
   refine loop_cps (fun k (s : SSt) i => impl_StatsOf.l0 k l (l.length : Int) i a b c s.n s.h s.lo.f0 s.lo.f1 s.hi.f0 s.hi.f1) (fun i s => sStep a c s (rd_T36 l (i : Int))) l.length _ (fun i s hi hr => ?_) s0 ?_
   ·
    have e : (i + 1 : Nat) = (i : Int) + 1 := by push_cast; rfl
    rw [e] at hr
    generalize htr : rd_T36 l (i : Int) = tr at hr
    refine Ev.step (fun k => by rw [impl_StatsOf.l0]) ?_
    refine Ev.pos (by omega) (Ev.pos (by omega) (Ev.pos (by omega) ?_))
    rw [htr, wrap64_id (x := (i : Int) + 1) (by omega) (by omega)]
    obtain ⟨sn, sh, lo, hi'⟩ := s
    by_cases hc : tr.f1 = c
    ·
     skip
     refine Ev.pos hc ?_
     cases sh with
     | true =>
      refine Ev.pos rfl (Ev.bind (impl_ValLess_ev a tr.f2 lo) ?_)
      refine Ev.step (fun k => by rw [impl_StatsOf.j2]) ?_
      rw [wrap64_id (x := (i : Int) + 1) (by omega) (by omega)]
      cases h1 : vLess a tr.f2 lo <;> cases h2 : vLess a hi' tr.f2
      ·
       refine Ev.neg (by decide) (Ev.pos rfl (Ev.bind (impl_ValLess_ev a hi' tr.f2) ?_)); rw [h2]; refine Ev.neg (by decide) ?_; rw [show sStep a c ⟨sn, true, lo, hi'⟩ tr = ⟨sn, true, lo, hi'⟩ from by simp [sStep, hc, h1, h2]] at hr; exact hr
      ·
       refine Ev.neg (by decide) (Ev.pos rfl (Ev.bind (impl_ValLess_ev a hi' tr.f2) ?_)); rw [h2]; refine Ev.pos rfl ?_; rw [show sStep a c ⟨sn, true, lo, hi'⟩ tr = ⟨sn, true, lo, tr.f2⟩ from by simp [sStep, hc, h1, h2]] at hr; exact hr
      ·
       refine Ev.pos rfl (Ev.pos rfl (Ev.bind (impl_ValLess_ev a hi' tr.f2) ?_)); rw [h2]; refine Ev.neg (by decide) ?_; rw [show sStep a c ⟨sn, true, lo, hi'⟩ tr = ⟨sn, true, tr.f2, hi'⟩ from by simp [sStep, hc, h1, h2]] at hr; exact hr
      ·
       refine Ev.pos rfl (Ev.pos rfl (Ev.bind (impl_ValLess_ev a hi' tr.f2) ?_)); rw [h2]; refine Ev.pos rfl ?_; rw [show sStep a c ⟨sn, true, lo, hi'⟩ tr = ⟨sn, true, tr.f2, tr.f2⟩ from by simp [sStep, hc, h1, h2]] at hr; exact hr
     | false =>
      refine Ev.neg (by simp) ?_
      refine Ev.step (fun k => by rw [impl_StatsOf.j2]) ?_
      rw [wrap64_id (x := (i : Int) + 1) (by omega) (by omega)]
      refine Ev.pos rfl (Ev.neg (by simp) ?_)
      rw [show sStep a c ⟨sn, false, lo, hi'⟩ tr = ⟨sn, true, tr.f2, tr.f2⟩ from by simp [sStep, hc]] at hr; exact hr
    ·
     rw [show sStep a c ⟨sn, sh, lo, hi'⟩ tr = ⟨wrap64 (sn + 1), sh, lo, hi'⟩ from by simp [sStep, hc]] at hr
     exact Ev.neg hc hr
   ·
    refine Ev.step (fun k => by rw [impl_StatsOf.l0]) ?_
    exact Ev.neg (by omega) (Ev.now _)
theorem spec_StatsOf_ev (a b c : Int) (l : List S36) (hl : l.length ≤ 1048576) : Ev (fun k => spec_StatsOf.f k a b c l) (statsR a b c l) := by
 unfold spec_StatsOf.f
 refine Ev.bind (spec_l15All_ev a b c l hl) ?_
 unfold statsR
 cases ho : (lOk a b c && tripsOk a b c l) with
 | false => rw [if_neg (by decide)]; exact Ev.neg (by simp) (Ev.now _)
 | true =>
  rw [if_pos rfl]
  refine Ev.pos rfl ?_
  have hall : ∀ i, i < l.length → tripOk a b c (rd_T36 l (i : Int)) = true := by
   intro i hi
   have e : rd_T36 l (i : Int) = l.getD i z36 := rfl
   rw [e, getD_eq hi]
   simp only [tripsOk, Bool.and_eq_true, List.all_eq_true] at ho
   exact ho.2.1 _ (List.getElem_mem _)
  refine loop_cps (fun k (s : SSt) i => spec_StatsOf.l0 k l i a b c s.n s.h s.lo.f0 s.lo.f1 s.hi.f0 s.hi.f1) (fun i s => sStep a c s (rd_T36 l (i : Int))) l.length _ (fun i s hi hr => ?_) s0 ?_
  ·
   have e : (i + 1 : Nat) = (i : Int) + 1 := by push_cast; rfl
   rw [e] at hr
   have hok := hall i hi
   generalize htr : rd_T36 l (i : Int) = tr at hr hok
   have hdef : tr.f1 ≤ c := by
    simp only [tripOk, Bool.and_eq_true, decide_eq_true_eq] at hok
    omega
   refine Ev.step (fun k => by rw [spec_StatsOf.l0]) ?_
   refine Ev.pos (by omega) (Ev.pos (by omega) ?_)
   rw [htr, wrap64_id (x := (i : Int) + 1) (by omega) (by omega)]
   obtain ⟨sn, sh, lo, hi'⟩ := s
   by_cases hc : tr.f1 = c
   ·
    skip
    refine Ev.neg (by omega) ?_
    cases sh with
    | true =>
     refine Ev.pos rfl (Ev.bind (spec_ValLess_ev a tr.f2 lo) ?_)
     cases h1 : vLess a tr.f2 lo <;> cases h2 : vLess a hi' tr.f2
     ·
      refine Ev.neg (by simp) ?_
      refine Ev.step (fun k => by rw [spec_StatsOf.j1]) ?_
      rw [wrap64_id (x := (i : Int) + 1) (by omega) (by omega)]
      refine Ev.bind (spec_ValLess_ev a hi' tr.f2) ?_; rw [h2]; refine Ev.neg (by simp) ?_; rw [show sStep a c ⟨sn, true, lo, hi'⟩ tr = ⟨sn, true, lo, hi'⟩ from by simp [sStep, hc, h1, h2]] at hr; exact hr
     ·
      refine Ev.neg (by simp) ?_
      refine Ev.step (fun k => by rw [spec_StatsOf.j1]) ?_
      rw [wrap64_id (x := (i : Int) + 1) (by omega) (by omega)]
      refine Ev.bind (spec_ValLess_ev a hi' tr.f2) ?_; rw [h2]; refine Ev.pos rfl ?_; rw [show sStep a c ⟨sn, true, lo, hi'⟩ tr = ⟨sn, true, lo, tr.f2⟩ from by simp [sStep, hc, h1, h2]] at hr; exact hr
     ·
      refine Ev.pos rfl ?_
      refine Ev.step (fun k => by rw [spec_StatsOf.j1]) ?_
      rw [wrap64_id (x := (i : Int) + 1) (by omega) (by omega)]
      refine Ev.bind (spec_ValLess_ev a hi' tr.f2) ?_; rw [h2]; refine Ev.neg (by simp) ?_; rw [show sStep a c ⟨sn, true, lo, hi'⟩ tr = ⟨sn, true, tr.f2, hi'⟩ from by simp [sStep, hc, h1, h2]] at hr; exact hr
     ·
      refine Ev.pos rfl ?_
      refine Ev.step (fun k => by rw [spec_StatsOf.j1]) ?_
      rw [wrap64_id (x := (i : Int) + 1) (by omega) (by omega)]
      refine Ev.bind (spec_ValLess_ev a hi' tr.f2) ?_; rw [h2]; refine Ev.pos rfl ?_; rw [show sStep a c ⟨sn, true, lo, hi'⟩ tr = ⟨sn, true, tr.f2, tr.f2⟩ from by simp [sStep, hc, h1, h2]] at hr; exact hr
    | false =>
     refine Ev.neg (by simp) ?_
     rw [show sStep a c ⟨sn, false, lo, hi'⟩ tr = ⟨sn, true, tr.f2, tr.f2⟩ from by simp [sStep, hc]] at hr; exact hr
   ·
    rw [show sStep a c ⟨sn, sh, lo, hi'⟩ tr = ⟨wrap64 (sn + 1), sh, lo, hi'⟩ from by simp [sStep, hc]] at hr
    exact Ev.pos (by omega) hr
  ·
   refine Ev.step (fun k => by rw [spec_StatsOf.l0]) ?_
   exact Ev.neg (by omega) (Ev.now _)
theorem ba_inj {a b : ByteArray} (h : a.toList = b.toList) : a = b := by
 rw [ByteArray.toList_eq, ByteArray.toList_eq] at h
 cases a; cases b; simpa using h
theorem bytesLess_irrefl : ∀ l : List UInt8, Op.bytesLess l l = false
 | [] => rfl
 | x :: l => by
  unfold Op.bytesLess
  have := bytesLess_irrefl l
  simp [this]
theorem bytesLess_trans : ∀ x y z : List UInt8, Op.bytesLess x y = true → Op.bytesLess y z = true → Op.bytesLess x z = true
 | _, [], _, h, _ => by simp [Op.bytesLess] at h
 | _, _ :: _, [], _, h => by simp [Op.bytesLess] at h
 | [], _ :: _, _ :: _, _, _ => rfl
 | a :: x, b :: y, c :: z, h1, h2 => by
  have ih := bytesLess_trans x y z
  simp only [Op.bytesLess, Bool.or_eq_true, Bool.and_eq_true, decide_eq_true_eq, beq_iff_eq] at h1 h2 ⊢
  rcases h1 with h1 | ⟨rfl, h1⟩
  ·
   rcases h2 with h2 | ⟨rfl, h2⟩
   ·
    exact .inl (UInt8.lt_trans h1 h2)
   ·
    exact .inl h1
  ·
   rcases h2 with h2 | ⟨rfl, h2⟩
   ·
    exact .inl h2
   ·
    exact .inr ⟨rfl, ih h1 h2⟩
theorem vLess_irrefl (t : Int) (a : S30) : vLess t a a = false := by
 unfold vLess
 split
 ·
  rw [decide_eq_false (Int.lt_irrefl _), Bool.and_false]
 ·
  split
  ·
   rw [bytesLess_irrefl, Bool.and_false]
  ·
   rw [decide_eq_false (Int.lt_irrefl _), Bool.and_false]
theorem vLess_trans (t : Int) (a b c : S30) (h1 : vLess t a b = true) (h2 : vLess t b c = true) : vLess t a c = true := by
 unfold vLess at h1 h2 ⊢
 rw [Bool.and_eq_true, Bool.and_eq_true] at h1 h2 ⊢
 refine ⟨⟨h1.1.1, h2.1.2⟩, ?_⟩
 have x := h1.2
 have y := h2.2
 by_cases h5 : t = 5
 ·
  rw [if_pos h5, decide_eq_true_eq] at x y ⊢
  exact Int.lt_trans x y
 ·
  rw [if_neg h5] at x y ⊢
  by_cases h6 : t = 6
  ·
   rw [if_pos h6] at x y ⊢
   exact bytesLess_trans _ _ _ x y
  ·
   rw [if_neg h6, decide_eq_true_eq] at x y ⊢
   exact Int.lt_trans x y
structure StInv (a c : Int) (l : List S36) (i : Nat) (s : SSt) : Prop where
 nn : s.n = (((l.take i).filter fun t => decide (¬ t.f1 = c)).length : Int)
 hh : s.h = true ↔ ∃ j : Nat, j < i ∧ (rd_T36 l (j : Int)).f1 = c
 lo : ∀ j : Nat, j < i → (rd_T36 l (j : Int)).f1 = c → vLess a (rd_T36 l (j : Int)).f2 s.lo = false
 hi : ∀ j : Nat, j < i → (rd_T36 l (j : Int)).f1 = c → vLess a s.hi (rd_T36 l (j : Int)).f2 = false
 ml : s.h = true → ∃ j : Nat, j < i ∧ (rd_T36 l (j : Int)).f1 = c ∧ (rd_T36 l (j : Int)).f2 = s.lo
 mh : s.h = true → ∃ j : Nat, j < i ∧ (rd_T36 l (j : Int)).f1 = c ∧ (rd_T36 l (j : Int)).f2 = s.hi
 zz : s.h = false → s.lo = ⟨0, ⟨#[]⟩⟩ ∧ s.hi = ⟨0, ⟨#[]⟩⟩
theorem StInv.zero (a c : Int) (l : List S36) : StInv a c l 0 s0 :=
 ⟨by simp [s0], ⟨fun h => absurd h (by simp [s0]), fun ⟨j, h, _⟩ => absurd h (Nat.not_lt_zero j)⟩, fun j h => absurd h (Nat.not_lt_zero j), fun j h => absurd h (Nat.not_lt_zero j), fun h => absurd h (by simp [s0]), fun h => absurd h (by simp [s0]), fun _ => ⟨rfl, rfl⟩⟩
theorem StInv.step {a c : Int} {l : List S36} {i : Nat} {s : SSt} (h : StInv a c l i s) (hi : i < l.length) (hl : l.length ≤ 1048576) : StInv a c l (i + 1) (sStep a c s (rd_T36 l (i : Int))) := by
 have e : rd_T36 l (i : Int) = l[i] := getD_eq hi
 have htk : l.take (i + 1) = l.take i ++ [l[i]] := List.take_succ_eq_append_getElem hi
 have hc : ((l.take i).filter fun t => decide (¬ t.f1 = c)).length ≤ i := by
  have h1 := List.length_filter_le (fun t : S36 => decide (¬ t.f1 = c)) (l.take i)
  have h2 : (l.take i).length ≤ i := by rw [List.length_take]; exact Nat.min_le_left _ _
  omega
 have cases_ : ∀ j : Nat, j < i + 1 → j < i ∨ j = i := fun j hj => by omega
 unfold sStep
 by_cases h1 : (rd_T36 l (i : Int)).f1 = c
 ·
  rw [if_pos h1]
  have h1' : (l[i]).f1 = c := by rw [← e]; exact h1
  cases hs : s.h with
  | false =>
   have hno : ∀ j : Nat, j < i → ¬ (rd_T36 l (j : Int)).f1 = c := fun j hj hf => by
    have := h.hh.mpr ⟨j, hj, hf⟩
    rw [hs] at this
    exact absurd this (by decide)
   simp only [Bool.false_eq_true, if_false]
   refine ⟨?_, ⟨fun _ => ⟨i, by omega, h1⟩, fun _ => rfl⟩, ?_, ?_, fun _ => ⟨i, by omega, h1, rfl⟩, fun _ => ⟨i, by omega, h1, rfl⟩, fun h2 => absurd h2 (by simp)⟩
   ·
    show s.n = _
    rw [h.nn, htk, List.filter_append]
    simp [h1']
   ·
    intro j hj hf
    rcases cases_ j hj with hj | rfl
    ·
     exact absurd hf (hno j hj)
    ·
     exact vLess_irrefl _ _
   ·
    intro j hj hf
    rcases cases_ j hj with hj | rfl
    ·
     exact absurd hf (hno j hj)
    ·
     exact vLess_irrefl _ _
  | true =>
   simp only [if_true]
   obtain ⟨jl, jl1, jl2, jl3⟩ := h.ml hs
   obtain ⟨jh, jh1, jh2, jh3⟩ := h.mh hs
   refine ⟨?_, ⟨fun _ => ⟨i, by omega, h1⟩, fun _ => rfl⟩, ?_, ?_, ?_, ?_, fun h2 => absurd h2 (by simp)⟩
   ·
    show s.n = _
    rw [h.nn, htk, List.filter_append]
    simp [h1']
   ·
    intro j hj hf
    show vLess a _ (if vLess a (rd_T36 l (i : Int)).f2 s.lo = true then _ else s.lo) = false
    by_cases hv : vLess a (rd_T36 l (i : Int)).f2 s.lo = true
    ·
     rw [if_pos hv]
     rcases cases_ j hj with hj | rfl
     ·
      cases hx : vLess a (rd_T36 l (j : Int)).f2 (rd_T36 l (i : Int)).f2 with
      | false => rfl
      | true => exact absurd (vLess_trans _ _ _ _ hx hv) (by rw [h.lo j hj hf]; decide)
     ·
      exact vLess_irrefl _ _
    ·
     rw [if_neg hv]
     rcases cases_ j hj with hj | rfl
     ·
      exact h.lo j hj hf
     ·
      exact Bool.eq_false_iff.mpr hv
   ·
    intro j hj hf
    show vLess a (if vLess a s.hi (rd_T36 l (i : Int)).f2 = true then _ else s.hi) _ = false
    by_cases hv : vLess a s.hi (rd_T36 l (i : Int)).f2 = true
    ·
     rw [if_pos hv]
     rcases cases_ j hj with hj | rfl
     ·
      cases hx : vLess a (rd_T36 l (i : Int)).f2 (rd_T36 l (j : Int)).f2 with
      | false => rfl
      | true => exact absurd (vLess_trans _ _ _ _ hv hx) (by rw [h.hi j hj hf]; decide)
     ·
      exact vLess_irrefl _ _
    ·
     rw [if_neg hv]
     rcases cases_ j hj with hj | rfl
     ·
      exact h.hi j hj hf
     ·
      exact Bool.eq_false_iff.mpr hv
   ·
    intro _
    show ∃ j : Nat, _ ∧ _ ∧ _ = (if vLess a (rd_T36 l (i : Int)).f2 s.lo = true then _ else s.lo)
    by_cases hv : vLess a (rd_T36 l (i : Int)).f2 s.lo = true
    ·
     rw [if_pos hv]; exact ⟨i, by omega, h1, rfl⟩
    ·
     rw [if_neg hv]; exact ⟨jl, by omega, jl2, jl3⟩
   ·
    intro _
    show ∃ j : Nat, _ ∧ _ ∧ _ = (if vLess a s.hi (rd_T36 l (i : Int)).f2 = true then _ else s.hi)
    by_cases hv : vLess a s.hi (rd_T36 l (i : Int)).f2 = true
    ·
     rw [if_pos hv]; exact ⟨i, by omega, h1, rfl⟩
    ·
     rw [if_neg hv]; exact ⟨jh, by omega, jh2, jh3⟩
 ·
  rw [if_neg h1]
  have h1' : ¬ (l[i]).f1 = c := by rw [← e]; exact h1
  have up : ∀ {P : Nat → Prop}, (∃ j : Nat, j < i ∧ P j) → ∃ j : Nat, j < i + 1 ∧ P j := fun ⟨j, hj, hp⟩ => ⟨j, by omega, hp⟩
  refine ⟨?_, ⟨fun hx => up (h.hh.mp hx), fun ⟨j, hj, hf⟩ => ?_⟩, ?_, ?_, fun hx => up (h.ml hx), fun hx => up (h.mh hx), h.zz⟩
  ·
   show wrap64 (s.n + 1) = _
   rw [h.nn, htk, List.filter_append, wrap64_id (by omega) (by omega)]
   simp [h1']
  ·
   rcases cases_ j hj with hj | rfl
   ·
    exact h.hh.mpr ⟨j, hj, hf⟩
   ·
    exact absurd hf h1
  ·
   intro j hj hf
   rcases cases_ j hj with hj | rfl
   ·
    exact h.lo j hj hf
   ·
    exact absurd hf h1
  ·
   intro j hj hf
   rcases cases_ j hj with hj | rfl
   ·
    exact h.hi j hj hf
   ·
    exact absurd hf h1
theorem StInv.all (a c : Int) (l : List S36) (hl : l.length ≤ 1048576) : ∀ m : Nat, m ≤ l.length → StInv a c l m ((List.range m).foldl (fun s (i : Nat) => sStep a c s (rd_T36 l (i : Int))) s0)
 | 0, _ => StInv.zero a c l
 | m + 1, hm => by
  rw [List.range_succ, List.foldl_append]
  exact (StInv.all a c l hl m (by omega)).step (by omega) hl
theorem valEq (v w : S30) : (v.f0 == w.f0 && (v.f1.toList == w.f1.toList)) = true ↔ v = w := by
 rw [Bool.and_eq_true, beq_iff_eq, beq_iff_eq]
 constructor
 ·
  rintro ⟨h0, h1⟩
  obtain ⟨a, b⟩ := v
  obtain ⟨c, d⟩ := w
  simp only at h0 h1
  rw [h0, ba_inj h1]
 ·
  rintro rfl
  exact ⟨rfl, rfl⟩
def hasV (c : Int) (l : List S36) (i : Nat) (h : Bool) (w : S30) : Prop := h = false ∨ ∃ j : Nat, j < i ∧ (rd_T36 l (j : Int)).f1 = c ∧ (rd_T36 l (j : Int)).f2 = w
theorem hasV.next {c : Int} {l : List S36} {i : Nat} {h : Bool} {w : S30} {x : Bool} (hx : x = true ↔ hasV c l i h w) (h1 : (rd_T36 l (i : Int)).f1 = c) :
  ((if x = true then true else (((rd_T36 l (i : Int)).f2.f0 == w.f0) && ((rd_T36 l (i : Int)).f2.f1.toList == w.f1.toList))) = true) ↔ hasV c l (i + 1) h w := by
 by_cases hb : x = true
 ·
  rw [if_pos hb]
  refine ⟨fun _ => ?_, fun _ => rfl⟩
  rcases hx.mp hb with h | ⟨j, hj, hp⟩
  ·
   exact .inl h
  ·
   exact .inr ⟨j, by omega, hp⟩
 ·
  rw [if_neg hb, valEq]
  constructor
  ·
   intro e
   exact .inr ⟨i, by omega, h1, e⟩
  ·
   rintro (h | ⟨j, hj, hp1, hp2⟩)
   ·
    exact absurd (hx.mpr (.inl h)) hb
   ·
    rcases Nat.lt_or_ge j i with h | h
    ·
     exact absurd (hx.mpr (.inr ⟨j, h, hp1, hp2⟩)) hb
    ·
     obtain rfl : j = i := by omega
     exact hp2
theorem hasV.skip {c : Int} {l : List S36} {i : Nat} {h : Bool} {w : S30} {x : Bool} (hx : x = true ↔ hasV c l i h w) (h1 : ¬ (rd_T36 l (i : Int)).f1 = c) : x = true ↔ hasV c l (i + 1) h w := by
 rw [hx]
 constructor
 ·
  rintro (h | ⟨j, hj, hp⟩)
  ·
   exact .inl h
  ·
   exact .inr ⟨j, by omega, hp⟩
 ·
  rintro (h | ⟨j, hj, hp1, hp2⟩)
  ·
   exact .inl h
  ·
   rcases Nat.lt_or_ge j i with h | h
   ·
    exact .inr ⟨j, h, hp1, hp2⟩
   ·
    obtain rfl : j = i := by omega
    exact absurd hp1 h1
theorem statslaw_loop (a b c : Int) (l : List S36) (hl : l.length ≤ 2000) (s : SSt) (hs : StInv a c l l.length s) (hle : ∀ j : Nat, j < l.length → (rd_T36 l (j : Int)).f1 ≤ c)
  (hfin : ∀ x11 x10 : Bool, x10 = true → x11 = true → Ev (fun k => laws_FnStats.l0 k l s.n x10 x11 (l.length : Int) a b c s.n s.h s.lo.f0 s.lo.f1 s.hi.f0 s.hi.f1) true) :
  ∀ (m i : Nat) (n : Int) (x10 x11 : Bool), i + m = l.length → n = (((l.take i).filter fun t => decide (¬ t.f1 = c)).length : Int) → (x10 = true ↔ hasV c l i s.h s.lo) → (x11 = true ↔ hasV c l i s.h s.hi) →
   Ev (fun k => laws_FnStats.l0 k l n x10 x11 (i : Int) a b c s.n s.h s.lo.f0 s.lo.f1 s.hi.f0 s.hi.f1) true := by
 intro m
 induction m with
 | zero =>
  intro i n x10 x11 hi hn h10 h11
  obtain rfl : i = l.length := by omega
  rw [← hs.nn] at hn
  subst hn
  refine hfin x11 x10 (h10.mpr ?_) (h11.mpr ?_)
  ·
   cases hh : s.h with
   | false => exact .inl rfl
   | true => exact .inr (hs.ml hh)
  ·
   cases hh : s.h with
   | false => exact .inl rfl
   | true => exact .inr (hs.mh hh)
 | succ m im =>
  intro i n x10 x11 hi hn h10 h11
  have hil : i < l.length := by omega
  have e : rd_T36 l (i : Int) = l[i] := getD_eq hil
  have htk : l.take (i + 1) = l.take i ++ [l[i]] := List.take_succ_eq_append_getElem hil
  have hc : ((l.take i).filter fun t => decide (¬ t.f1 = c)).length ≤ i := by
   have h1 := List.length_filter_le (fun t : S36 => decide (¬ t.f1 = c)) (l.take i)
   have h2 : (l.take i).length ≤ i := by rw [List.length_take]; exact Nat.min_le_left _ _
   omega
  have W : Aside0 (wrap64 ((i : Int) + 1) = ((i + 1 : Nat) : Int)) := ⟨by rw [wrap64_id (by omega) (by omega)]; omega⟩
  have WN : Aside0 (wrap64 (n + 1) = n + 1) := ⟨wrap64_id (by omega) (by omega)⟩
  refine Ev.step (fun k => by rw [laws_FnStats.l0]) ?_
  refine Ev.pos (by omega) (Ev.pos (by omega) ?_)
  rw [W.out, WN.out]
  by_cases h1 : (rd_T36 l (i : Int)).f1 = c
  ·
   have h1' : (l[i]).f1 = c := by rw [← e]; exact h1
   have hn' : n = (((l.take (i + 1)).filter fun t => decide (¬ t.f1 = c)).length : Int) := by
    rw [hn, htk, List.filter_append]
    simp [h1']
   have v1 := impl_ValLess_ev a (rd_T36 l (i : Int)).f2 s.lo
   have v2 := impl_ValLess_ev a s.hi (rd_T36 l (i : Int)).f2
   rw [hs.lo i hil h1] at v1
   rw [hs.hi i hil h1] at v2
   have r := im (i + 1) n _ _ (by omega) hn' (hasV.next h10 h1) (hasV.next h11 h1)
   refine Ev.neg (by omega) (Ev.bind v1 (Ev.neg Bool.false_ne_true (Ev.bind v2 (Ev.neg Bool.false_ne_true ?_))))
   cases x10 <;> cases x11 <;> simp only [if_true, if_false, Bool.false_eq_true] at r ⊢ <;> exact r
  ·
   have h1' : ¬ (l[i]).f1 = c := by rw [← e]; exact h1
   have hn' : n + 1 = (((l.take (i + 1)).filter fun t => decide (¬ t.f1 = c)).length : Int) := by
    rw [hn, htk, List.filter_append]
    simp [h1']
   have hlt := hle i hil
   exact Ev.pos (by omega) (im (i + 1) (n + 1) x10 x11 (by omega) hn' (hasV.skip h10 h1) (hasV.skip h11 h1))
theorem tripsOk_at {a b c : Int} {l : List S36} (h : tripsOk a b c l = true) (j : Nat) (hj : j < l.length) : (rd_T36 l (j : Int)).f1 ≤ c ∧ ((rd_T36 l (j : Int)).f1 = c → vOk a (rd_T36 l (j : Int)).f2 = true) := by
 have e : rd_T36 l (j : Int) = l[j] := getD_eq hj
 unfold tripsOk at h
 rw [Bool.and_eq_true] at h
 have h1 := List.all_eq_true.1 h.1 _ (List.getElem_mem hj)
 unfold tripOk at h1
 rw [Bool.and_eq_true, Bool.and_eq_true, decide_eq_true_eq, decide_eq_true_eq] at h1
 rw [e]
 refine ⟨h1.1.2.2, fun hc => ?_⟩
 have h2 := h1.2
 rw [if_pos hc] at h2
 exact h2
theorem stats_good {a b c : Int} {l : List S36} (hk : lOk a b c = true) (ht : tripsOk a b c l = true) {s : SSt} (hs : StInv a c l l.length s) (hl : l.length ≤ 2000) : (lOk a b c && (decide (0 ≤ s.n ∧ s.n ≤ 2000) && (if s.h = true then vOk a s.lo && (vOk a s.hi && !vLess a s.hi s.lo) else (s.lo.f0 == 0 && noText s.lo.f1) && (s.hi.f0 == 0 && noText s.hi.f1)))) = true := by
 have hn : 0 ≤ s.n ∧ s.n ≤ 2000 := by
  rw [hs.nn]
  have h1 := List.length_filter_le (fun t : S36 => decide (¬ t.f1 = c)) (l.take l.length)
  rw [List.take_length] at h1
  rw [List.take_length]
  omega
 rw [hk, decide_eq_true hn, Bool.true_and, Bool.true_and]
 cases hh : s.h with
 | false =>
  obtain ⟨z1, z2⟩ := hs.zz hh
  rw [if_neg Bool.false_ne_true, z1, z2]
  have e0 : noText (⟨#[]⟩ : ByteArray) = true := by unfold noText; rw [ByteArray.toList_eq]; rfl
  simp [e0]
 | true =>
  obtain ⟨j, j1, j2, j3⟩ := hs.ml hh
  obtain ⟨q, q1, q2, q3⟩ := hs.mh hh
  have v1 := (tripsOk_at ht j j1).2 j2
  have v2 := (tripsOk_at ht q q1).2 q2
  have v3 := hs.hi j j1 j2
  rw [j3] at v1 v3
  rw [q3] at v2
  rw [if_pos rfl, v1, v2, v3]
  rfl
def wideB (t : Int) : Int := if t = 1 then 4 else if t = 2 then 8 else if t = 5 then 8 else 0
theorem wideOf_some (t : Int) : impl_wideOf.f t = some (wideB t) := by unfold impl_wideOf.f wideB; (repeat' split) <;> rfl
def vsOk (t : Int) (l : List S30) : Bool := decide ((l.length : Int) ≤ 2000) && tOk t && l.all (vOk t)
theorem impl_valsOk_ev (t : Int) (l : List S30) (hl : l.length ≤ 1048576) : Ev (fun k => impl_valsOk.f k t l) (vsOk t l) := by
 unfold impl_valsOk.f
 have key := all_loop (fun k i => impl_valsOk.l0 k t l l (l.length : Int) i) (fun i => vOk t (l.getD i z30)) l.length false (decide ((l.length : Int) ≤ 2000) && tOk t)
  (fun i r hi hp hr => by
   have e : rd_T30 l (i : Int) = l.getD i z30 := rfl
   refine Ev.step (fun k => by rw [impl_valsOk.l0]) ?_
   refine Ev.pos (by omega) (Ev.pos (by omega) (Ev.pos (by omega) (Ev.here (impl_ValOk_some t _) ?_)))
   rw [e, hp]
   refine Ev.pos rfl ?_
   rw [wrap64_id (by omega) (by omega)]
   simpa using hr)
  (fun i hi hp => by
   have e : rd_T30 l (i : Int) = l.getD i z30 := rfl
   refine Ev.step (fun k => by rw [impl_valsOk.l0]) ?_
   refine Ev.pos (by omega) (Ev.pos (by omega) (Ev.pos (by omega) (Ev.here (impl_ValOk_some t _) ?_)))
   rw [e, hp]
   exact Ev.neg (by decide) (Ev.now _))
  (by
   refine Ev.step (fun k => by rw [impl_valsOk.l0]) ?_
   refine Ev.neg (by omega) ?_
   by_cases h : (l.length : Int) ≤ 2000
   ·
    refine Ev.pos h (Ev.here (typeOk_some t) (Ev.const ?_))
    simp [h]
   ·
    refine Ev.neg h (Ev.const ?_)
    simp [h])
 refine Ev.cast key ?_
 rw [all_range]
 unfold vsOk
 cases l.all (vOk t) <;> simp
theorem bv_ofInt_wrap (x : Int) : BitVec.ofInt 64 (wrap64 x) = BitVec.ofInt 64 x := by
 apply BitVec.eq_of_toNat_eq
 rw [BitVec.toNat_ofInt, BitVec.toNat_ofInt]
 congr 1
 unfold wrap64; omega
theorem or_wrap (a c : Nat) (ha : a < 2 ^ 64) (hc : c < 2 ^ 64) : Go.bits .or .i64 (wrap64 (a : Int)) (wrap64 (c : Int)) = wrap64 ((a ||| c : Nat) : Int) := by
 have e : Go.bits .or .i64 (wrap64 (a : Int)) (wrap64 (c : Int)) = IntKind.i64.wrap (((BitVec.ofInt 64 (wrap64 (a : Int)) ||| BitVec.ofInt 64 (wrap64 (c : Int))).toNat : Nat) : Int) := rfl
 rw [e, bv_ofInt_wrap, bv_ofInt_wrap, BitVec.ofInt_natCast, BitVec.ofInt_natCast, BitVec.toNat_or, BitVec.toNat_ofNat, BitVec.toNat_ofNat, Nat.mod_eq_of_lt ha, Nat.mod_eq_of_lt hc, IntKind.wrap_i64]
 unfold wrap64; omega
theorem or_digit (m a d : Nat) (ha : a < 2 ^ m) : a ||| d * 2 ^ m = a + d * 2 ^ m := by
 have := Nat.shiftLeft_add_eq_or_of_lt ha d
 rw [Nat.shiftLeft_eq] at this
 rw [Nat.or_comm, ← this, Nat.add_comm]
theorem emod_digit (x p : Int) (hp : 0 < p) : x % (p * 256) = x % p + (x / p) % 256 * p := by
 have h1 := Int.mul_ediv_add_emod x p
 have h2 := Int.mul_ediv_add_emod (x / p) 256
 have a0 := Int.emod_nonneg x (show p ≠ 0 by omega)
 have a1 := Int.emod_lt_of_pos x hp
 have b0 := Int.emod_nonneg (x / p) (show (256 : Int) ≠ 0 by omega)
 have b1 := Int.emod_lt_of_pos (x / p) (show (0 : Int) < 256 by omega)
 have e : x = (x % p + (x / p) % 256 * p) + (p * 256) * (x / p / 256) := by
  have e3 : p * (x / p) = p * (256 * (x / p / 256) + x / p % 256) := by rw [h2]
  rw [Int.mul_add] at e3
  have e4 : p * (256 * (x / p / 256)) = (p * 256) * (x / p / 256) := by rw [Int.mul_assoc]
  have e5 : p * (x / p % 256) = x / p % 256 * p := Int.mul_comm _ _
  omega
 have m0 : 0 ≤ (x / p) % 256 * p := Int.mul_nonneg b0 (by omega)
 have m1 : (x / p) % 256 * p ≤ 255 * p := Int.mul_le_mul_of_nonneg_right (by omega) (by omega)
 generalize hr : x % p + (x / p) % 256 * p = r at *
 conv => lhs; rw [e]
 rw [Int.add_mul_emod_self_left, Int.emod_eq_of_lt (by omega) (by omega)]
theorem bits_and_mask (x m : Int) (k : Nat) (hk : k ≤ 63) (hm : m = 2 ^ k - 1) : Go.bits .and .i64 x m = x % 2 ^ k := by
 have p0 : (0 : Int) < 2 ^ k := Int.pow_pos (by omega)
 have eP : (2 : Int) ^ k = ((2 ^ k : Nat) : Int) := by push_cast; rfl
 have h63 : 2 ^ k ≤ 2 ^ 63 := Nat.pow_le_pow_right (by omega) hk
 have n0 : 0 < 2 ^ k := Nat.pow_pos (by omega)
 have e : Go.bits .and .i64 x m = IntKind.i64.wrap ((((BitVec.ofInt 64 x) &&& (BitVec.ofInt 64 m)).toNat : Nat) : Int) := rfl
 rw [e, BitVec.toNat_and, BitVec.toNat_ofInt, BitVec.toNat_ofInt]
 have em : (m % ((2 ^ 64 : Nat) : Int)).toNat = 2 ^ k - 1 := by
  rw [hm, eP, Int.emod_eq_of_lt (by omega) (by omega)]; omega
 rw [em, Nat.and_two_pow_sub_one_eq_mod]
 have hlt : (x % ((2 ^ 64 : Nat) : Int)).toNat % 2 ^ k < 2 ^ k := Nat.mod_lt _ n0
 rw [wraps_i64 _ (by omega) (by omega), eP, Int.natCast_emod]
 rw [Int.toNat_of_nonneg (Int.emod_nonneg _ (by omega))]
 apply Int.emod_emod_of_dvd
 refine Int.natCast_dvd_natCast.2 (Nat.pow_dvd_pow 2 (by omega))
theorem or_u8_range (a b : Int) : 0 ≤ Go.bits .or .u8 a b ∧ Go.bits .or .u8 a b ≤ 255 := by
 have e : Go.bits .or .u8 a b = IntKind.u8.wrap (((BitVec.ofInt 8 a ||| BitVec.ofInt 8 b).toNat : Nat) : Int) := rfl
 rw [e, IntKind.wrap_u8]; omega
theorem and_one (x : Int) : Go.bits .and .i64 x 1 = x % 2 := bits_and_mask x 1 1 (by omega) rfl
def bput (l : List Int) (w i k : Nat) (out : List Int) : List Int :=
 out.set ((i * w + k) / 8) (Go.bits .or .u8 (rd out (((i * w + k) / 8 : Nat) : Int)) (shl .u8 ((shr .i64 (rd l (i : Int)) (k : Int)) % 2) (((i * w + k) % 8 : Nat) : Int)))
def brow (l : List Int) (w i : Nat) (out : List Int) : List Int := (List.range w).foldl (fun o k => bput l w i k o) out
def bitsR (l : List Int) (w : Nat) : List Int := (List.range l.length).foldl (fun o i => brow l w i o) (List.replicate ((l.length * w + 7) / 8) 0)
def BOk (n : Nat) (out : List Int) : Prop := out.length = n ∧ ∀ x ∈ out, 0 ≤ x ∧ x ≤ 255
theorem bput_ok {n : Nat} {l : List Int} {w i k : Nat} {out : List Int} (h : BOk n out) : BOk n (bput l w i k out) := by
 refine ⟨by simpa [bput] using h.1, fun x hx => ?_⟩
 unfold bput at hx
 rcases List.mem_or_eq_of_mem_set hx with h' | rfl
 ·
  exact h.2 x h'
 ·
  exact or_u8_range _ _
theorem brow_ok {n : Nat} {l : List Int} {w i : Nat} : ∀ (m : Nat) {out : List Int}, BOk n out → BOk n ((List.range m).foldl (fun o k => bput l w i k o) out) := by
 intro m
 induction m with
 | zero => intro out h; exact h
 | succ m ih => intro out h; rw [List.range_succ, List.foldl_append]; exact bput_ok (ih h)
theorem bitsR_ok (l : List Int) (w : Nat) : BOk ((l.length * w + 7) / 8) (bitsR l w) := by
 unfold bitsR
 have : ∀ m, BOk ((l.length * w + 7) / 8) ((List.range m).foldl (fun o i => brow l w i o) (List.replicate ((l.length * w + 7) / 8) 0)) := by
  intro m
  induction m with
  | zero => exact ⟨by simp, fun x hx => by obtain rfl := List.eq_of_mem_replicate hx; omega⟩
  | succ m ih => rw [List.range_succ, List.foldl_append]; exact brow_ok w ih
 exact this _
theorem pos_facts (l : List Int) (hl : l.length ≤ 4000) (w : Nat) (hw : w ≤ 64) (i k : Nat) (hi : i < l.length) (hk : k < w) :
  (wrap64 ((i : Int) * (w : Int)) + (k : Int)) = ((i * w + k : Nat) : Int) ∧ i * w + k < l.length * w ∧ l.length * w ≤ 256000 := by
 have h1 : (i + 1) * w ≤ l.length * w := Nat.mul_le_mul_right _ hi
 rw [Nat.add_mul, Nat.one_mul] at h1
 have h2 : l.length * w ≤ 4000 * 64 := Nat.mul_le_mul hl hw
 have hc : ((i : Int) * (w : Int)) = ((i * w : Nat) : Int) := by push_cast; rfl
 rw [hc, wrap64_id (by omega) (by omega)]
 exact ⟨by push_cast; rfl, by omega, by omega⟩
theorem impl_packed_ev (l : List Int) (hl : l.length ≤ 4000) (w : Nat) (hw : w ≤ 64) : Ev (fun k => impl_packed.f k l (w : Int)) (bitsR l w) := by
 have h2 : l.length * w ≤ 4000 * 64 := Nat.mul_le_mul hl hw
 have hc : ((l.length : Int) * (w : Int)) = ((l.length * w : Nat) : Int) := by push_cast; rfl
 have hN : wrap64 (Int.tdiv (wrap64 (wrap64 ((l.length : Int) * (w : Int)) + 7)) 8) = (((l.length * w + 7) / 8 : Nat) : Int) := by
  rw [hc, wrap64_id (x := ((l.length * w : Nat) : Int)) (by omega) (by omega), wrap64_id (x := ((l.length * w : Nat) : Int) + 7) (by omega) (by omega), Int.tdiv_eq_ediv_of_nonneg (by omega), wrap64_id (by omega) (by omega)]
  omega
 unfold impl_packed.f
 rw [hN]
 refine Ev.pos (by omega) (Ev.pos (by omega) ?_)
 rw [Int.toNat_natCast]
 refine loop_inv (fun k out i => impl_packed.l0 k (w : Int) out l (l.length : Int) i) (fun i out => brow l w i out) l.length _ (fun _ out => BOk ((l.length * w + 7) / 8) out) _ ⟨by simp, fun x hx => by obtain rfl := List.eq_of_mem_replicate hx; omega⟩ (fun i out hi ho => brow_ok w ho) (fun i out hi ho hr => ?_) (fun out ho he => ?_)
 ·
  refine Ev.step (fun k => by rw [impl_packed.l0]) ?_
  refine Ev.pos (by omega) (Ev.pos (by omega) (Ev.pos (by omega) ?_))
  refine loop_inv (fun n o k => impl_packed.l1 n (w : Int) o (i : Int) (rd l (i : Int)) l (l.length : Int) (i : Int) (w : Int) k) (fun k o => bput l w i k o) w _ (fun _ o => BOk ((l.length * w + 7) / 8) o) out ho (fun k o _ h => bput_ok h) (fun k o hk hok hr2 => ?_) (fun o hok he => ?_)
  ·
   obtain ⟨p1, p2, p3⟩ := pos_facts l hl w hw i k hi hk
   refine Ev.step (fun k => by rw [impl_packed.l1]) ?_
   rw [wrap64_id (x := (k : Int) + 1) (by omega) (by omega), p1, and_one]
   have hr3 : Ev (fun n => impl_packed.l1 n (w : Int) (bput l w i k o) (i : Int) (rd l (i : Int)) l (l.length : Int) (i : Int) (w : Int) ((k : Int) + 1)) (bitsR l w) := by simpa using hr2
   rw [wrap64_id (x := ((i * w + k : Nat) : Int)) (by omega) (by omega), Int.tdiv_eq_ediv_of_nonneg (by omega), Int.tmod_eq_emod_of_nonneg (by omega)]
   have e1 : wrap64 (((i * w + k : Nat) : Int) / 8) = (((i * w + k) / 8 : Nat) : Int) := by rw [wrap64_id (by omega) (by omega)]; omega
   have e2 : ((i * w + k : Nat) : Int) % 8 = (((i * w + k) % 8 : Nat) : Int) := by omega
   have e3 : (shr .i64 (rd l (i : Int)) (k : Int)) % 2 % 256 = (shr .i64 (rd l (i : Int)) (k : Int)) % 2 := by omega
   rw [e1, e2, e3]
   have hlen := hok.1
   refine Ev.pos (by omega) (Ev.pos (by omega) (Ev.pos (by omega) (Ev.pos (by omega) (Ev.pos (by omega) ?_))))
   unfold bput at hr3
   rw [Int.toNat_natCast]
   exact hr3
  ·
   refine Ev.step (fun k => by rw [impl_packed.l1]) ?_
   refine Ev.neg (by omega) ?_
   rw [wrap64_id (x := (i : Int) + 1) (by omega) (by omega), he]
   have : (List.range w).foldl (fun o k => bput l w i k o) out = brow l w i out := rfl
   rw [this]
   simpa using hr
 ·
  refine Ev.step (fun k => by rw [impl_packed.l0]) ?_
  refine Ev.neg (by omega) (Ev.const ?_)
  rw [he]; rfl
def wbytes (x : Int) (n : Nat) : List Int := (List.range n).map fun (k : Nat) => (shr .i64 x (8 * (k : Int))) % 256
theorem wbytes_length (x : Int) (n : Nat) : (wbytes x n).length = n := by simp [wbytes]
theorem impl_WordPut_ev (x : Int) (n : Nat) (hn : n ≤ 8) : Ev (fun k => impl_WordPut.f k x (n : Int)) (wbytes x n) := by
 unfold impl_WordPut.f
 refine Ev.here (within_some _ _ _) ?_
 by_cases h0 : n = 0
 ·
  subst h0
  exact Ev.neg (by simp) (Ev.now _)
 refine Ev.pos (by simp; omega) ?_
 refine append_loop (fun k s i => impl_WordPut.l0 k x s (n : Int) i) (fun (i : Nat) => (shr .i64 x (8 * (i : Int))) % 256) n _ (fun i s hi hl hr => ?_) ?_
 ·
  refine Ev.step (fun k => by rw [impl_WordPut.l0]) ?_
  rw [wrap64_id (x := 8 * (i : Int)) (by omega) (by omega), wrap64_id (x := (i : Int) + 1) (by omega) (by omega)]
  refine Ev.pos (by omega) (Ev.pos (by omega) (Ev.pos (by omega) ?_))
  simpa using hr
 ·
  exact Ev.step (fun k => by rw [impl_WordPut.l0]) (by exact Ev.neg (by omega) (Ev.now _))
theorem flat_snoc_ {α β : Type} (g : α → List β) (T : List α) (i : Nat) (h : i < T.length) : (T.take (i + 1)).flatMap g = (T.take i).flatMap g ++ g T[i] := by
 rw [List.take_succ_eq_append_getElem h, List.flatMap_append]; congr 1; simp
theorem flat_le_ {α β : Type} (g : α → List β) (c : Nat) (T : List α) (hc : ∀ x ∈ T, (g x).length ≤ c) : (T.flatMap g).length ≤ c * T.length := by
 induction T with
 | nil => simp
 | cons s T ih =>
  have h1 := ih (fun x hx => hc x (List.mem_cons_of_mem _ hx))
  have h2 := hc s (List.mem_cons_self)
  rw [List.flatMap_cons, List.length_append, List.length_cons, Nat.mul_add]
  omega
theorem flat_loop {α β γ : Type} (L : Nat → List β → Int → Option γ) (g : α → List β) (c : Nat) (T : List α) (hc : ∀ x ∈ T, (g x).length ≤ c) (r : γ) (s0 : List β)
  (hL : ∀ (i : Nat) (s : List β) (h : i < T.length), s.length ≤ s0.length + c * i → (g T[i]).length ≤ c → Ev (fun k => L k (s ++ g T[i]) (i + 1 : Nat)) r → Ev (fun k => L k s (i : Int)) r)
  (h : Ev (fun k => L k (s0 ++ T.flatMap g) (T.length : Int)) r) : Ev (fun k => L k s0 0) r := by
 have key : ∀ (d i : Nat), i + d = T.length → Ev (fun k => L k (s0 ++ (T.take i).flatMap g) (i : Int)) r := by
  intro d
  induction d with
  | zero =>
   intro i hi
   obtain rfl : i = T.length := by omega
   rw [List.take_length]; exact h
  | succ d ih =>
   intro i hi
   have h1 := ih (i + 1) (by omega)
   rw [flat_snoc_ g T i (by omega), ← List.append_assoc] at h1
   refine hL i _ (by omega) ?_ (hc _ (List.getElem_mem _)) h1
   have h2 := flat_le_ g c (T.take i) (fun s hs => hc s (List.mem_of_mem_take hs))
   rw [List.length_take] at h2
   have e : min i T.length = i := by omega
   rw [e] at h2
   rw [List.length_append]; omega
 have := key T.length 0 (by omega)
 simpa using this
def pbytes (t : Int) (v : S30) : List Int := if t = 6 then wbytes (v.f1.size : Int) 4 ++ bytesOf v.f1 else wbytes v.f0 (wideB t).toNat
def numsB (l : List S30) : List Int := l.map fun v => v.f0
def plainR (t : Int) (l : List S30) : List Int × Bool := if vsOk t l = true then (if t = 0 then (bitsR (numsB l) 1, true) else (l.flatMap (pbytes t), true)) else ([], false)
theorem pbytes_le (t : Int) (l : List S30) (h : vsOk t l = true) : ∀ v ∈ l, (pbytes t v).length ≤ 44 := by
 intro v hv
 simp only [vsOk, Bool.and_eq_true, decide_eq_true_eq] at h
 have h1 := List.all_eq_true.1 h.2 v hv
 unfold pbytes
 by_cases h6 : t = 6
 ·
  rw [if_pos h6, List.length_append, wbytes_length, bytesOf_length]
  subst h6
  simp [vOk] at h1
  omega
 ·
  rw [if_neg h6, wbytes_length]
  have : wideB t ≤ 8 := by unfold wideB; split <;> (try split) <;> (try split) <;> omega
  omega
theorem vsOk_type {t : Int} {l : List S30} (h : vsOk t l = true) : (t = 0 ∨ t = 1 ∨ t = 2 ∨ t = 5 ∨ t = 6) ∧ l.length ≤ 2000 := by
 simp only [vsOk, Bool.and_eq_true, decide_eq_true_eq, tOk] at h
 exact ⟨h.1.2, by omega⟩
theorem impl_numsOf_ev (l : List S30) (hl : l.length ≤ 1048576) : Ev (fun k => impl_numsOf.f k l) (numsB l) := by
 unfold impl_numsOf.f
 refine append_loop (fun k s i => impl_numsOf.l0 k s l (l.length : Int) i) (fun i => (rd_T30 l (i : Int)).f0) l.length _ (fun i s hi hls hr => ?_) ?_
 ·
  refine Ev.step (fun k => by rw [impl_numsOf.l0]) ?_
  refine Ev.pos (by omega) (Ev.pos (by omega) (Ev.pos (by omega) (Ev.pos (by omega) ?_)))
  rw [wrap64_id (x := (i : Int) + 1) (by omega) (by omega)]
  simpa using hr
 ·
  refine Ev.step (fun k => by rw [impl_numsOf.l0]) ?_
  refine Ev.neg (by omega) (Ev.const ?_)
  congr 1
  apply List.ext_getElem?
  intro j
  unfold numsB
  by_cases hj : j < l.length
  ·
   have e : rd_T30 l (j : Int) = l[j] := getD_eq (by simpa using hj)
   simp [hj, e]
  ·
   simp [hj]
theorem impl_PlainPack_ev (t : Int) (l : List S30) (hl : l.length ≤ 1048576) : Ev (fun k => impl_PlainPack.f k t l) (plainR t l) := by
 unfold impl_PlainPack.f
 refine Ev.bind (impl_valsOk_ev t l hl) ?_
 rcases Bool.eq_false_or_eq_true (vsOk t l) with h | h
 case inr =>
  have h : ¬ vsOk t l = true := by rw [h]; decide
  rw [show plainR t l = ([], false) from if_neg h]
  exact Ev.neg h (Ev.now _)
 refine Ev.pos h ?_
 obtain ⟨ht, hl2⟩ := vsOk_type h
 have hle := pbytes_le t l h
 by_cases h0 : t = 0
 ·
  subst h0
  rw [show plainR 0 l = (bitsR (numsB l) 1, true) from by unfold plainR; rw [if_pos h, if_pos rfl]]
  exact Ev.pos rfl (Ev.bind (impl_numsOf_ev l hl) (Ev.bind (impl_packed_ev (numsB l) (by simp [numsB]; omega) 1 (by omega)) (Ev.now _)))
 ·
  rw [show plainR t l = (l.flatMap (pbytes t), true) from by unfold plainR; rw [if_pos h, if_neg h0]]
  refine Ev.neg h0 ?_
  refine flat_loop (fun k s i => impl_PlainPack.l0 k t s l (l.length : Int) i) (pbytes t) 44 l hle _ [] (fun i s hi hs hsz hr => ?_) ?_
  ·
   have e : rd_T30 l (i : Int) = l[i] := getD_eq (by simpa using hi)
   have hs2 : s.length ≤ 44 * 2000 := by simp at hs; omega
   refine Ev.step (fun k => by rw [impl_PlainPack.l0]) ?_
   rw [wrap64_id (x := (i : Int) + 1) (by omega) (by omega), e]
   refine Ev.pos (by omega) (Ev.pos (by omega) (Ev.pos (by omega) ?_))
   by_cases h6 : t = 6
   ·
    have ep : pbytes t l[i] = wbytes ((l[i]).f1.size : Int) 4 ++ bytesOf (l[i]).f1 := by unfold pbytes; rw [if_pos h6]
    have hwl := wbytes_length ((l[i]).f1.size : Int) 4
    rw [ep] at hr hsz
    rw [List.length_append, bytesOf_length] at hsz
    rw [← List.append_assoc] at hr
    exact Ev.pos h6 (Ev.bind (impl_WordPut_ev _ 4 (by omega)) (Ev.pos (by omega) (Ev.here rfl (Ev.pos (by rw [List.length_append]; omega) (by simpa using hr)))))
   ·
    have ep : pbytes t l[i] = wbytes (l[i]).f0 (wideB t).toNat := by unfold pbytes; rw [if_neg h6]
    have hwr : 0 ≤ wideB t ∧ wideB t ≤ 8 := by unfold wideB; split <;> (try split) <;> (try split) <;> omega
    have hwn : wideB t = ((wideB t).toNat : Int) := by omega
    have hwl := wbytes_length (l[i]).f0 (wideB t).toNat
    rw [ep] at hr hsz
    refine Ev.neg h6 (Ev.here (wideOf_some t) ?_)
    rw [hwn]
    exact Ev.bind (impl_WordPut_ev _ _ (by omega)) (Ev.pos (by omega) (by simpa using hr))
  ·
   refine Ev.step (fun k => by rw [impl_PlainPack.l0]) ?_
   exact Ev.neg (by omega) (Ev.now _)
theorem structNode_ev (id : Int) (c : Nat) (P : List (List S76)) (hn : P.length ≤ 1048576) (hc : ∀ x ∈ P, x.length ≤ c) (hcp : c * P.length ≤ 1000000000) :
  Ev (fun k => impl_structNode.f k id P) ([(⟨12, id, 0, (⟨#[]⟩ : ByteArray), (P.length : Int)⟩ : S76)] ++ P.flatMap _root_.id) := by
 unfold impl_structNode.f
 refine flat_loop (fun k s i => impl_structNode.l0 k s P (P.length : Int) i) _root_.id c P hc _ _ (fun i s hi hs hsz hr => ?_) ?_
 ·
  have e : rd_L14 P (i : Int) = P[i] := getD_eq (by simpa using hi)
  have h1 : c * i ≤ c * P.length := Nat.mul_le_mul_left _ (by omega)
  refine Ev.step (fun k => by rw [impl_structNode.l0]) ?_
  rw [wrap64_id (x := (i : Int) + 1) (by omega) (by omega), e]
  simp only [_root_.id] at hr hsz
  have hs2 : s.length ≤ 1 + c * i := hs
  have hcc : P[i].length ≤ c * P.length := Nat.le_trans hsz (Nat.le_mul_of_pos_right _ (by omega))
  exact Ev.pos (by omega) (Ev.pos (by omega) (Ev.pos (by omega) (Ev.pos (by omega) (by simpa using hr))))
 ·
  refine Ev.step (fun k => by rw [impl_structNode.l0]) ?_
  exact Ev.neg (by omega) (Ev.now _)
def stOk (a b c n : Int) (h : Bool) (lo hi : S30) : Bool := lOk a b c && (decide (0 ≤ n ∧ n ≤ 2000) && (if h = true then vOk a lo && (vOk a hi && !vLess a hi lo) else (lo.f0 == 0 && noText lo.f1) && (hi.f0 == 0 && noText hi.f1)))
theorem impl_statsOk_ev (a b c n : Int) (h : Bool) (lo hi : S30) : Ev (fun k => impl_statsOk.f k a b c n h lo.f0 lo.f1 hi.f0 hi.f1) (stOk a b c n h lo hi) := by
 have bad : stOk a b c n h lo hi = false → Ev (fun k => impl_statsOk.j0 k true a b c n h lo.f0 lo.f1 hi.f0 hi.f1) (stOk a b c n h lo hi) := fun e => by
  rw [e]; exact Ev.step (fun k => by rw [impl_statsOk.j0]) (by exact Ev.pos rfl (Ev.now _))
 unfold impl_statsOk.f
 refine Ev.here (impl_LeafOk_some a b c) ?_
 cases h1 : lOk a b c with
 | false => exact Ev.neg (by decide) (bad (by simp [stOk, h1]))
 | true =>
  refine Ev.pos rfl (Ev.here (within_some _ _ _) ?_)
  by_cases h2 : 0 ≤ n ∧ n ≤ 2000
  ·
   rw [decide_eq_true h2]
   refine Ev.step (fun k => by rw [impl_statsOk.j0]) (Ev.neg (by decide) ?_)
   cases h with
   | true =>
    refine Ev.pos rfl (Ev.here (impl_ValOk_some a lo) ?_)
    cases h3 : vOk a lo with
    | false => exact Ev.neg (by decide) (Ev.const (by simp [stOk, h3]))
    | true =>
     refine Ev.pos rfl (Ev.here (impl_ValOk_some a hi) ?_)
     cases h4 : vOk a hi with
     | false => exact Ev.neg (by decide) (Ev.const (by simp [stOk, h4]))
     | true => exact Ev.pos rfl (Ev.bind (impl_ValLess_ev a hi lo) (Ev.const (by simp [stOk, h1, h2, h3, h4])))
   | false =>
    refine Ev.neg (by decide) ?_
    have e : ∀ s : ByteArray, (s.toList == ([] : List UInt8)) = noText s := fun s => rfl
    simp only [e]
    cases h3 : (lo.f0 == 0 && noText lo.f1) with
    | false => exact Ev.neg (by decide) (Ev.const (by simp [stOk, h3]))
    | true => exact Ev.pos rfl (Ev.const (by simp only [stOk, h1, decide_eq_true h2, h3]; rfl))
  ·
   rw [decide_eq_false h2]
   exact bad (by simp only [stOk, decide_eq_false h2]; simp)
def textR (t : Int) (v : S30) : ByteArray := if t = 6 then v.f1 else strOfNums (plainR t [v]).1
theorem impl_statText_ev (t : Int) (v : S30) : Ev (fun k => impl_statText.f k t v.f0 v.f1) (textR t v) := by
 unfold impl_statText.f textR
 by_cases h : t = 6
 ·
  rw [if_pos h]; exact Ev.pos h (Ev.now _)
 ·
  rw [if_neg h]; exact Ev.neg h (Ev.bind (impl_PlainPack_ev t [v] (by simp)) (Ev.now _))
def nodesR (id a n : Int) (h : Bool) (lo hi : S30) : List S76 :=
 if h = true then [⟨12, id, 0, (⟨#[]⟩ : ByteArray), 3⟩, ⟨6, 3, n, (⟨#[]⟩ : ByteArray), 0⟩, ⟨8, 5, 0, textR a hi, 0⟩, ⟨8, 6, 0, textR a lo, 0⟩] else [⟨12, id, 0, (⟨#[]⟩ : ByteArray), 1⟩, ⟨6, 3, n, (⟨#[]⟩ : ByteArray), 0⟩]
theorem impl_statsNodes_ev (id a b c n : Int) (h : Bool) (lo hi : S30) : Ev (fun k => impl_statsNodes.f k id a b c n h lo.f0 lo.f1 hi.f0 hi.f1) (nodesR id a n h lo hi) := by
 unfold impl_statsNodes.f nodesR
 refine Ev.here rfl (Ev.here rfl ?_)
 cases h with
 | true =>
  have key := structNode_ev id 1 [[(⟨6, 3, n, (⟨#[]⟩ : ByteArray), 0⟩ : S76)], [⟨8, 5, 0, textR a hi, 0⟩], [⟨8, 6, 0, textR a lo, 0⟩]] (by simp) (by simp) (by simp)
  exact Ev.pos rfl (Ev.bind (impl_statText_ev a hi) (Ev.here rfl (Ev.bind (impl_statText_ev a lo) (Ev.here rfl (Ev.here rfl (Ev.pos (by simp) (Ev.bind key (Ev.now _))))))))
 | false =>
  have key := structNode_ev id 1 [[(⟨6, 3, n, (⟨#[]⟩ : ByteArray), 0⟩ : S76)]] (by simp) (by simp) (by simp)
  exact Ev.neg (by decide) (Ev.bind key (Ev.now _))
def statsTreeR (a b c n : Int) (h : Bool) (lo hi : S30) : List S76 × Bool := if stOk a b c n h lo hi = true then (nodesR 0 a n h lo hi, true) else ([], false)
theorem impl_StatsTree_ev (a b c n : Int) (h : Bool) (lo hi : S30) : Ev (fun k => impl_StatsTree.f k a b c n h lo.f0 lo.f1 hi.f0 hi.f1) (statsTreeR a b c n h lo hi) := by
 unfold impl_StatsTree.f statsTreeR
 refine Ev.bind (impl_statsOk_ev a b c n h lo hi) ?_
 cases stOk a b c n h lo hi with
 | true => exact Ev.pos rfl (Ev.bind (impl_statsNodes_ev 0 a b c n h lo hi) (Ev.now _))
 | false => exact Ev.neg (by decide) (Ev.now _)
theorem bitsSize_impl (w : Nat) (hw : w ≤ 24) : impl_BitsSize.f 1 (w : Int) = some (((w + 7) / 8 : Nat) : Int) := by
 unfold impl_BitsSize.f
 simp only [within_some, Option.bind_some]
 rw [decide_eq_true (show (0 : Int) ≤ 1 ∧ (1 : Int) ≤ 2000 by omega), decide_eq_true (show (0 : Int) ≤ (w : Int) ∧ (w : Int) ≤ 62 by omega), if_pos rfl, if_pos rfl]
 rw [Int.one_mul, wrap64_id (x := (w : Int)) (by omega) (by omega), wrap64_id (x := (w : Int) + 7) (by omega) (by omega), Int.tdiv_eq_ediv_of_nonneg (by omega), wrap64_id (by omega) (by omega)]
 congr 1
theorem shl_i64_nat (d j : Nat) (hj : j ≤ 64) : shl .i64 (d : Int) (j : Int) = wrap64 ((d * 2 ^ j : Nat) : Int) := by
 unfold shl
 have e2 : min ((j : Int)).toNat IntKind.i64.bits = j := by
  have : IntKind.i64.bits = 64 := rfl
  omega
 rw [e2, IntKind.wrap_i64]
 push_cast
 unfold wrap64; rfl
def gstep (b : List Int) (at_ : Int) (k : Nat) (x : Int) : Int := Go.bits .or .i64 x (shl .i64 (wrap64 (rd b (wrap64 (at_ + (k : Int))))) (wrap64 (8 * (k : Int))))
def wordV (b : List Int) (at_ : Int) (n : Nat) : Int := (List.range n).foldl (fun x k => gstep b at_ k x) 0
theorem rd_byte (b : List Int) (hb : ∀ x ∈ b, 0 ≤ x ∧ x ≤ 255) (j : Int) : 0 ≤ rd b j ∧ rd b j ≤ 255 := by
 by_cases h : j.toNat < b.length
 ·
  rw [rd_eq h]; exact hb _ (List.getElem_mem h)
 ·
  unfold rd; rw [List.getD_eq_getElem?_getD, List.getElem?_eq_none (by omega)]; simp
theorem WordGet_impl (b : List Int) (hl : b.length ≤ 1048576) (at_ : Int) (i0 : -9223372036854775808 ≤ at_) (i1 : at_ ≤ 9223372036854775807) (n : Nat) (n1 : 1 ≤ n) (n8 : n ≤ 8) :
  Ev (fun k => impl_WordGet.f k b at_ (n : Int)) (if 0 ≤ at_ ∧ at_ + n ≤ b.length then (wordV b at_ n, at_ + n, true) else (0, 0, false)) := by
 have bi : ∀ r, r = ((0, 0, false) : Int × Int × Bool) → Ev (fun k => impl_WordGet.j0 k b at_ (n : Int) true) r := fun r h => by rw [h]; exact Ev.step (fun k => by rw [impl_WordGet.j0]) (by exact Ev.pos rfl (Ev.now _))
 unfold impl_WordGet.f
 have w8 : wrap64 ((b.length : Int) - n) = b.length - n := wrap64_id (by omega) (by omega)
 by_cases h : 0 ≤ at_ ∧ at_ + n ≤ b.length
 ·
  rw [if_pos h]
  have w9 : wrap64 (at_ + (n : Int)) = at_ + n := wrap64_id (by omega) (by omega)
  refine Ev.here (within_some _ _ _) (Ev.pos (by simp; omega) (Ev.neg (by omega) ?_))
  have : decide (at_ > wrap64 ((b.length : Int) - (n : Int))) = false := by rw [w8]; simp; omega
  rw [this]
  refine Ev.step (fun k => by rw [impl_WordGet.j0]) ?_
  refine Ev.neg (by decide) ?_
  refine loop_cps (fun k x i => impl_WordGet.l0 k b at_ (n : Int) x (n : Int) i) (fun k x => gstep b at_ k x) n _ (fun i x hi hr => ?_) 0 ?_
  ·
   refine Ev.step (fun k => by rw [impl_WordGet.l0]) ?_
   have e : ((i + 1 : Nat) : Int) = (i : Int) + 1 := by push_cast; rfl
   rw [e] at hr
   rw [wrap64_id (x := (i : Int) + 1) (by omega) (by omega)]
   exact Ev.pos (by omega) (Ev.pos (by rw [wrap64_id (by omega) (by omega)]; omega) (Ev.pos (by rw [wrap64_id (by omega) (by omega)]; omega) (Ev.pos (by rw [wrap64_id (by omega) (by omega)]; omega) hr)))
  ·
   refine Ev.step (fun k => by rw [impl_WordGet.l0]) ?_
   rw [w9]
   exact Ev.neg (by omega) (Ev.now _)
 ·
  rw [if_neg h]
  refine Ev.here (within_some _ _ _) (Ev.pos (by simp; omega) ?_)
  by_cases h1 : at_ < 0
  ·
   exact Ev.pos h1 (bi _ rfl)
  ·
   refine Ev.neg h1 ?_
   have : decide (at_ > wrap64 ((b.length : Int) - (n : Int))) = true := by rw [w8]; simp; omega
   rw [this]; exact bi _ rfl
def itemB (t : Int) : Bool := decide (t = 5 ∨ t = 6 ∨ t = 8 ∨ t = 9 ∨ t = 12)
def noT (s : ByteArray) : Bool := decide (s.toList = ([] : List UInt8))
def plainB (n : S76) : Bool :=
 if n.f0 = 1 ∨ n.f0 = 2 then decide (n.f2 = 0) && (noT n.f3 && n.f4 == 0)
 else if n.f0 = 5 then decide (-2147483648 ≤ n.f2 ∧ n.f2 ≤ 2147483647) && (noT n.f3 && n.f4 == 0)
 else if n.f0 = 6 then noT n.f3 && n.f4 == 0
 else if n.f0 = 8 then decide (n.f2 = 0) && (decide ((n.f3.size : Int) ≤ 300) && n.f4 == 0)
 else if n.f0 = 9 then noT n.f3 && (decide (n.f4 ≥ 0) && (if n.f4 = 0 then decide (n.f2 = 0) else itemB n.f2))
 else if n.f0 = 12 then decide (n.f2 = 0) && (noT n.f3 && decide (n.f4 ≥ 0)) else false
theorem isType_some (t : Int) (b : Bool) : Ev (fun k => impl_isType.f k t b) (if t = 1 ∨ t = 2 then !b else itemB t) := by
 refine ⟨1, fun k hk => ?_⟩
 obtain ⟨m, rfl⟩ : ∃ m, k = m + 1 := ⟨k - 1, by omega⟩
 unfold impl_isType.f itemB
 simp only [impl_isType.j0]
 by_cases h1 : t = 1
 ·
  subst h1; simp
 by_cases h2 : t = 2
 ·
  subst h2; simp
 simp only [if_neg h1, h1, h2, or_self, if_false]
 by_cases h5 : t = 5
 ·
  subst h5; simp
 by_cases h6 : t = 6
 ·
  subst h6; simp
 by_cases h8 : t = 8
 ·
  subst h8; simp
 by_cases h9 : t = 9
 ·
  subst h9; simp
 by_cases h12 : t = 12
 ·
  subst h12; simp
 simp [h1, h2, h5, h6, h8, h9, h12]
theorem impl_nodeOk_ev (n : S76) : Ev (fun k => impl_nodeOk.f k n.f0 n.f1 n.f2 n.f3 n.f4) (plainB n) := by
 have nt : ∀ {g : Nat → Option Bool} {r : Bool}, (n.f3.toList = ([] : List UInt8) → Ev g r) → Ev (fun k => if n.f3.toList = ([] : List UInt8) then g k else some false) (noT n.f3 && r) := by
  intro g r h
  by_cases h3 : n.f3.toList = ([] : List UInt8)
  ·
   rw [show noT n.f3 = true from decide_eq_true h3, Bool.true_and]; exact Ev.pos h3 (h h3)
  ·
   rw [show noT n.f3 = false from decide_eq_false h3, Bool.false_and]; exact Ev.neg h3 (Ev.now _)
 have z : ∀ {c : Prop} [Decidable c] {g : Nat → Option Bool} {r : Bool}, (c → Ev g r) → Ev (fun k => if c then g k else some false) (decide c && r) := by
  intro c _ g r h
  by_cases hc : c
  ·
   rw [decide_eq_true hc, Bool.true_and]; exact Ev.pos hc (h hc)
  ·
   rw [decide_eq_false hc, Bool.false_and]; exact Ev.neg hc (Ev.now _)
 unfold impl_nodeOk.f
 by_cases h5 : n.f0 = 5
 ·
  have e : plainB n = (decide (-2147483648 ≤ n.f2 ∧ n.f2 ≤ 2147483647) && (noT n.f3 && n.f4 == 0)) := by unfold plainB; rw [if_neg (by omega), if_pos h5]
  rw [e]
  refine Ev.pos h5 (Ev.here (a := decide (-2147483648 ≤ n.f2 ∧ n.f2 ≤ 2147483647)) (by unfold impl_isInt32.f; rw [within_some]; rfl) ?_)
  cases decide (-2147483648 ≤ n.f2 ∧ n.f2 ≤ 2147483647) with
  | true => exact Ev.pos rfl (Ev.cast (nt (fun _ => Ev.now _)) (by simp))
  | false => exact Ev.neg (by decide) (Ev.now _)
 refine Ev.neg h5 ?_
 by_cases h6 : n.f0 = 6
 ·
  have e : plainB n = (noT n.f3 && n.f4 == 0) := by unfold plainB; rw [if_neg (by omega), if_neg h5, if_pos h6]
  rw [e]
  exact Ev.pos h6 (nt (fun _ => Ev.now _))
 refine Ev.neg h6 ?_
 by_cases h8 : n.f0 = 8
 ·
  have e : plainB n = (decide (n.f2 = 0) && (decide ((n.f3.size : Int) ≤ 300) && n.f4 == 0)) := by unfold plainB; rw [if_neg (by omega), if_neg h5, if_neg h6, if_pos h8]
  rw [e]
  exact Ev.pos h8 (z (fun _ => z (fun _ => Ev.now _)))
 refine Ev.neg h8 ?_
 by_cases h9 : n.f0 = 9
 ·
  have e : plainB n = (noT n.f3 && (decide (n.f4 ≥ 0) && (if n.f4 = 0 then decide (n.f2 = 0) else itemB n.f2))) := by unfold plainB; rw [if_neg (by omega), if_neg h5, if_neg h6, if_neg h8, if_pos h9]
  rw [e]
  refine Ev.pos h9 (nt (fun _ => z (fun hge => ?_)))
  have it : Ev (fun k => if n.f4 > 0 then ((impl_isType.f k n.f2 true).bind fun t => (some t)) else some false) (decide (n.f4 > 0) && itemB n.f2) := by
   refine z (fun _ => Ev.cast (Ev.bind (isType_some n.f2 true) (Ev.now _)) ?_)
   by_cases h12 : n.f2 = 1 ∨ n.f2 = 2
   ·
    rw [if_pos h12]; unfold itemB; symm; rw [decide_eq_false (by omega)]; rfl
   ·
    rw [if_neg h12]
  by_cases h0 : n.f4 = 0
  ·
   have e2 : (if n.f4 = 0 then decide (n.f2 = 0) else itemB n.f2) = decide (n.f2 = 0) := if_pos h0
   rw [e2]
   refine Ev.pos h0 ?_
   by_cases h2 : n.f2 = 0
   ·
    rw [decide_eq_true h2]; exact Ev.pos h2 (Ev.now _)
   ·
    rw [decide_eq_false h2]; exact Ev.neg h2 (Ev.cast it (by rw [decide_eq_false (by omega)]; rfl))
  ·
   have e2 : (if n.f4 = 0 then decide (n.f2 = 0) else itemB n.f2) = itemB n.f2 := if_neg h0
   rw [e2]
   exact Ev.neg h0 (Ev.cast it (by rw [decide_eq_true (by omega)]; rfl))
 refine Ev.neg h9 ?_
 by_cases h12 : n.f0 = 12
 ·
  have e : plainB n = (decide (n.f2 = 0) && (noT n.f3 && decide (n.f4 ≥ 0))) := by unfold plainB; rw [if_neg (by omega), if_neg h5, if_neg h6, if_neg h8, if_neg h9, if_pos h12]
  rw [e]
  exact Ev.pos h12 (z (fun _ => nt (fun _ => Ev.now _)))
 refine Ev.neg h12 (Ev.bind (isType_some n.f0 false) ?_)
 by_cases h1 : n.f0 = 1 ∨ n.f0 = 2
 ·
  have e : plainB n = (decide (n.f2 = 0) && (noT n.f3 && n.f4 == 0)) := by unfold plainB; rw [if_pos h1]
  rw [e, if_pos h1]
  exact Ev.pos rfl (z (fun _ => nt (fun _ => Ev.now _)))
 ·
  have e : plainB n = false := by unfold plainB; rw [if_neg h1, if_neg h5, if_neg h6, if_neg h8, if_neg h9, if_neg h12]
  rw [e, if_neg h1]
  refine Ev.neg ?_ (Ev.now _)
  unfold itemB; rw [decide_eq_false (by omega)]; decide
def nd (L : List S76) (p : Nat) : S76 := L.getD p z76
theorem rd_nd (L : List S76) (p : Nat) : rd_T76 L (p : Int) = nd L p := rfl
def partB (n : S76) (last : Int) (p : S76) : Bool :=
 if n.f0 = 9 then decide (p.f0 = n.f2) && decide (p.f1 = 0) else if n.f0 = 12 then decide (last < p.f1 ∧ p.f1 ≤ 1000) else true
def cLoop (L : List S76) (n : S76) (rec : Nat → Option Nat) : Nat → Nat → Int → Nat → Option Nat
 | 0, _, _, _ => none
 | f + 1, next, last, i => if (i : Int) < n.f4 then (if next < L.length then (if partB n last (nd L next) = true then (match rec next with | none => none | some x => cLoop L n rec f x (nd L next).f1 (i + 1)) else none) else none) else some next
def cF (L : List S76) : Nat → Nat → Option Nat
 | 0, _ => none
 | d + 1, p => if p < L.length then (if plainB (nd L p) = true then cLoop L (nd L p) (cF L d) (L.length + 1 - p) (p + 1) 0 0 else none) else none
def oN : Option Nat → Int
 | none => -1
 | some v => v
theorem oN_some (v : Nat) : oN (some v) = (v : Int) := rfl
theorem cLoop_bound (L : List S76) (n : S76) (rec : Nat → Option Nat) (hr : ∀ q x, rec q = some x → q < x ∧ x ≤ L.length) : ∀ f next last i v, next ≤ L.length → cLoop L n rec f next last i = some v → next ≤ v ∧ v ≤ L.length
 | 0, _, _, _, _, _, h => by simp [cLoop] at h
 | f + 1, next, last, i, v, hn, h => by
  unfold cLoop at h
  split at h
  ·
   split at h
   ·
    split at h
    ·
     cases hx : rec next with
     | none => rw [hx] at h; cases h
     | some x =>
      rw [hx] at h
      have h1 := hr next x hx
      have h2 := cLoop_bound L n rec hr f x _ _ v h1.2 h
      omega
    ·
     cases h
   ·
    cases h
  ·
   injection h with h; omega
theorem cF_bound (L : List S76) : ∀ d p v, cF L d p = some v → p < v ∧ v ≤ L.length
 | 0, _, _, h => by simp [cF] at h
 | d + 1, p, v, h => by
  unfold cF at h
  split at h
  ·
   split at h
   ·
    have := cLoop_bound L _ _ (cF_bound L d) _ _ _ _ v (by omega) h; omega
   ·
    cases h
  ·
   cases h
theorem cLoop_mono (L : List S76) (n : S76) (rec rec' : Nat → Option Nat) (hr : ∀ q x, rec q = some x → rec' q = some x) : ∀ f next last i v, cLoop L n rec f next last i = some v → cLoop L n rec' f next last i = some v
 | 0, _, _, _, _, h => by simp [cLoop] at h
 | f + 1, next, last, i, v, h => by
  unfold cLoop at h ⊢
  split at h
  ·
   rename_i h1
   rw [if_pos h1]
   split at h
   ·
    rename_i h2
    rw [if_pos h2]
    split at h
    ·
     rename_i h3
     rw [if_pos h3]
     cases hx : rec next with
     | none => rw [hx] at h; cases h
     | some x =>
      rw [hx] at h
      rw [hr next x hx]
      exact cLoop_mono L n rec rec' hr f x _ _ v h
    ·
     cases h
   ·
    cases h
  ·
   rename_i h1
   rw [if_neg h1]; exact h
theorem cF_mono1 (L : List S76) : ∀ d p v, cF L d p = some v → cF L (d + 1) p = some v
 | 0, _, _, h => by simp [cF] at h
 | d + 1, p, v, h => by
  rw [cF] at h ⊢
  split at h
  ·
   rename_i h1
   rw [if_pos h1]
   split at h
   ·
    rename_i h2
    rw [if_pos h2]
    exact cLoop_mono L _ _ _ (cF_mono1 L d) _ _ _ _ v h
   ·
    cases h
  ·
   cases h
theorem cF_mono (L : List S76) (p v : Nat) (d : Nat) (h : cF L d p = some v) : ∀ e, cF L (d + e) p = some v
 | 0 => h
 | e + 1 => cF_mono1 L (d + e) p v (cF_mono L p v d h e)
theorem cF_det (L : List S76) {p v v' d d' : Nat} (h : cF L d p = some v) (h' : cF L d' p = some v') : v = v' := by
 have h1 := cF_mono L p v d h d'
 have h2 := cF_mono L p v' d' h' d
 rw [Nat.add_comm] at h2
 rw [h1] at h2
 injection h2
def mLoop (L : List S76) (n : S76) (rec : Nat → List Int → Option Nat × List Int) : Nat → Nat → Int → Nat → List Int → Option Nat × List Int
 | 0, _, _, _, A => (none, A)
 | f + 1, next, last, i, A => if (i : Int) < n.f4 then (if next < L.length then (if partB n last (nd L next) = true then (match (rec next A).1 with | none => (none, (rec next A).2) | some x => mLoop L n rec f x (nd L next).f1 (i + 1) (rec next A).2) else (none, A)) else (none, A)) else (some next, A)
def mF (L : List S76) : Nat → Nat → List Int → Option Nat × List Int
 | 0, _, A => (none, A)
 | d + 1, p, A => if p < L.length then (if plainB (nd L p) = true then (match (mLoop L (nd L p) (mF L d) (L.length + 1 - p) (p + 1) 0 0 A).1 with | none => (none, (mLoop L (nd L p) (mF L d) (L.length + 1 - p) (p + 1) 0 0 A).2) | some x => (some x, (mLoop L (nd L p) (mF L d) (L.length + 1 - p) (p + 1) 0 0 A).2.set p (x : Int))) else (none, A)) else (none, A)
theorem mLoop_fst (L : List S76) (n : S76) (rec : Nat → List Int → Option Nat × List Int) (rec' : Nat → Option Nat) (hr : ∀ q A, (rec q A).1 = rec' q) : ∀ f next last i A, (mLoop L n rec f next last i A).1 = cLoop L n rec' f next last i
 | 0, _, _, _, _ => rfl
 | f + 1, next, last, i, A => by
  unfold mLoop cLoop
  by_cases h1 : (i : Int) < n.f4
  ·
   rw [if_pos h1, if_pos h1]
   by_cases h2 : next < L.length
   ·
    rw [if_pos h2, if_pos h2]
    by_cases h3 : partB n last (nd L next) = true
    ·
     rw [if_pos h3, if_pos h3, hr next A]
     cases rec' next with
     | none => rfl
     | some x => exact mLoop_fst L n rec rec' hr f x _ _ _
    ·
     rw [if_neg h3, if_neg h3]
   ·
    rw [if_neg h2, if_neg h2]
  ·
   rw [if_neg h1, if_neg h1]
theorem mF_fst (L : List S76) : ∀ d p A, (mF L d p A).1 = cF L d p
 | 0, _, _ => rfl
 | d + 1, p, A => by
  unfold mF cF
  by_cases h1 : p < L.length
  ·
   rw [if_pos h1, if_pos h1]
   by_cases h2 : plainB (nd L p) = true
   ·
    rw [if_pos h2, if_pos h2, mLoop_fst L _ _ (cF L d) (fun q A => mF_fst L d q A)]
    cases cLoop L (nd L p) (cF L d) (L.length + 1 - p) (p + 1) 0 0 <;> rfl
   ·
    rw [if_neg h2, if_neg h2]
  ·
   rw [if_neg h1, if_neg h1]
theorem mLoop_len (L : List S76) (n : S76) (rec : Nat → List Int → Option Nat × List Int) (hr : ∀ q A, (rec q A).2.length = A.length) : ∀ f next last i A, (mLoop L n rec f next last i A).2.length = A.length
 | 0, _, _, _, _ => rfl
 | f + 1, next, last, i, A => by
  unfold mLoop
  split
  ·
   split
   ·
    split
    ·
     cases (rec next A).1 with
     | none => exact hr next A
     | some x => exact (mLoop_len L n rec hr f x _ _ _).trans (hr next A)
    ·
     rfl
   ·
    rfl
  ·
   rfl
theorem mF_len (L : List S76) : ∀ d p A, (mF L d p A).2.length = A.length
 | 0, _, _ => rfl
 | d + 1, p, A => by
  unfold mF
  have h := mLoop_len L (nd L p) (mF L d) (mF_len L d) (L.length + 1 - p) (p + 1) 0 0 A
  split
  ·
   split
   ·
    cases (mLoop L (nd L p) (mF L d) (L.length + 1 - p) (p + 1) 0 0 A).1 with
    | none => exact h
    | some x => show ((mLoop L (nd L p) (mF L d) (L.length + 1 - p) (p + 1) 0 0 A).2.set p (x : Int)).length = _; rw [List.length_set]; exact h
   ·
    rfl
  ·
   rfl
def Noted (L : List S76) (a b : Nat) (A B : List Int) : Prop := (∀ q, q < a ∨ b ≤ q → B[q]? = A[q]?) ∧ ∀ q, a ≤ q → q < b → ∃ (x : Nat) (e : Nat), B[q]? = some (x : Int) ∧ cF L e q = some x
theorem mLoop_noted (L : List S76) (n : S76) (d : Nat) (hr : ∀ q A v, q < L.length → A.length = L.length → cF L d q = some v → Noted L q v A (mF L d q A).2) : ∀ f next last i A v, next ≤ L.length → A.length = L.length → cLoop L n (cF L d) f next last i = some v → Noted L next v A (mLoop L n (mF L d) f next last i A).2
 | 0, _, _, _, _, _, _, _, h => by simp [cLoop] at h
 | f + 1, next, last, i, A, v, hn, hA, h => by
  unfold cLoop at h
  unfold mLoop
  by_cases h1 : (i : Int) < n.f4
  ·
   rw [if_pos h1] at h ⊢
   by_cases h2 : next < L.length
   ·
    rw [if_pos h2] at h ⊢
    by_cases h3 : partB n last (nd L next) = true
    ·
     rw [if_pos h3] at h ⊢
     rw [mF_fst]
     cases hx : cF L d next with
     | none => rw [hx] at h; cases h
     | some x =>
      rw [hx] at h
      have hb := cF_bound L d next x hx
      have n1 := hr next A x h2 hA hx
      have n2 := mLoop_noted L n d hr f x _ _ (mF L d next A).2 v hb.2 (by rw [mF_len]; exact hA) h
      have hv := cLoop_bound L n (cF L d) (cF_bound L d) f x _ _ v hb.2 h
      refine ⟨fun q hq => (n2.1 q (by omega)).trans (n1.1 q (by omega)), fun q h4 h5 => ?_⟩
      by_cases h6 : q < x
      ·
       obtain ⟨y, e, e1, e2⟩ := n1.2 q h4 h6
       exact ⟨y, e, (n2.1 q (by omega)).trans e1, e2⟩
      ·
       exact n2.2 q (by omega) h5
    ·
     rw [if_neg h3] at h; cases h
   ·
    rw [if_neg h2] at h; cases h
  ·
   rw [if_neg h1] at h ⊢
   injection h with h
   subst h
   exact ⟨fun _ _ => rfl, fun q h4 h5 => by omega⟩
theorem mF_noted (L : List S76) : ∀ d p A v, p < L.length → A.length = L.length → cF L d p = some v → Noted L p v A (mF L d p A).2
 | 0, _, _, _, _, _, h => by simp [cF] at h
 | d + 1, p, A, v, hp, hA, h => by
  have h0 := h
  unfold cF at h
  unfold mF
  rw [if_pos hp] at h ⊢
  by_cases h2 : plainB (nd L p) = true
  ·
   rw [if_pos h2] at h ⊢
   have n1 := mLoop_noted L (nd L p) d (mF_noted L d) (L.length + 1 - p) (p + 1) 0 0 A v (by omega) hA h
   have hl := mLoop_len L (nd L p) (mF L d) (mF_len L d) (L.length + 1 - p) (p + 1) 0 0 A
   have hv := cLoop_bound L (nd L p) (cF L d) (cF_bound L d) _ _ _ _ v (by omega) h
   rw [mLoop_fst L (nd L p) (mF L d) (cF L d) (mF_fst L d), h]
   refine ⟨fun q hq => ?_, fun q h4 h5 => ?_⟩
   ·
    show ((mLoop L (nd L p) (mF L d) (L.length + 1 - p) (p + 1) 0 0 A).2.set p (v : Int))[q]? = _
    rw [List.getElem?_set_ne (by omega)]
    exact n1.1 q (by omega)
   ·
    show ∃ (x : Nat) (e : Nat), ((mLoop L (nd L p) (mF L d) (L.length + 1 - p) (p + 1) 0 0 A).2.set p (v : Int))[q]? = some (x : Int) ∧ _
    by_cases h6 : q = p
    ·
     subst h6
     exact ⟨v, d + 1, by rw [List.getElem?_set_self (by omega)], h0⟩
    ·
     obtain ⟨y, e, e1, e2⟩ := n1.2 q (by omega) h5
     exact ⟨y, e, by rw [List.getElem?_set_ne (by omega)]; exact e1, e2⟩
  ·
   rw [if_neg h2] at h; cases h
theorem impl_measure_ev (L : List S76) (hL : L.length ≤ 1500) : ∀ d p : Nat, ∀ A : List Int, d ≤ 12 → p ≤ L.length → A.length = L.length → Ev (fun k => impl_tree_measure.f k L A (p : Int) (13 - (d : Int))) (oN (mF L d p A).1, (mF L d p A).2) := by
 intro d
 induction d with
 | zero =>
  intro p A _ hp hA
  have bad : Ev (fun k => impl_tree_measure.j0 k (p : Int) (13 - ((0 : Nat) : Int)) true L A) (-1, A) := Ev.step (fun k => by rw [impl_tree_measure.j0]) (by exact Ev.pos rfl (Ev.now _))
  refine Ev.step (fun k => by rw [impl_tree_measure.f]) ?_
  by_cases h1 : (p : Int) ≥ (L.length : Int)
  ·
   exact Ev.pos h1 bad
  ·
   exact Ev.neg h1 (Ev.pos (by omega) bad)
 | succ d ih =>
  intro p A hd hp hA
  have bad : Ev (fun k => impl_tree_measure.j0 k (p : Int) (13 - ((d + 1 : Nat) : Int)) true L A) (-1, A) := Ev.step (fun k => by rw [impl_tree_measure.j0]) (by exact Ev.pos rfl (Ev.now _))
  refine Ev.step (fun k => by rw [impl_tree_measure.f]) ?_
  unfold mF
  by_cases h1 : p < L.length
  ·
   rw [if_pos h1]
   refine Ev.neg (by omega) (Ev.neg (by omega) (Ev.pos (by omega) (Ev.pos (by omega) ?_)))
   rw [rd_nd]
   refine Ev.bind (impl_nodeOk_ev (nd L p)) ?_
   cases hb : plainB (nd L p) with
   | false => rw [if_neg (by decide)]; exact bad
   | true =>
    rw [if_pos rfl]
    have fin : Option Nat × List Int → Int × List Int := fun z => match z.1 with | none => (-1, z.2) | some x => ((x : Int), z.2.set p (x : Int))
    have loop : ∀ f next i : Nat, ∀ last : Int, ∀ B : List Int, next ≤ L.length → L.length + 1 ≤ next + f → i + 1 ≤ next → B.length = L.length → ((nd L p).f0 = 12 → 0 ≤ last ∧ last ≤ 1000) → Ev (fun k => impl_tree_measure.l0 k (p : Int) (13 - ((d + 1 : Nat) : Int)) (next : Int) last (nd L p).f4 (i : Int) L B (nd L p).f0 (nd L p).f1 (nd L p).f2 (nd L p).f3 (nd L p).f4)
      (oN (mLoop L (nd L p) (mF L d) f next last i B).1, (match (mLoop L (nd L p) (mF L d) f next last i B).1 with | none => (mLoop L (nd L p) (mF L d) f next last i B).2 | some x => (mLoop L (nd L p) (mF L d) f next last i B).2.set p (x : Int))) := by
     intro f
     induction f with
     | zero => intro next i last B h2 h3 _ _ _; omega
     | succ f ihf =>
      intro next i last B h2 h3 h4 hB hlast
      refine Ev.step (fun k => by rw [impl_tree_measure.l0]) ?_
      unfold mLoop
      by_cases h5 : (i : Int) < (nd L p).f4
      ·
       rw [if_pos h5]
       refine Ev.pos h5 ?_
       by_cases h6 : next < L.length
       ·
        rw [if_pos h6]
        refine Ev.neg (by omega) (Ev.pos (by omega) (Ev.pos (by omega) ?_))
        rw [rd_nd]
        have good : partB (nd L p) last (nd L next) = true → Ev (fun k => impl_tree_measure.j3 k (p : Int) (13 - ((d + 1 : Nat) : Int)) (next : Int) (nd L p).f4 (i : Int) false L B (nd L p).f0 (nd L p).f1 (nd L p).f2 (nd L p).f3 (nd L p).f4 (nd L next).f0 (nd L next).f1 (nd L next).f2 (nd L next).f3 (nd L next).f4)
          (oN (match (mF L d next B).1 with | none => (none, (mF L d next B).2) | some x => mLoop L (nd L p) (mF L d) f x (nd L next).f1 (i + 1) (mF L d next B).2).1, (match (match (mF L d next B).1 with | none => (none, (mF L d next B).2) | some x => mLoop L (nd L p) (mF L d) f x (nd L next).f1 (i + 1) (mF L d next B).2).1 with | none => (match (mF L d next B).1 with | none => (none, (mF L d next B).2) | some x => mLoop L (nd L p) (mF L d) f x (nd L next).f1 (i + 1) (mF L d next B).2).2 | some x => (match (mF L d next B).1 with | none => (none, (mF L d next B).2) | some x => mLoop L (nd L p) (mF L d) f x (nd L next).f1 (i + 1) (mF L d next B).2).2.set p (x : Int))) := by
         intro hq
         have hl2 : (nd L p).f0 = 12 → 0 ≤ (nd L next).f1 ∧ (nd L next).f1 ≤ 1000 := fun h12 => by
          have h14 := hlast h12
          unfold partB at hq
          rw [if_neg (show ¬ (nd L p).f0 = 9 by omega), if_pos h12] at hq
          have h13 := of_decide_eq_true hq
          omega
         refine Ev.step (fun k => by rw [impl_tree_measure.j3]) ?_
         refine Ev.neg (by decide) ?_
         rw [wrap64_id (x := 13 - ((d + 1 : Nat) : Int) + 1) (by omega) (by omega), show 13 - ((d + 1 : Nat) : Int) + 1 = 13 - (d : Int) by omega]
         refine Ev.bind (ih next B (by omega) (by omega) hB) ?_
         have hfst := mF_fst L d next B
         have hlen := mF_len L d next B
         cases hx : (mF L d next B).1 with
         | none => exact Ev.pos (show (-1 : Int) < 0 by decide) (Ev.now _)
         | some x =>
          rw [hx] at hfst
          have hxb := cF_bound L d next x hfst.symm
          refine Ev.neg (by show ¬ ((x : Nat) : Int) < 0; omega) ?_
          rw [wrap64_id (x := (i : Int) + 1) (by omega) (by omega)]
          have := ihf x (i + 1) (nd L next).f1 (mF L d next B).2 hxb.2 (by omega) (by omega) (by rw [hlen]; exact hB) hl2
          simpa [oN_some] using this
        have badj3 : Ev (fun k => impl_tree_measure.j3 k (p : Int) (13 - ((d + 1 : Nat) : Int)) (next : Int) (nd L p).f4 (i : Int) true L B (nd L p).f0 (nd L p).f1 (nd L p).f2 (nd L p).f3 (nd L p).f4 (nd L next).f0 (nd L next).f1 (nd L next).f2 (nd L next).f3 (nd L next).f4) (-1, B) :=
         Ev.step (fun k => by rw [impl_tree_measure.j3]) (by exact Ev.pos rfl (Ev.now _))
        have badj2 : Ev (fun k => impl_tree_measure.j2 k (p : Int) (13 - ((d + 1 : Nat) : Int)) (next : Int) last (nd L p).f4 (i : Int) true L B (nd L p).f0 (nd L p).f1 (nd L p).f2 (nd L p).f3 (nd L p).f4 (nd L next).f0 (nd L next).f1 (nd L next).f2 (nd L next).f3 (nd L next).f4) (-1, B) :=
         Ev.step (fun k => by rw [impl_tree_measure.j2]) (by exact Ev.pos rfl (Ev.now _))
        cases hq : partB (nd L p) last (nd L next) with
        | false =>
         rw [if_neg (by decide)]
         show Ev _ (-1, B)
         unfold partB at hq
         by_cases h9 : (nd L p).f0 = 9
         ·
          rw [if_pos h9] at hq
          refine Ev.pos h9 ?_
          by_cases h10 : (nd L next).f0 = (nd L p).f2
          ·
           refine Ev.pos h10 ?_
           rw [decide_eq_true h10, Bool.true_and] at hq
           have h11 := of_decide_eq_false hq
           rw [show ((nd L next).f1 != 0) = true from by simpa using h11]
           exact badj2
          ·
           exact Ev.neg h10 badj2
         ·
          rw [if_neg h9] at hq
          refine Ev.neg h9 ?_
          by_cases h12 : (nd L p).f0 = 12
          ·
           rw [if_pos h12] at hq
           have h13 := of_decide_eq_false hq
           have h14 := hlast h12
           refine Ev.step (fun k => by rw [impl_tree_measure.j2]) ?_
           refine Ev.neg (by decide) (Ev.pos h12 (Ev.here (within_some _ _ _) ?_))
           rw [wrap64_id (x := last + 1) (by omega) (by omega), decide_eq_false (by omega)]
           exact badj3
          ·
           rw [if_neg h12] at hq; cases hq
        | true =>
         rw [if_pos rfl]
         have gd := good hq
         unfold partB at hq
         by_cases h9 : (nd L p).f0 = 9
         ·
          rw [if_pos h9] at hq
          simp only [Bool.and_eq_true, decide_eq_true_eq] at hq
          refine Ev.pos h9 (Ev.pos hq.1 ?_)
          rw [show ((nd L next).f1 != 0) = false from by simpa using hq.2]
          refine Ev.step (fun k => by rw [impl_tree_measure.j2]) ?_
          exact Ev.neg (by decide) (Ev.neg (by omega) gd)
         ·
          rw [if_neg h9] at hq
          refine Ev.neg h9 ?_
          refine Ev.step (fun k => by rw [impl_tree_measure.j2]) ?_
          refine Ev.neg (by decide) ?_
          by_cases h12 : (nd L p).f0 = 12
          ·
           rw [if_pos h12] at hq
           have h13 := of_decide_eq_true hq
           have h14 := hlast h12
           refine Ev.pos h12 (Ev.here (within_some _ _ _) ?_)
           rw [wrap64_id (x := last + 1) (by omega) (by omega), decide_eq_true (show last + 1 ≤ (nd L next).f1 ∧ (nd L next).f1 ≤ 1000 by omega)]
           exact gd
          ·
           exact Ev.neg h12 gd
       ·
        rw [if_neg h6]
        exact Ev.pos (by omega) (Ev.now _)
      ·
       rw [if_neg h5]
       exact Ev.neg h5 (Ev.pos (by omega) (Ev.pos (by omega) (Ev.const (by simp [oN]))))
    refine Ev.step (fun k => by rw [impl_tree_measure.j0]) ?_
    refine Ev.neg (by decide) (Ev.pos (by omega) (Ev.pos (by omega) ?_))
    rw [wrap64_id (x := (p : Int) + 1) (by omega) (by omega), rd_nd]
    have := loop (L.length + 1 - p) (p + 1) 0 0 A (by omega) (by omega) (by omega) hA (fun _ => by omega)
    cases hm : (mLoop L (nd L p) (mF L d) (L.length + 1 - p) (p + 1) 0 0 A).1 with
    | none => rw [hm] at this; simpa [hm] using this
    | some x => rw [hm] at this; simpa [hm] using this
  ·
   rw [if_neg h1]
   exact Ev.pos (by omega) bad
def AllNoted (L : List S76) (A : List Int) : Prop := A.length = L.length ∧ ∀ q, q < L.length → ∃ (x : Nat) (e : Nat), A[q]? = some (x : Int) ∧ cF L e q = some x
def treeB (L : List S76) : Bool := decide (1 ≤ (L.length : Int) ∧ (L.length : Int) ≤ 1500) && (decide ((rd_T76 L 0).f0 = 12) && (decide ((rd_T76 L 0).f1 = 0) && decide (oN (cF L 12 0) = (L.length : Int))))
theorem treeB_len {L : List S76} (h : treeB L = true) : 1 ≤ L.length ∧ L.length ≤ 1500 := by
 unfold treeB at h
 simp only [Bool.and_eq_true, decide_eq_true_eq] at h
 omega
theorem treeB_cF {L : List S76} (h : treeB L = true) : cF L 12 0 = some L.length := by
 have hl := treeB_len h
 unfold treeB at h
 simp only [Bool.and_eq_true, decide_eq_true_eq] at h
 have h4 := h.2.2.2
 cases hx : cF L 12 0 with
 | none => rw [hx] at h4; have : (-1 : Int) = (L.length : Int) := h4; omega
 | some v => rw [hx] at h4; have : (v : Int) = (L.length : Int) := h4; rw [show v = L.length by omega]
def afterR (L : List S76) : List Int := (mF L 12 0 (List.replicate L.length 0)).2
theorem impl_treeOf_ev (L : List S76) : Ev (fun k => impl_treeOf.f k L) (if treeB L = true then (afterR L, true) else ([], false)) := by
 unfold impl_treeOf.f treeB
 refine Ev.here (within_some _ _ _) ?_
 by_cases h1 : 1 ≤ (L.length : Int) ∧ (L.length : Int) ≤ 1500
 ·
  rw [decide_eq_true h1]
  refine Ev.pos rfl ?_
  by_cases h2 : (rd_T76 L 0).f0 = 12
  ·
   rw [decide_eq_true h2]
   refine Ev.pos h2 ?_
   by_cases h3 : (rd_T76 L 0).f1 = 0
   ·
    rw [decide_eq_true h3]
    have := impl_measure_ev L (by omega) 12 0 (List.replicate L.length 0) (by omega) (by omega) (by simp)
    refine Ev.pos h3 (Ev.bind (by simpa using this) ?_)
    rw [mF_fst]
    by_cases h4 : oN (cF L 12 0) = (L.length : Int)
    ·
     rw [decide_eq_true h4]; exact Ev.pos h4 (Ev.now _)
    ·
     rw [decide_eq_false h4]; exact Ev.neg h4 (Ev.now _)
   ·
    rw [decide_eq_false h3]; exact Ev.neg h3 (Ev.now _)
  ·
   rw [decide_eq_false h2]; exact Ev.neg h2 (Ev.now _)
 ·
  rw [decide_eq_false h1]; exact Ev.neg (by decide) (Ev.now _)
theorem afterR_noted {L : List S76} (h : treeB L = true) : AllNoted L (afterR L) := by
 have hl := treeB_len h
 have hn := mF_noted L 12 0 (List.replicate L.length 0) L.length (by omega) (by simp) (treeB_cF h)
 exact ⟨by unfold afterR; rw [mF_len]; simp, fun q hq => hn.2 q (by omega) hq⟩
theorem bit_impl : ∀ n : Fin 256, Go.bits .or .i64 0 (shl .i64 (wrap64 (Go.bits .and .u8 (shr .u8 (n.val : Int) 0) 1)) 0) = ((n.val % 2 : Nat) : Int) := by decide +kernel
theorem idx0 : (wrap64 ((wrap64 ((wrap64 (8 * 0)) + (wrap64 (0 * 1)))) + 0) : Int) = 0 := by decide +kernel
theorem div0 : wrap64 (Int.tdiv 0 8) = 0 := by decide +kernel
theorem mod0 : Int.tmod 0 8 = 0 := by decide +kernel
theorem byte_fin {x : Int} (h0 : 0 ≤ x) (h1 : x ≤ 255) : ∃ n : Fin 256, x = (n.val : Int) := ⟨⟨x.toNat, by omega⟩, by simp; omega⟩
theorem impl_BitsRead1 (b : List Int) (hb : ∀ x ∈ b, 0 ≤ x ∧ x ≤ 255) (hl : b.length ≤ 1048576) : Ev (fun k => impl_BitsRead.f k b 0 1 1) (if 1 ≤ b.length then ([rd b 0 % 2], 1, true) else ([], 0, false)) := by
 unfold impl_BitsRead.f
 have hs := bitsSize_impl 1 (by omega)
 refine Ev.here hs (Ev.neg (by first | decide | (unfold wrap64; omega)) (Ev.here (within_some _ _ _) ?_))
 rw [decide_eq_true (by omega)]
 refine Ev.pos rfl ?_
 rw [wrap64_id (x := (b.length : Int) - 0) (by omega) (by omega)]
 by_cases h : 1 ≤ b.length
 ·
  rw [if_pos h]
  have hr := rd_byte b hb 0
  obtain ⟨n, hn⟩ := byte_fin hr.1 hr.2
  refine Ev.neg (by omega) (Ev.bind (a := [rd b 0 % 2]) ?_ (Ev.const (by simp [wrap64])))
  unfold impl_unpacked.f
  refine Ev.step (fun k => by rw [impl_unpacked.l0]) (Ev.pos (by decide) ?_)
  refine Ev.step (fun k => by rw [impl_unpacked.l1]) (Ev.pos (by decide) ?_)
  rw [idx0]
  refine Ev.here (a := wrap64 (Go.bits .and .u8 (shr .u8 (rd b 0) 0) 1)) ?_ (Ev.pos (by decide) ?_)
  ·
   unfold impl_BitAt.f
   rw [div0, mod0, if_neg (by omega), if_neg (by omega), if_pos (by omega), if_pos (by omega), if_pos (by omega)]
  rw [hn, bit_impl n]
  refine Ev.step (fun k => by rw [impl_unpacked.l1]) (Ev.neg (by first | decide | (unfold wrap64; omega)) (Ev.pos (by simp) ?_))
  refine Ev.step (fun k => by rw [impl_unpacked.l0]) (Ev.neg (by first | decide | (unfold wrap64; omega)) (Ev.const ?_))
  simp [wrap64]
 ·
  rw [if_neg h]
  exact Ev.pos (by omega) (Ev.now _)
def wdt (t : Int) : Nat := if t = 0 then 1 else if t = 1 then 4 else 8
def pr1 (t : Int) (b : List Int) : S30 := ⟨if t = 0 then rd b 0 % 2 else if t = 1 then wrap64 (wrap32 (wordV b 0 4)) else wordV b 0 8, ⟨#[]⟩⟩
def prR (t : Int) (b : List Int) : List S30 × Int × Bool := if wdt t ≤ b.length then ([pr1 t b], (wdt t : Int), true) else ([], 0, false)
theorem impl_PlainRead1 (t : Int) (ht : tOk t = true) (h6 : t ≠ 6) (b : List Int) (hb : ∀ x ∈ b, 0 ≤ x ∧ x ≤ 255) (hl : b.length ≤ 1048576) : Ev (fun k => impl_PlainRead.f k t b 0 1) (prR t b) := by
 unfold impl_PlainRead.f prR wdt pr1
 refine Ev.here (typeOk_some t) (Ev.pos ht (Ev.here (within_some _ _ _) ?_))
 rw [decide_eq_true (by omega)]
 refine Ev.pos rfl (Ev.here (within_some _ _ _) ?_)
 rw [decide_eq_true (by omega)]
 refine Ev.step (fun k => by rw [impl_PlainRead.j0]) (Ev.neg (by first | decide | (unfold wrap64; omega)) ?_)
 by_cases h0 : t = 0
 ·
  rw [if_pos h0, if_pos h0]
  refine Ev.pos h0 (Ev.bind (impl_BitsRead1 b hb hl) ?_)
  by_cases h : 1 ≤ b.length
  ·
   rw [if_pos h, if_pos h]
   refine Ev.bind (a := [(⟨rd b 0 % 2, ⟨#[]⟩⟩ : S30)]) ?_ (Ev.now _)
   unfold impl_valsOf.f
   refine Ev.step (fun k => by rw [impl_valsOf.l0]) (Ev.pos (by simp) (Ev.pos (by decide) (Ev.pos (by simp) (Ev.pos (by simp) ?_))))
   refine Ev.step (fun k => by rw [impl_valsOf.l0]) ?_
   exact Ev.neg (by first | decide | (unfold wrap64; omega) | simp [wrap64] | (simp; unfold wrap64; omega)) (Ev.const (by simp [wrap64, rd]))
  ·
   rw [if_neg h, if_neg h]
   refine Ev.bind (a := ([] : List S30)) ?_ (Ev.now _)
   unfold impl_valsOf.f
   refine Ev.step (fun k => by rw [impl_valsOf.l0]) ?_
   exact Ev.neg (by first | decide | (unfold wrap64; omega) | simp [wrap64] | (simp; unfold wrap64; omega)) (Ev.const (by simp [wrap64, rd]))
 rw [if_neg h0, if_neg h0]
 refine Ev.neg h0 (Ev.step (fun k => by rw [impl_PlainRead.l0]) (Ev.pos (by decide) ?_))
 unfold impl_plainOne.f
 by_cases h1 : t = 1
 ·
  subst h1
  rw [if_pos rfl, if_pos rfl]
  have hw := WordGet_impl b hl 0 (by omega) (by omega) 4 (by omega) (by omega)
  by_cases h : 4 ≤ b.length
  ·
   rw [if_pos ⟨by omega, by omega⟩] at hw
   rw [if_pos h]
   refine Ev.bind (a := (wrap64 (wrap32 (wordV b 0 4)), (⟨#[]⟩ : ByteArray), (4 : Int), true)) (Ev.neg (by first | decide | (unfold wrap64; omega)) (Ev.here (a := 4) rfl (Ev.bind hw (Ev.here (a := 4) rfl (Ev.here (a := wrap64 (wrap32 (wordV b 0 4))) rfl (Ev.now _)))))) (Ev.pos rfl (Ev.pos (by simp) ?_))
   refine Ev.step (fun k => by rw [impl_PlainRead.l0]) ?_
   exact Ev.neg (by first | decide | (unfold wrap64; omega) | simp [wrap64] | (simp; unfold wrap64; omega)) (Ev.const (by simp [wrap64, rd]))
  ·
   rw [if_neg (by omega)] at hw
   rw [if_neg h]
   exact Ev.bind (a := (wrap64 (wrap32 0), (⟨#[]⟩ : ByteArray), 0, false)) (Ev.neg (by first | decide | (unfold wrap64; omega)) (Ev.here (a := 4) rfl (Ev.bind hw (Ev.here (a := 4) rfl (Ev.here (a := wrap64 (wrap32 0)) rfl (Ev.now _)))))) (Ev.neg (by first | decide | (unfold wrap64; omega)) (Ev.now _))
 ·
  rw [if_neg h1, if_neg h1]
  have hwide : impl_wideOf.f t = some 8 := by
   have ht' : t = 0 ∨ t = 1 ∨ t = 2 ∨ t = 5 ∨ t = 6 := of_decide_eq_true ht
   unfold impl_wideOf.f
   rw [if_neg h1]
   by_cases h2 : t = 2
   ·
    rw [if_pos h2]
   ·
    rw [if_neg h2, if_pos (by omega)]
  have hsig : ∀ x : Int, impl_signed.f x 8 = some x := fun x => by unfold impl_signed.f; rw [if_neg (by decide)]
  have hw := WordGet_impl b hl 0 (by omega) (by omega) 8 (by omega) (by omega)
  by_cases h : 8 ≤ b.length
  ·
   rw [if_pos ⟨by omega, by omega⟩] at hw
   rw [if_pos h]
   refine Ev.bind (a := (wordV b 0 8, (⟨#[]⟩ : ByteArray), (8 : Int), true)) (Ev.neg h6 (Ev.here hwide (Ev.bind hw (Ev.here hwide (Ev.here (hsig _) (Ev.now _)))))) (Ev.pos rfl (Ev.pos (by simp) ?_))
   refine Ev.step (fun k => by rw [impl_PlainRead.l0]) ?_
   exact Ev.neg (by first | decide | (unfold wrap64; omega) | simp [wrap64] | (simp; unfold wrap64; omega)) (Ev.const (by simp [wrap64, rd]))
  ·
   rw [if_neg (by omega)] at hw
   rw [if_neg h]
   exact Ev.bind (a := (0, (⟨#[]⟩ : ByteArray), 0, false)) (Ev.neg h6 (Ev.here hwide (Ev.bind hw (Ev.here hwide (Ev.here (hsig _) (Ev.now _)))))) (Ev.neg (by first | decide | (unfold wrap64; omega)) (Ev.now _))
theorem strBytes (l : List Int) (h : ∀ x ∈ l, 0 ≤ x ∧ x ≤ 255) : bytesOf (strOfNums l) = l := by
 unfold bytesOf
 rw [strOfNums_data, List.map_map]
 have e : ∀ x ∈ l, ((fun b : UInt8 => (b.toNat : Int)) ∘ fun n : Int => UInt8.ofNat n.toNat) x = x := fun x hx => by
  have := h x hx
  show ((UInt8.ofNat x.toNat).toNat : Int) = x
  rw [UInt8.toNat_ofNat']
  omega
 rw [List.map_congr_left e, List.map_id']
theorem wbytes_range (x : Int) (n : Nat) : ∀ y ∈ wbytes x n, 0 ≤ y ∧ y ≤ 255 := by
 intro y hy
 obtain ⟨k, _, rfl⟩ := List.mem_map.1 hy
 omega
theorem rd_wbytes (x : Int) (n k : Nat) (hk : k < n) (hn : n ≤ 8) : rd (wbytes x n) (k : Int) = (x / 2 ^ (8 * k)) % 256 := by
 unfold rd wbytes
 rw [Int.toNat_natCast, List.getD_eq_getElem?_getD, List.getElem?_map, List.getElem?_range hk]
 show shr .i64 x (8 * (k : Int)) % 256 = _
 unfold shr
 have e : min ((8 * (k : Int))).toNat IntKind.i64.bits = 8 * k := by
  have : IntKind.i64.bits = 64 := rfl
  omega
 rw [e]
theorem wordV_back (x : Int) (m : Nat) (hm : m ≤ 8) : ∀ n : Nat, n ≤ m → wordV (wbytes x m) 0 n = wrap64 (x % 2 ^ (8 * n)) := by
 intro n
 induction n with
 | zero => intro _; simp [wordV, wrap64]
 | succ n ih =>
  intro hn
  have e : wordV (wbytes x m) 0 (n + 1) = gstep (wbytes x m) 0 n (wordV (wbytes x m) 0 n) := by unfold wordV; rw [List.range_succ, List.foldl_append]; rfl
  rw [e, ih (by omega)]
  unfold gstep
  have w : wrap64 (8 * (n : Int)) = ((8 * n : Nat) : Int) := by rw [wrap64_id (by omega) (by omega)]; push_cast; rfl
  rw [show wrap64 (0 + (n : Int)) = (n : Int) from by rw [wrap64_id (by omega) (by omega)]; omega, rd_wbytes x m n (by omega) hm, w]
  have hp : (0 : Int) < 2 ^ (8 * n) := Int.pow_pos (by omega)
  have h1 := Int.emod_nonneg x (show (2 : Int) ^ (8 * n) ≠ 0 by omega)
  have h2 := Int.emod_lt_of_pos x hp
  have h3 : (2 : Int) ^ (8 * n) = ((2 ^ (8 * n) : Nat) : Int) := by push_cast; rfl
  have h4 : (2 : Int) ^ (8 * (n + 1)) = 2 ^ (8 * n) * 256 := by rw [Nat.mul_add, Int.pow_add]; rfl
  rw [h4, emod_digit x _ hp]
  obtain ⟨A, hA⟩ := Int.eq_ofNat_of_zero_le h1
  obtain ⟨D, hD⟩ := Int.eq_ofNat_of_zero_le (Int.emod_nonneg (x / 2 ^ (8 * n)) (show (256 : Int) ≠ 0 by omega))
  have hd := Int.emod_lt_of_pos (x / 2 ^ (8 * n)) (show (0 : Int) < 256 by omega)
  have h5 : A < 2 ^ (8 * n) := by have h := h2; rw [hA, h3] at h; exact Int.ofNat_lt.mp h
  rw [hD] at hd
  rw [hA, hD]
  rw [wrap64_id (x := (D : Int)) (by omega) (by omega), shl_i64_nat D (8 * n) (by omega)]
  have h6 : (2 : Nat) ^ (8 * n) ≤ 2 ^ 56 := Nat.pow_le_pow_right (by omega) (by omega)
  have h7 : D * 2 ^ (8 * n) ≤ 255 * 2 ^ (8 * n) := Nat.mul_le_mul_right _ (by omega)
  rw [or_wrap A (D * 2 ^ (8 * n)) (by omega) (by omega), or_digit (8 * n) A D h5]
  rw [h3]
  push_cast
  rfl
theorem word8_back (x : Int) (hx : I64 x) : wordV (wbytes x 8) 0 8 = x := by
 rw [wordV_back x 8 (by omega) 8 (by omega)]
 unfold I64 at hx
 unfold wrap64
 omega
theorem word4_back (x : Int) (h0 : -2147483648 ≤ x) (h1 : x ≤ 2147483647) : wrap64 (wrap32 (wordV (wbytes x 4) 0 4)) = x := by
 rw [wordV_back x 4 (by omega) 4 (by omega)]
 unfold wrap64 wrap32
 omega
theorem noText_eq {s : ByteArray} (h : noText s = true) : s = (⟨#[]⟩ : ByteArray) := by
 unfold noText at h
 refine ba_inj ?_
 rw [show ((⟨#[]⟩ : ByteArray)).toList = [] from by rw [ByteArray.toList_eq]]
 simpa using h
theorem pr1_back (t : Int) (ht : tOk t = true) (h6 : t ≠ 6) (v : S30) (hv : vOk t v = true) (hi : I64 v.f0) : (plainR t [v]).1.length = wdt t ∧ (∀ y ∈ (plainR t [v]).1, 0 ≤ y ∧ y ≤ 255) ∧ pr1 t (plainR t [v]).1 = v := by
 have ht' : t = 0 ∨ t = 1 ∨ t = 2 ∨ t = 5 ∨ t = 6 := of_decide_eq_true ht
 have hs : vsOk t [v] = true := by unfold vsOk; rw [ht]; simp [hv]
 obtain ⟨x, s⟩ := v
 unfold plainR
 rw [if_pos hs]
 unfold vOk at hv
 unfold wdt pr1
 by_cases h0 : t = 0
 ·
  rw [if_pos h0] at hv
  rw [if_pos h0, if_pos h0, if_pos h0]
  simp only [Bool.and_eq_true, decide_eq_true_eq] at hv
  rw [noText_eq hv.2]
  rcases (show x = 0 ∨ x = 1 by omega) with rfl | rfl <;> exact ⟨by decide +kernel, (bitsR_ok _ 1).2, congrArg (fun z : Int => (⟨z, _⟩ : S30)) (by decide +kernel)⟩
 rw [if_neg h0] at hv
 rw [if_neg h0, if_neg h0, if_neg h0]
 have ef : ([(⟨x, s⟩ : S30)].flatMap (pbytes t)) = wbytes x (wideB t).toNat := by
  rw [List.flatMap_cons, List.flatMap_nil, List.append_nil]
  unfold pbytes
  rw [if_neg h6]
 show (([(⟨x, s⟩ : S30)].flatMap (pbytes t))).length = _ ∧ (∀ y ∈ ([(⟨x, s⟩ : S30)].flatMap (pbytes t)), _) ∧ (⟨_, _⟩ : S30) = _
 rw [ef, wbytes_length]
 by_cases h1 : t = 1
 ·
  rw [if_pos h1] at hv
  simp only [Bool.and_eq_true, decide_eq_true_eq] at hv
  rw [if_pos h1, if_pos h1, noText_eq hv.2, show (wideB t).toNat = 4 from by rw [h1]; rfl]
  exact ⟨rfl, wbytes_range x 4, by rw [word4_back x hv.1.1 hv.1.2]⟩
 ·
  rw [if_neg h1, if_pos (by omega)] at hv
  have es : s = (⟨#[]⟩ : ByteArray) := noText_eq hv
  subst es
  rw [if_neg h1, if_neg h1, show (wideB t).toNat = 8 from by unfold wideB; rw [if_neg h1]; by_cases h2 : t = 2; (rw [if_pos h2]; rfl); (rw [if_neg h2, if_pos (by omega)]; rfl)]
  exact ⟨rfl, wbytes_range x 8, by rw [word8_back x hi]⟩
theorem valueOf_back (t : Int) (ht : tOk t = true) (v : S30) (hv : vOk t v = true) (hi : I64 v.f0) : Ev (fun k => impl_valueOf.f k t (textR t v)) (v.f0, v.f1, true) := by
 unfold impl_valueOf.f
 by_cases h6 : t = 6
 ·
  have e : textR t v = v.f1 := if_pos h6
  have hz : v.f0 = 0 := by
   unfold vOk at hv
   rw [h6] at hv
   simp at hv
   exact hv.1
  have h := impl_ValOk_some t (⟨0, v.f1⟩ : S30)
  rw [show (⟨0, v.f1⟩ : S30) = v from by rw [← hz], hv] at h
  rw [e, hz]
  rw [hz] at h
  exact Ev.pos h6 (Ev.here h (Ev.now _))
 ·
  obtain ⟨q1, q2, q3⟩ := pr1_back t ht h6 v hv hi
  have e : textR t v = strOfNums (plainR t [v]).1 := if_neg h6
  have hw : wdt t ≤ 8 := by unfold wdt; split; omega; split <;> omega
  have hp := impl_PlainRead1 t ht h6 (plainR t [v]).1 q2 (by omega)
  unfold prR at hp
  rw [if_pos (by omega), q3] at hp
  have hx := impl_statText_ev t v
  rw [e] at hx ⊢
  refine Ev.neg h6 (Ev.pos (by rw [strOfNums_size]; omega) ?_)
  rw [strBytes _ q2]
  refine Ev.bind hp (Ev.pos rfl (Ev.pos (by rw [strOfNums_size, q1]) (Ev.pos (by simp) ?_)))
  exact Ev.bind hx (Ev.pos rfl (Ev.now _))
theorem leaf_cF (L : List S76) (p d : Nat) (hp : p < L.length) (h1 : plainB (nd L p) = true) (h2 : (nd L p).f4 = 0) : cF L (d + 1) p = some (p + 1) := by
 unfold cF
 rw [if_pos hp, if_pos h1, show L.length + 1 - p = (L.length - p) + 1 from by omega]
 unfold cLoop
 rw [if_neg (by rw [h2]; omega)]
theorem leaf_after {L : List S76} {A : List Int} (hA : AllNoted L A) (p : Nat) (hp : p < L.length) (h1 : plainB (nd L p) = true) (h2 : (nd L p).f4 = 0) : rd A (p : Int) = ((p + 1 : Nat) : Int) := by
 obtain ⟨x, e, hx, hc⟩ := hA.2 p hp
 have := cF_det L hc (leaf_cF L p 0 hp h1 h2)
 unfold rd
 rw [Int.toNat_natCast, List.getD_eq_getElem?_getD, hx, this]
 rfl
theorem find_hit (L : List S76) (A : List Int) (id m : Int) (p i : Nat) (hp : p < L.length) (hi : (i : Int) < m) (h : (nd L p).f1 = id) : Ev (fun k => impl_tree_find.l0 k id (p : Int) m (i : Int) L A) (p : Int) := by
 refine Ev.step (fun k => by rw [impl_tree_find.l0]) ?_
 rw [rd_nd]
 exact Ev.pos hi (Ev.pos (by omega) (Ev.pos (by omega) (Ev.pos h (Ev.now _))))
theorem find_skip (L : List S76) (A : List Int) (hA : AllNoted L A) (id m : Int) (p i : Nat) (r : Int) (hp : p < L.length) (hi : (i : Int) < m) (hm : m ≤ 1000) (h : ¬ (nd L p).f1 = id) (h1 : plainB (nd L p) = true) (h2 : (nd L p).f4 = 0) (hr : Ev (fun k => impl_tree_find.l0 k id ((p + 1 : Nat) : Int) m ((i + 1 : Nat) : Int) L A) r) : Ev (fun k => impl_tree_find.l0 k id (p : Int) m (i : Int) L A) r := by
 refine Ev.step (fun k => by rw [impl_tree_find.l0]) ?_
 rw [rd_nd, leaf_after hA p hp h1 h2, show wrap64 ((i : Int) + 1) = ((i + 1 : Nat) : Int) from by rw [wrap64_id (by omega) (by omega)]; push_cast; rfl]
 exact Ev.pos hi (Ev.pos (by omega) (Ev.pos (by omega) (Ev.neg h (Ev.pos (by rw [hA.1]; omega) hr))))
theorem find_end (L : List S76) (A : List Int) (id m : Int) (p i : Nat) (hi : ¬ (i : Int) < m) : Ev (fun k => impl_tree_find.l0 k id (p : Int) m (i : Int) L A) (-1) := by
 refine Ev.step (fun k => by rw [impl_tree_find.l0]) ?_
 exact Ev.neg hi (Ev.now _)
theorem find_root (L : List S76) (A : List Int) (id r : Int) (hl : 1 ≤ L.length) (hl2 : L.length ≤ 1500) (h12 : (nd L 0).f0 = 12) (hr : Ev (fun k => impl_tree_find.l0 k id ((1 : Nat) : Int) (nd L 0).f4 ((0 : Nat) : Int) L A) r) : Ev (fun k => impl_tree_find.f k L A 0 id) r := by
 unfold impl_tree_find.f
 have e0 : rd_T76 L 0 = nd L 0 := rfl
 refine Ev.here (within_some _ _ _) ?_
 rw [decide_eq_true (show (0 : Int) ≤ 0 ∧ (0 : Int) ≤ wrap64 ((L.length : Int) - 1) by rw [wrap64_id (by omega) (by omega)]; omega)]
 refine Ev.pos rfl (Ev.pos (by omega) (Ev.pos (by omega) ?_))
 rw [e0, show ((nd L 0).f0 != 12) = false from bne_eq_false_iff_eq.mpr h12]
 refine Ev.step (fun k => by rw [impl_tree_find.j0]) ?_
 rw [e0, show wrap64 ((0 : Int) + 1) = ((1 : Nat) : Int) from by rw [wrap64_id (by omega) (by omega)]; rfl]
 exact Ev.neg Bool.false_ne_true (Ev.pos (by omega) (Ev.pos (by omega) hr))
theorem textR_le (t : Int) (ht : tOk t = true) (v : S30) (hv : vOk t v = true) (hi : I64 v.f0) : ((textR t v).size : Int) ≤ 300 := by
 unfold textR
 by_cases h6 : t = 6
 ·
  rw [if_pos h6]
  unfold vOk at hv
  rw [h6] at hv
  simp at hv
  omega
 ·
  rw [if_neg h6, strOfNums_size, (pr1_back t ht h6 v hv hi).1]
  unfold wdt; split; omega; split <;> omega
theorem noT_nil : noT (⟨#[]⟩ : ByteArray) = true := by unfold noT; rw [ByteArray.toList_eq]; rfl
theorem nodes_three (a n : Int) (lo hi : S30) (h1 : ((textR a hi).size : Int) ≤ 300) (h2 : ((textR a lo).size : Int) ≤ 300) : treeB (nodesR 0 a n true lo hi) = true ∧ (∀ p : Nat, 1 ≤ p → p ≤ 3 → plainB (nd (nodesR 0 a n true lo hi) p) = true ∧ (nd (nodesR 0 a n true lo hi) p).f4 = 0) := by
 obtain ⟨L, hL⟩ : ∃ L, L = nodesR 0 a n true lo hi := ⟨_, rfl⟩
 have e : L = [⟨12, 0, 0, (⟨#[]⟩ : ByteArray), 3⟩, ⟨6, 3, n, (⟨#[]⟩ : ByteArray), 0⟩, ⟨8, 5, 0, textR a hi, 0⟩, ⟨8, 6, 0, textR a lo, 0⟩] := by rw [hL]; unfold nodesR; rw [if_pos rfl]
 rw [← hL]
 have n0 : nd L 0 = ⟨12, 0, 0, (⟨#[]⟩ : ByteArray), 3⟩ := by rw [e]; rfl
 have n1 : nd L 1 = ⟨6, 3, n, (⟨#[]⟩ : ByteArray), 0⟩ := by rw [e]; rfl
 have n2 : nd L 2 = ⟨8, 5, 0, textR a hi, 0⟩ := by rw [e]; rfl
 have n3 : nd L 3 = ⟨8, 6, 0, textR a lo, 0⟩ := by rw [e]; rfl
 have hl : L.length = 4 := by rw [e]; rfl
 have hp : ∀ p : Nat, 1 ≤ p → p ≤ 3 → plainB (nd L p) = true ∧ (nd L p).f4 = 0 := by
  intro p q1 q2
  rcases (show p = 1 ∨ p = 2 ∨ p = 3 by omega) with rfl | rfl | rfl
  ·
   rw [n1]; exact ⟨by unfold plainB; simp [noT_nil], rfl⟩
  ·
   rw [n2]; exact ⟨by unfold plainB; simp; omega, rfl⟩
  ·
   rw [n3]; exact ⟨by unfold plainB; simp; omega, rfl⟩
 refine ⟨?_, hp⟩
 have l1 := leaf_cF L 1 10 (by omega) (hp 1 (by omega) (by omega)).1 (hp 1 (by omega) (by omega)).2
 have l2 := leaf_cF L 2 10 (by omega) (hp 2 (by omega) (by omega)).1 (hp 2 (by omega) (by omega)).2
 have l3 := leaf_cF L 3 10 (by omega) (hp 3 (by omega) (by omega)).1 (hp 3 (by omega) (by omega)).2
 have hc : cF L 12 0 = some 4 := by
  unfold cF
  rw [if_pos (by omega), if_pos (by rw [n0]; unfold plainB; simp [noT_nil]), show L.length + 1 - 0 = 5 from by omega]
  simp [cLoop, n0, n1, n2, n3, l1, l2, l3, hl, partB]
 unfold treeB
 rw [hc, show rd_T76 L 0 = nd L 0 from rfl, n0, hl]
 rfl
theorem nodes_one (a n : Int) (lo hi : S30) : treeB (nodesR 0 a n false lo hi) = true ∧ plainB (nd (nodesR 0 a n false lo hi) 1) = true ∧ (nd (nodesR 0 a n false lo hi) 1).f4 = 0 := by
 obtain ⟨L, hL⟩ : ∃ L, L = nodesR 0 a n false lo hi := ⟨_, rfl⟩
 have e : L = [⟨12, 0, 0, (⟨#[]⟩ : ByteArray), 1⟩, ⟨6, 3, n, (⟨#[]⟩ : ByteArray), 0⟩] := by rw [hL]; unfold nodesR; rw [if_neg Bool.false_ne_true]
 rw [← hL]
 have n0 : nd L 0 = ⟨12, 0, 0, (⟨#[]⟩ : ByteArray), 1⟩ := by rw [e]; rfl
 have n1 : nd L 1 = ⟨6, 3, n, (⟨#[]⟩ : ByteArray), 0⟩ := by rw [e]; rfl
 have hl : L.length = 2 := by rw [e]; rfl
 have hp : plainB (nd L 1) = true ∧ (nd L 1).f4 = 0 := by rw [n1]; exact ⟨by unfold plainB; simp [noT_nil], rfl⟩
 refine ⟨?_, hp⟩
 have l1 := leaf_cF L 1 10 (by omega) hp.1 hp.2
 have hc : cF L 12 0 = some 2 := by
  unfold cF
  rw [if_pos (by omega), if_pos (by rw [n0]; unfold plainB; simp [noT_nil]), show L.length + 1 - 0 = 3 from by omega]
  simp [cLoop, n0, n1, l1, hl, partB]
 unfold treeB
 rw [hc, show rd_T76 L 0 = nd L 0 from rfl, n0, hl]
 rfl
theorem statsFrom_back (a b c n : Int) (h : Bool) (lo hi : S30) (hok : stOk a b c n h lo hi = true) (il : I64 lo.f0) (ih : I64 hi.f0) : Ev (fun k => impl_StatsFrom.f k a b c (nodesR 0 a n h lo hi) 0) (n, h, lo.f0, lo.f1, hi.f0, hi.f1, true) := by
 have hok' := hok
 unfold stOk at hok'
 simp only [Bool.and_eq_true, decide_eq_true_eq] at hok'
 obtain ⟨q1, q2, q3⟩ := hok'
 have ht : tOk a = true := by unfold lOk at q1; rw [Bool.and_eq_true] at q1; exact q1.1
 have hlf := impl_LeafOk_some a b c
 rw [q1] at hlf
 unfold impl_StatsFrom.f
 cases h with
 | true =>
  rw [if_pos rfl] at q3
  simp only [Bool.and_eq_true] at q3
  have t1 := textR_le a ht hi q3.2.1 ih
  have t2 := textR_le a ht lo q3.1 il
  obtain ⟨hb, hp⟩ := nodes_three a n lo hi t1 t2
  have ho := impl_treeOf_ev (nodesR 0 a n true lo hi)
  rw [if_pos hb] at ho
  have hA := afterR_noted hb
  generalize afterR (nodesR 0 a n true lo hi) = A at ho hA
  obtain ⟨L, hL⟩ : ∃ L, L = nodesR 0 a n true lo hi := ⟨_, rfl⟩
  have e : L = [⟨12, 0, 0, (⟨#[]⟩ : ByteArray), 3⟩, ⟨6, 3, n, (⟨#[]⟩ : ByteArray), 0⟩, ⟨8, 5, 0, textR a hi, 0⟩, ⟨8, 6, 0, textR a lo, 0⟩] := by rw [hL]; unfold nodesR; rw [if_pos rfl]
  rw [← hL] at ho hA hp ⊢
  have n0 : nd L 0 = ⟨12, 0, 0, (⟨#[]⟩ : ByteArray), 3⟩ := by rw [e]; rfl
  have n1 : nd L 1 = ⟨6, 3, n, (⟨#[]⟩ : ByteArray), 0⟩ := by rw [e]; rfl
  have n2 : nd L 2 = ⟨8, 5, 0, textR a hi, 0⟩ := by rw [e]; rfl
  have n3 : nd L 3 = ⟨8, 6, 0, textR a lo, 0⟩ := by rw [e]; rfl
  have hl : L.length = 4 := by rw [e]; rfl
  have p1 := hp 1 (by omega) (by omega)
  have p2 := hp 2 (by omega) (by omega)
  have f3 : Ev (fun k => impl_tree_find.f k L A 0 3) 1 := find_root L A 3 1 (by omega) (by omega) (by rw [n0]) (by rw [n0]; exact find_hit L A 3 3 1 0 (by omega) (by omega) (by rw [n1]))
  have f5 : Ev (fun k => impl_tree_find.f k L A 0 5) 2 := find_root L A 5 2 (by omega) (by omega) (by rw [n0]) (by rw [n0]; exact find_skip L A hA 5 3 1 0 2 (by omega) (by omega) (by omega) (by rw [n1]; show ¬ (3 : Int) = _; decide) p1.1 p1.2 (find_hit L A 5 3 2 1 (by omega) (by omega) (by rw [n2])))
  have f6 : Ev (fun k => impl_tree_find.f k L A 0 6) 3 := find_root L A 6 3 (by omega) (by omega) (by rw [n0]) (by rw [n0]; exact find_skip L A hA 6 3 1 0 3 (by omega) (by omega) (by omega) (by rw [n1]; show ¬ (3 : Int) = _; decide) p1.1 p1.2 (find_skip L A hA 6 3 2 1 3 (by omega) (by omega) (by omega) (by rw [n2]; show ¬ (5 : Int) = _; decide) p2.1 p2.2 (find_hit L A 6 3 3 2 (by omega) (by omega) (by rw [n3]))))
  have g1 : rd_T76 L 1 = ⟨6, 3, n, (⟨#[]⟩ : ByteArray), 0⟩ := n1
  have g2 : rd_T76 L 2 = ⟨8, 5, 0, textR a hi, 0⟩ := n2
  have g3 : rd_T76 L 3 = ⟨8, 6, 0, textR a lo, 0⟩ := n3
  have hn : Ev (fun k => impl_tree_num.f k L A 0 3) (n, true) := by
   unfold impl_tree_num.f
   refine Ev.bind f3 ?_
   rw [g1]
   exact Ev.neg (by decide) (Ev.pos (by decide) (Ev.pos (by omega) (Ev.neg (show ¬ (6 : Int) = 5 by decide) (Ev.pos rfl (Ev.now _)))))
  have hq5 : Ev (fun k => impl_tree_part.f k L A 0 5 8) (8, 5, 0, textR a hi, 0, true) := by
   unfold impl_tree_part.f
   refine Ev.bind f5 ?_
   rw [g2]
   exact Ev.neg (by decide) (Ev.pos (by decide) (Ev.pos (by omega) (Ev.pos rfl (Ev.now _))))
  have hq6 : Ev (fun k => impl_tree_part.f k L A 0 6 8) (8, 6, 0, textR a lo, 0, true) := by
   unfold impl_tree_part.f
   refine Ev.bind f6 ?_
   rw [g3]
   exact Ev.neg (by decide) (Ev.pos (by decide) (Ev.pos (by omega) (Ev.pos rfl (Ev.now _))))
  have vh := valueOf_back a ht hi q3.2.1 ih
  have vl := valueOf_back a ht lo q3.1 il
  have hs := impl_statsOk_ev a b c n true lo hi
  rw [hok] at hs
  refine Ev.bind ho (Ev.pos rfl (Ev.bind (a := (n, true, lo.f0, lo.f1, hi.f0, hi.f1, true)) ?_ (Ev.now _)))
  unfold impl_tree_stats.f
  refine Ev.bind hn (Ev.pos rfl (Ev.here hlf ?_))
  refine Ev.step (fun k => by rw [impl_tree_stats.j0]) ?_
  refine Ev.neg (by decide) (Ev.bind f5 (Ev.pos (by decide) ?_))
  refine Ev.step (fun k => by rw [impl_tree_stats.j1]) ?_
  refine Ev.pos rfl (Ev.bind hq5 (Ev.bind hq6 (Ev.bind vh (Ev.bind vl (Ev.pos rfl (Ev.pos rfl (Ev.pos rfl ?_)))))))
  refine Ev.step (fun k => by rw [impl_tree_stats.j2]) ?_
  exact Ev.neg (show ¬ (!true) = true by decide) (Ev.bind hs (Ev.pos rfl (Ev.now _)))
 | false =>
  rw [if_neg Bool.false_ne_true] at q3
  simp only [Bool.and_eq_true, beq_iff_eq] at q3
  obtain ⟨⟨z1, z2⟩, z3, z4⟩ := q3
  obtain ⟨hb, hp⟩ := nodes_one a n lo hi
  have ho := impl_treeOf_ev (nodesR 0 a n false lo hi)
  rw [if_pos hb] at ho
  have hA := afterR_noted hb
  generalize afterR (nodesR 0 a n false lo hi) = A at ho hA
  obtain ⟨L, hL⟩ : ∃ L, L = nodesR 0 a n false lo hi := ⟨_, rfl⟩
  have e : L = [⟨12, 0, 0, (⟨#[]⟩ : ByteArray), 1⟩, ⟨6, 3, n, (⟨#[]⟩ : ByteArray), 0⟩] := by rw [hL]; unfold nodesR; rw [if_neg Bool.false_ne_true]
  rw [← hL] at ho hA hp ⊢
  have n0 : nd L 0 = ⟨12, 0, 0, (⟨#[]⟩ : ByteArray), 1⟩ := by rw [e]; rfl
  have n1 : nd L 1 = ⟨6, 3, n, (⟨#[]⟩ : ByteArray), 0⟩ := by rw [e]; rfl
  have hl : L.length = 2 := by rw [e]; rfl
  have f3 : Ev (fun k => impl_tree_find.f k L A 0 3) 1 := find_root L A 3 1 (by omega) (by omega) (by rw [n0]) (by rw [n0]; exact find_hit L A 3 1 1 0 (by omega) (by omega) (by rw [n1]))
  have f5 : Ev (fun k => impl_tree_find.f k L A 0 5) (-1) := find_root L A 5 (-1) (by omega) (by omega) (by rw [n0]) (by rw [n0]; exact find_skip L A hA 5 1 1 0 (-1) (by omega) (by omega) (by omega) (by rw [n1]; show ¬ (3 : Int) = _; decide) hp.1 hp.2 (find_end L A 5 1 2 1 (by omega)))
  have f6 : Ev (fun k => impl_tree_find.f k L A 0 6) (-1) := find_root L A 6 (-1) (by omega) (by omega) (by rw [n0]) (by rw [n0]; exact find_skip L A hA 6 1 1 0 (-1) (by omega) (by omega) (by omega) (by rw [n1]; show ¬ (3 : Int) = _; decide) hp.1 hp.2 (find_end L A 6 1 2 1 (by omega)))
  have g1 : rd_T76 L 1 = ⟨6, 3, n, (⟨#[]⟩ : ByteArray), 0⟩ := n1
  have hn : Ev (fun k => impl_tree_num.f k L A 0 3) (n, true) := by
   unfold impl_tree_num.f
   refine Ev.bind f3 ?_
   rw [g1]
   exact Ev.neg (by decide) (Ev.pos (by decide) (Ev.pos (by omega) (Ev.neg (show ¬ (6 : Int) = 5 by decide) (Ev.pos rfl (Ev.now _)))))
  have hs := impl_statsOk_ev a b c n false lo hi
  rw [hok] at hs
  rw [z1, z3, noText_eq z2, noText_eq z4] at hs ⊢
  refine Ev.bind ho (Ev.pos rfl (Ev.bind (a := (n, false, 0, (⟨#[]⟩ : ByteArray), 0, (⟨#[]⟩ : ByteArray), true)) ?_ (Ev.now _)))
  unfold impl_tree_stats.f
  refine Ev.bind hn (Ev.pos rfl (Ev.here hlf ?_))
  refine Ev.step (fun k => by rw [impl_tree_stats.j0]) ?_
  refine Ev.neg (by decide) (Ev.bind f5 (Ev.neg (by decide) (Ev.bind f6 ?_)))
  refine Ev.step (fun k => by rw [impl_tree_stats.j1]) ?_
  exact Ev.neg (by decide) (Ev.bind hs (Ev.pos rfl (Ev.now _)))
theorem FnStats : ∀ (x0 : List (Int)), (x0.length ≤ maxLen ∧ ∀ y ∈ x0, (Lit.int .u8 y).wf = true) → ∃ k, laws_FnStats.f k x0 = some true := by
 intro l hx
 refine Ev.rounds ?_
 unfold laws_FnStats.f
 by_cases hb : (l.length : Int) > 1048576
 ·
  exact Ev.here (a := true) (by unfold laws_big.f; simp [hb]) (Ev.pos rfl (Ev.now _))
 refine Ev.here (a := false) (by unfold laws_big.f; simp [hb]) (Ev.neg (by decide) ?_)
 obtain ⟨a, b, c, list, e, hl, hF⟩ := drawStatsOf_ev l (by omega)
 have ei := impl_StatsOf_ev a b c list (by omega)
 have es := spec_StatsOf_ev a b c list (by omega)
 refine Ev.bind e (Ev.bind ei (Ev.bind es ?_))
 unfold statsR
 by_cases hok : (lOk a b c && tripsOk a b c list) = true
 ·
  rw [if_pos hok]
  rw [Bool.and_eq_true] at hok
  have hs := StInv.all a c list (by omega) list.length (Nat.le_refl _)
  generalize (List.range list.length).foldl (fun s (i : Nat) => sStep a c s (rd_T36 list (i : Int))) s0 = s at hs
  unfold sOut
  refine Ev.neg (by simp) ?_
  refine Ev.step (fun k => by rw [laws_FnStats.j0]) ?_
  refine Ev.neg (by simp) (Ev.pos rfl ?_)
  have hle : ∀ j : Nat, j < list.length → (rd_T36 list (j : Int)).f1 ≤ c := fun j hj => (tripsOk_at hok.2 j hj).1
  have hgood : stOk a b c s.n s.h s.lo s.hi = true := stats_good hok.1 hok.2 hs hl
  have hmem : ∀ j : Nat, j < list.length → I64 (rd_T36 list (j : Int)).f2.f0 := fun j hj => by
   have e : rd_T36 list (j : Int) = list[j] := getD_eq hj
   rw [e]
   exact hF _ (List.getElem_mem hj)
  have hz : I64 0 := by unfold I64; omega
  have il : I64 s.lo.f0 := by
   cases hh : s.h with
   | false => rw [(hs.zz hh).1]; exact hz
   | true =>
    obtain ⟨j, j1, -, j3⟩ := hs.ml hh
    rw [← j3]; exact hmem j j1
  have ih : I64 s.hi.f0 := by
   cases hh : s.h with
   | false => rw [(hs.zz hh).2]; exact hz
   | true =>
    obtain ⟨j, j1, -, j3⟩ := hs.mh hh
    rw [← j3]; exact hmem j j1
  have hhas : s.h = decide (s.n < (list.length : Int)) := by
   rw [hs.nn, List.take_length]
   have key : ((list.filter fun t : S36 => decide (¬ t.f1 = c)).length < list.length) ↔ s.h = true := by
    rw [hs.hh, List.length_filter_lt_length_iff_exists]
    constructor
    ·
     rintro ⟨t, ht, hn⟩
     obtain ⟨j, hj, rfl⟩ := List.mem_iff_getElem.1 ht
     refine ⟨j, hj, ?_⟩
     have e : rd_T36 list (j : Int) = list[j] := getD_eq hj
     rw [e]
     simpa using hn
    ·
     rintro ⟨j, hj, hc⟩
     have e : rd_T36 list (j : Int) = list[j] := getD_eq hj
     rw [e] at hc
     exact ⟨list[j], List.getElem_mem hj, by simp [hc]⟩
   cases hh : s.h with
   | false =>
    rw [hh] at key
    symm
    rw [decide_eq_false_iff_not]
    intro h
    exact Bool.false_ne_true (key.1 (by omega))
   | true =>
    symm
    rw [decide_eq_true_eq]
    have := key.2 hh
    omega
  have et := impl_StatsTree_ev a b c s.n s.h s.lo s.hi
  unfold statsTreeR at et
  rw [if_pos hgood] at et
  have ef := statsFrom_back a b c s.n s.h s.lo s.hi hgood il ih
  refine statslaw_loop a b c list hl s hs hle (fun x11 x10 h10 h11 => ?_) list.length 0 0 (!s.h) (!s.h) (by omega) (by simp) ?_ ?_
  ·
   subst h10 h11
   refine Ev.step (fun k => by rw [laws_FnStats.l0]) ?_
   refine Ev.neg (by omega) (Ev.bind et (Ev.bind ef (Ev.pos rfl (Ev.pos rfl (Ev.pos rfl (Ev.pos (by rw [← hhas]; simp) (Ev.pos rfl (Ev.pos rfl ?_))))))))
   exact Ev.const (by simp)
  ·
   constructor
   ·
    intro h; exact .inl (by simpa using h)
   ·
    rintro (h | ⟨j, h, _⟩)
    ·
     rw [h]; rfl
    ·
     exact absurd h (Nat.not_lt_zero j)
  ·
   constructor
   ·
    intro h; exact .inl (by simpa using h)
   ·
    rintro (h | ⟨j, h, _⟩)
    ·
     rw [h]; rfl
    ·
     exact absurd h (Nat.not_lt_zero j)
 ·
  rw [if_neg hok]
  refine Ev.neg (by simp) ?_
  refine Ev.step (fun k => by rw [laws_FnStats.j0]) ?_
  refine Ev.neg (by simp) (Ev.neg (by simp) ?_)
  exact Ev.const (by simp [ByteArray.toList_eq])
end Go.Proofs.Ytnlgodcbnlbdkaa.Pure
