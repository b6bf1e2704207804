/- The pure statement of FnDict: the printed functions answer as the law says, for all arguments. No condition. -/
import Derived.Test.YtgbhjjhnkiagfaaVFnDict
import Derived.Test.YtgbhjjhnkiagfaaPFnDictx
import Derived.Test.YtgbhjjhnkiagfaaArgFnDict
namespace Go.Proofs.Ytgbhjjhnkiagfaa.Pure
open Go.RowKit Go.Proofs.Ytgbhjjhnkiagfaa.PFnDict Go.Proofs.Ytgbhjjhnkiagfaa.Core Go.Proofs.YtgbhjjhnkiagfaaW.PrintWords Go.Proofs.YtgbhjjhnkiagfaaW.PrintLast Go.Proofs.YtgbhjjhnkiagfaaW.PrintMore Go.Proofs.YtgbhjjhnkiagfaaW.PrintMore2 Go.Proofs.Ytgbhjjhnkiagfaa.AFnDict
set_option linter.unusedVariables false
set_option linter.unusedSimpArgs false
theorem bv_ofInt_wrap (x : Int) : BitVec.ofInt 64 (wrap64 x) = BitVec.ofInt 64 x := by
  apply BitVec.eq_of_toNat_eq
  rw [BitVec.toNat_ofInt, BitVec.toNat_ofInt]
  congr 1
  unfold wrap64; omega
theorem or_wrap (a c : Nat) (ha : a < 2 ^ 64) (hc : c < 2 ^ 64) : Go.bits .or .i64 (wrap64 (a : Int)) (wrap64 (c : Int)) = wrap64 ((a ||| c : Nat) : Int) := by
  have e : Go.bits .or .i64 (wrap64 (a : Int)) (wrap64 (c : Int)) = IntKind.i64.wrap (((BitVec.ofInt 64 (wrap64 (a : Int)) ||| BitVec.ofInt 64 (wrap64 (c : Int))).toNat : Nat) : Int) := rfl
  rw [e, bv_ofInt_wrap, bv_ofInt_wrap, BitVec.ofInt_natCast, BitVec.ofInt_natCast, BitVec.toNat_or, BitVec.toNat_ofNat, BitVec.toNat_ofNat, Nat.mod_eq_of_lt ha, Nat.mod_eq_of_lt hc, IntKind.wrap_i64]
  unfold wrap64; omega
theorem or_digit (m a d : Nat) (ha : a < 2 ^ m) : a ||| d * 2 ^ m = a + d * 2 ^ m := by
  have := Nat.shiftLeft_add_eq_or_of_lt ha d
  rw [Nat.shiftLeft_eq] at this
  rw [Nat.or_comm, ← this, Nat.add_comm]
theorem emod_digit (x p : Int) (hp : 0 < p) : x % (p * 256) = x % p + (x / p) % 256 * p := by
  have h1 := Int.mul_ediv_add_emod x p
  have h2 := Int.mul_ediv_add_emod (x / p) 256
  have a0 := Int.emod_nonneg x (show p ≠ 0 by omega)
  have a1 := Int.emod_lt_of_pos x hp
  have b0 := Int.emod_nonneg (x / p) (show (256 : Int) ≠ 0 by omega)
  have b1 := Int.emod_lt_of_pos (x / p) (show (0 : Int) < 256 by omega)
  have e : x = (x % p + (x / p) % 256 * p) + (p * 256) * (x / p / 256) := by
    have e3 : p * (x / p) = p * (256 * (x / p / 256) + x / p % 256) := by rw [h2]
    rw [Int.mul_add] at e3
    have e4 : p * (256 * (x / p / 256)) = (p * 256) * (x / p / 256) := by rw [Int.mul_assoc]
    have e5 : p * (x / p % 256) = x / p % 256 * p := Int.mul_comm _ _
    omega
  have m0 : 0 ≤ (x / p) % 256 * p := Int.mul_nonneg b0 (by omega)
  have m1 : (x / p) % 256 * p ≤ 255 * p := Int.mul_le_mul_of_nonneg_right (by omega) (by omega)
  generalize hr : x % p + (x / p) % 256 * p = r at *
  conv => lhs; rw [e]
  rw [Int.add_mul_emod_self_left, Int.emod_eq_of_lt (by omega) (by omega)]
/-- A reader of draws that is within its bytes. -/
def Cur (s : List Int) (i : Int) : Prop := 0 ≤ i ∧ i ≤ s.length ∧ s.length ≤ 1048576
theorem l1New_ev (l : List Int) (hl : l.length ≤ 1048576) : ∃ h, Ev (fun k => spec_l1New.f k l) (l, 0, h) := by
  unfold spec_l1New.f
  have key : ∀ (d : Nat) (i h : Int), 0 ≤ i → i + d = l.length → ∃ h', Ev (fun k => spec_l1New.l0 k l h i) (l, 0, h') := by
    intro d
    induction d with
    | zero =>
      intro i h h0 hi
      exact ⟨_, Ev.step (fun k => by rw [spec_l1New.l0]) (by exact Ev.neg (by omega) (Ev.now _))⟩
    | succ d ih =>
      intro i h h0 hi
      by_cases h4 : i < 4000
      · obtain ⟨h', hr⟩ := ih (i + 1) (Go.bits .and .i64 (wrap64 ((wrap64 ((wrap64 (h * 131)) + (wrap64 (rd l i)))) + 7)) 1073741823) (by omega) (by omega)
        refine ⟨h', Ev.step (fun k => by rw [spec_l1New.l0]) (Ev.pos (by omega) (Ev.pos h4 (Ev.pos h0 ?_)))⟩
        rw [wrap64_id (x := i + 1) (by omega) (by omega)]
        exact hr
      · exact ⟨_, Ev.step (fun k => by rw [spec_l1New.l0]) (by exact Ev.pos (by omega) (Ev.neg h4 (Ev.now _)))⟩
  exact key l.length 0 _ (by omega) (by omega)
theorem l1Byte_some (s : List Int) (i h : Int) (hc : Cur s i) : ∃ v i' h', spec_l1Byte.f s i h = some (v, i', h') ∧ 0 ≤ v ∧ v ≤ 255 ∧ Cur s i' := by
  obtain ⟨h0, h1, h2⟩ := hc
  unfold spec_l1Byte.f
  by_cases hlt : i < (s.length : Int)
  · rw [if_pos hlt, if_pos h0]
    refine ⟨_, _, _, rfl, (and_255 _).1, (and_255 _).2, ?_⟩
    rw [wrap64_id (by omega) (by omega)]
    exact ⟨by omega, by omega, h2⟩
  · rw [if_neg hlt]
    exact ⟨_, _, _, rfl, (and_255 _).1, (and_255 _).2, h0, h1, h2⟩
theorem l1Below_some (s : List Int) (i h n : Int) (hc : Cur s i) : ∃ v i' h', spec_l1Below.f s i h n = some (v, i', h') ∧ 0 ≤ v ∧ (0 < n → v < n) ∧ (n ≤ 0 → v = 0) ∧ Cur s i' := by
  unfold spec_l1Below.f
  by_cases hn : n ≤ 0
  · rw [if_pos hn]
    exact ⟨0, i, h, rfl, by omega, by omega, fun _ => rfl, hc⟩
  rw [if_neg hn]
  have hm : ∀ x : Int, 0 ≤ x → 0 ≤ Int.tmod x n ∧ Int.tmod x n < n := fun x hx => by
    rw [Int.tmod_eq_emod_of_nonneg hx]
    exact ⟨Int.emod_nonneg _ (by omega), Int.emod_lt_of_pos _ (by omega)⟩
  by_cases h256 : n ≤ 256
  · rw [if_pos h256]
    obtain ⟨v, i', h', e, v0, v1, hc'⟩ := l1Byte_some s i h hc
    rw [e]
    simp only [Option.bind_some]
    rw [if_neg (by omega)]
    exact ⟨_, _, _, rfl, (hm v v0).1, fun _ => (hm v v0).2, by omega, hc'⟩
  · rw [if_neg h256]
    obtain ⟨a, i1, h1, e1, a0, a1, c1⟩ := l1Byte_some s i h hc
    obtain ⟨b, i2, h2, e2, b0, b1, c2⟩ := l1Byte_some s i1 h1 c1
    obtain ⟨c, i3, h3, e3, c0, c1', c3⟩ := l1Byte_some s i2 h2 c2
    obtain ⟨d, i4, h4, e4, d0, d1, c4⟩ := l1Byte_some s i3 h3 c3
    rw [e1]; simp only [Option.bind_some]; rw [e2]; simp only [Option.bind_some]; rw [e3]; simp only [Option.bind_some]; rw [e4]; simp only [Option.bind_some]
    rw [if_neg (by omega)]
    have hx : 0 ≤ wrap64 ((wrap64 ((wrap64 ((wrap64 (a * 16777216)) + (wrap64 (b * 65536)))) + (wrap64 (c * 256)))) + d) := by
      rw [wrap64_id (x := a * 16777216) (by omega) (by omega), wrap64_id (x := b * 65536) (by omega) (by omega), wrap64_id (x := c * 256) (by omega) (by omega)]
      rw [wrap64_id (x := a * 16777216 + b * 65536) (by omega) (by omega), wrap64_id (x := a * 16777216 + b * 65536 + c * 256) (by omega) (by omega), wrap64_id (by omega) (by omega)]
      omega
    exact ⟨_, _, _, rfl, (hm _ hx).1, fun _ => (hm _ hx).2, by omega, c4⟩
theorem l1Once_some (s : List Int) (i h n : Int) (hc : Cur s i) : ∃ v i' h', spec_l1Once.f s i h n = some (v, i', h') ∧ Cur s i' := by
  unfold spec_l1Once.f
  obtain ⟨v, i', h', e, _, _, _, c⟩ := l1Below_some s i h n hc
  rw [e]
  exact ⟨_, _, _, rfl, c⟩
theorem l1DrawBytes_ev (s : List Int) (i h most : Int) (hc : Cur s i) (hm0 : 0 ≤ most) (hm : most ≤ 1000000) : ∃ (l : List Int) (i' h' : Int), Ev (fun k => spec_l1DrawBytes.f k s i h most) (l, i', h') ∧ (l.length : Int) ≤ most ∧ (∀ x ∈ l, 0 ≤ x ∧ x ≤ 255) ∧ Cur s i' := by
  unfold spec_l1DrawBytes.f
  rw [wrap64_id (by omega) (by omega)]
  obtain ⟨n, i1, h1, e1, n0, n1, _, c1⟩ := l1Below_some s i h (most + 1) hc
  have key : ∀ (d : Nat) (out : List Int) (j i h : Int), 0 ≤ j → j + d = n → out.length = j → (∀ x ∈ out, 0 ≤ x ∧ x ≤ 255) → Cur s i →
      ∃ (l : List Int) (i' h' : Int), Ev (fun k => spec_l1DrawBytes.l0 k out n j s i h) (l, i', h') ∧ (l.length : Int) = n ∧ (∀ x ∈ l, 0 ≤ x ∧ x ≤ 255) ∧ Cur s i' := by
    intro d
    induction d with
    | zero =>
      intro out j i h j0 hj ho hx hc
      exact ⟨out, i, h, Ev.step (fun k => by rw [spec_l1DrawBytes.l0]) (by exact Ev.neg (by omega) (Ev.now _)), by omega, hx, hc⟩
    | succ d ih =>
      intro out j i h j0 hj ho hx hc
      obtain ⟨v, i2, h2, e2, v0, v1, c2⟩ := l1Byte_some s i h hc
      obtain ⟨l, i3, h3, hr, hl, hx3, c3⟩ := ih (out ++ [v % 256]) (j + 1) i2 h2 (by omega) (by omega) (by simp; omega) (by
        intro x hx'
        rcases List.mem_append.1 hx' with h | h
        · exact hx x h
        · obtain rfl := List.mem_singleton.1 h
          omega) c2
      refine ⟨l, i3, h3, ?_, hl, hx3, c3⟩
      refine Ev.step (fun k => by rw [spec_l1DrawBytes.l0]) ?_
      refine Ev.pos (by omega) (Ev.here e2 (Ev.pos (by omega) ?_))
      rw [wrap64_id (x := j + 1) (by omega) (by omega)]
      exact hr
  obtain ⟨l, i', h', hr, hl, hx, c⟩ := key n.toNat [] 0 i1 h1 (by omega) (by omega) (by simp) (by simp) c1
  exact ⟨l, i', h', Ev.here e1 hr, by omega, hx, c⟩
theorem l4DrawText_ev (s : List Int) (i h most : Int) (hc : Cur s i) (hm0 : 0 ≤ most) (hm : most ≤ 1000000) : ∃ (t : ByteArray) (i' h' : Int), Ev (fun k => spec_l4DrawText.f k s i h most) (t, i', h') ∧ (t.size : Int) ≤ most ∧ Cur s i' := by
  unfold spec_l4DrawText.f
  obtain ⟨l, i', h', hr, hl, _, c⟩ := l1DrawBytes_ev s i h most hc hm0 hm
  exact ⟨_, _, _, Ev.bind hr (Ev.now _), by rw [strOfNums_size]; exact hl, c⟩
theorem l1PickInt_some (s : List Int) (i h : Int) (l : List Int) (hc : Cur s i) (hl : 0 < l.length) : ∃ v i' h', spec_l1PickInt.f s i h l = some (v, i', h') ∧ v ∈ l ∧ Cur s i' := by
  unfold spec_l1PickInt.f
  obtain ⟨v, i', h', e, v0, v1, _, c⟩ := l1Below_some s i h (l.length : Int) hc
  rw [e]; simp only [Option.bind_some]
  have := v1 (by omega)
  rw [if_pos v0, if_pos this, rd_eq (by omega)]
  exact ⟨_, _, _, rfl, List.getElem_mem _, c⟩
theorem l1Pick_some (s : List Int) (i h : Int) (l : List ByteArray) (hc : Cur s i) (hl : 0 < l.length) : ∃ v i' h', spec_l1Pick.f s i h l = some (v, i', h') ∧ v ∈ l ∧ Cur s i' := by
  unfold spec_l1Pick.f
  obtain ⟨v, i', h', e, v0, v1, _, c⟩ := l1Below_some s i h (l.length : Int) hc
  rw [e]; simp only [Option.bind_some]
  have := v1 (by omega)
  rw [if_pos v0, if_pos this, rdOf_eq (by omega)]
  exact ⟨_, _, _, rfl, List.getElem_mem _, c⟩
def I64 (x : Int) : Prop := -9223372036854775808 ≤ x ∧ x ≤ 9223372036854775807
theorem I64_wrap (x : Int) : I64 (wrap64 x) := ⟨wrap64_lo x, wrap64_hi x⟩
theorem l2DrawNum_some (s : List Int) (i h : Int) (hc : Cur s i) : ∃ v i' h', spec_l2DrawNum.f s i h = some (v, i', h') ∧ I64 v ∧ Cur s i' := by
  unfold spec_l2DrawNum.f
  obtain ⟨a, i1, h1, e1, a0, a1, _, c1⟩ := l1Below_some s i h 1000000 hc
  obtain ⟨b, i2, h2, e2, b0, b1, _, c2⟩ := l1Below_some s i1 h1 1000000 c1
  obtain ⟨c, i3, h3, e3, c0, c1', _, c3⟩ := l1Below_some s i2 h2 300 c2
  have := a1 (by omega); have := b1 (by omega); have := c1' (by omega)
  obtain ⟨v, i4, h4, e4, hv, c4⟩ := l1PickInt_some s i3 h3 ([0, 1, (-1), 63, 64, (-64), (-65), 127, 128, 16383, 16384, 2147483647, (-2147483648), 9223372036854775807, (-9223372036854775808), 4611686018427387904, a, wrap64 (-b), c] : List Int) c3 (by simp)
  refine ⟨v, i4, h4, ?_, ?_, c4⟩
  · rw [e1]; simp only [Option.bind_some]; rw [e2]; simp only [Option.bind_some]; rw [e3]; simp only [Option.bind_some]; rw [e4]; rfl
  · have w0 := wrap64_lo (-b); have w1 := wrap64_hi (-b)
    simp only [List.mem_cons, List.not_mem_nil, or_false] at hv
    unfold I64; omega
theorem l6DrawType_some (s : List Int) (i h : Int) (hc : Cur s i) : ∃ t i' h', spec_l6DrawType.f s i h = some (t, i', h') ∧ -1 ≤ t ∧ t ≤ 7 ∧ Cur s i' := by
  unfold spec_l6DrawType.f
  obtain ⟨o, i1, h1, e1, c1⟩ := l1Once_some s i h 25 hc
  rw [e1]; simp only [Option.bind_some]
  by_cases ho : o = true
  · rw [if_pos ho]
    obtain ⟨v, i2, h2, e2, hv, c2⟩ := l1PickInt_some s i1 h1 ([3, 4, 7, (-1)] : List Int) c1 (by simp)
    rw [e2]
    simp only [List.mem_cons, List.not_mem_nil, or_false] at hv
    exact ⟨_, _, _, rfl, by dsimp only; omega, by dsimp only; omega, c2⟩
  · rw [if_neg ho]
    obtain ⟨v, i2, h2, e2, hv, c2⟩ := l1PickInt_some s i1 h1 ([0, 1, 2, 5, 6] : List Int) c1 (by simp)
    rw [e2]
    simp only [List.mem_cons, List.not_mem_nil, or_false] at hv
    exact ⟨_, _, _, rfl, by dsimp only; omega, by dsimp only; omega, c2⟩
/-- A drawn value: a number of 64 bits, a text of at most 41 bytes. -/
def DrawnV (v : Int) (x : ByteArray) : Prop := I64 v ∧ x.size ≤ 41
theorem DrawnV.num {v : Int} (h : I64 v) : DrawnV v (⟨#[]⟩ : ByteArray) := ⟨h, by decide⟩
theorem l6DrawRight_ev (s : List Int) (i h : Int) (t : Int) (hc : Cur s i) : ∃ v x i' h', Ev (fun k => spec_l6DrawRight.f k s i h t) (v, x, i', h') ∧ DrawnV v x ∧ Cur s i' := by
  unfold spec_l6DrawRight.f
  by_cases h0 : t = 0
  · obtain ⟨v, i1, h1, e1, v0, v1, _, c1⟩ := l1Below_some s i h 2 hc
    have := v1 (by omega)
    exact ⟨_, _, _, _, Ev.pos h0 (Ev.here e1 (Ev.now _)), DrawnV.num (by unfold I64; (try dsimp only); omega), c1⟩
  by_cases h1 : t = 1
  · obtain ⟨o, i1, h1', e1, c1⟩ := l1Once_some s i h 6 hc
    by_cases ho : o = true
    · obtain ⟨v, i2, h2, e2, hv, c2⟩ := l1PickInt_some s i1 h1' ([2147483647, (-2147483648), 0] : List Int) c1 (by simp)
      simp only [List.mem_cons, List.not_mem_nil, or_false] at hv
      exact ⟨_, _, _, _, Ev.neg h0 (Ev.pos h1 (Ev.here e1 (Ev.pos ho (Ev.here e2 (Ev.now _))))), DrawnV.num (by unfold I64; (try dsimp only); omega), c2⟩
    · obtain ⟨v, i2, h2, e2, v0, v1, _, c2⟩ := l1Below_some s i1 h1' 40 c1
      exact ⟨_, _, _, _, Ev.neg h0 (Ev.pos h1 (Ev.here e1 (Ev.neg ho (Ev.here e2 (Ev.now _))))), DrawnV.num (I64_wrap _), c2⟩
  by_cases h6 : t = 6
  · obtain ⟨o, i1, h1', e1, c1⟩ := l1Once_some s i h 3 hc
    by_cases ho : o = true
    · obtain ⟨v, i2, h2, e2, hv, c2⟩ := l1Pick_some s i1 h1' ([(⟨#[]⟩ : ByteArray), (⟨#[97]⟩ : ByteArray), (⟨#[97, 98]⟩ : ByteArray), (⟨#[97, 98, 99]⟩ : ByteArray), (⟨#[97, 98, 100]⟩ : ByteArray), (⟨#[98]⟩ : ByteArray), (⟨#[97, 97]⟩ : ByteArray)] : List ByteArray) c1 (by simp)
      refine ⟨_, _, _, _, Ev.neg h0 (Ev.neg h1 (Ev.pos h6 (Ev.here e1 (Ev.pos ho (Ev.here e2 (Ev.now _)))))), ⟨by unfold I64; (try dsimp only); omega, ?_⟩, c2⟩
      simp only [List.mem_cons, List.not_mem_nil, or_false] at hv
      rcases hv with rfl | rfl | rfl | rfl | rfl | rfl | rfl <;> (dsimp only; decide)
    · obtain ⟨x, i2, h2, e2, hs, c2⟩ := l4DrawText_ev s i1 h1' 6 c1 (by omega) (by omega)
      exact ⟨_, _, _, _, Ev.neg h0 (Ev.neg h1 (Ev.pos h6 (Ev.here e1 (Ev.neg ho (Ev.bind e2 (Ev.now _)))))), ⟨by unfold I64; (try dsimp only); omega, by dsimp only; omega⟩, c2⟩
  by_cases h5 : t = 5
  · obtain ⟨a, i1, h1', e1, a0, a1, _, c1⟩ := l1Below_some s i h 9 hc
    have := a1 (by omega)
    obtain ⟨b, i2, h2, e2, hb, c2⟩ := l2DrawNum_some s i1 h1' c1
    obtain ⟨v, i3, h3, e3, hv, c3⟩ := l1PickInt_some s i2 h2 ([0, (-9223372036854775808), 4607182418800017408, (-4616189618054758400), 9221120237041090560, (-2251799813685248), a, b] : List Int) c2 (by simp)
    simp only [List.mem_cons, List.not_mem_nil, or_false] at hv
    refine ⟨_, _, _, _, Ev.neg h0 (Ev.neg h1 (Ev.neg h6 (Ev.pos h5 (Ev.here e1 (Ev.here e2 (Ev.here e3 (Ev.now _))))))), DrawnV.num ?_, c3⟩
    unfold I64 at *; dsimp only; omega
  · obtain ⟨o, i1, h1', e1, c1⟩ := l1Once_some s i h 2 hc
    by_cases ho : o = true
    · obtain ⟨v, i2, h2, e2, v0, v1, _, c2⟩ := l1Below_some s i1 h1' 30 c1
      exact ⟨_, _, _, _, Ev.neg h0 (Ev.neg h1 (Ev.neg h6 (Ev.neg h5 (Ev.here e1 (Ev.pos ho (Ev.here e2 (Ev.now _))))))), DrawnV.num (I64_wrap _), c2⟩
    · obtain ⟨v, i2, h2, e2, hv, c2⟩ := l2DrawNum_some s i1 h1' c1
      exact ⟨_, _, _, _, Ev.neg h0 (Ev.neg h1 (Ev.neg h6 (Ev.neg h5 (Ev.here e1 (Ev.neg ho (Ev.here e2 (Ev.now _))))))), DrawnV.num hv, c2⟩
theorem l6DrawVal_ev (s : List Int) (i h : Int) (t : Int) (hc : Cur s i) : ∃ v x i' h', Ev (fun k => spec_l6DrawVal.f k s i h t) (v, x, i', h') ∧ DrawnV v x ∧ Cur s i' := by
  unfold spec_l6DrawVal.f
  obtain ⟨v, x, i1, h1, e1, d1, c1⟩ := l6DrawRight_ev s i h t hc
  obtain ⟨n, i2, h2, e2, n0, n1, _, c2⟩ := l1Below_some s i1 h1 25 c1
  by_cases z : n = 0
  · obtain ⟨w, i3, h3, e3, hw, c3⟩ := l1PickInt_some s i2 h2 ([2, (-1), 2147483648, (-2147483649)] : List Int) c2 (by simp)
    simp only [List.mem_cons, List.not_mem_nil, or_false] at hw
    exact ⟨_, _, _, _, Ev.bind e1 (Ev.here e2 (Ev.pos z (Ev.here e3 (Ev.now _)))), ⟨by unfold I64; (try dsimp only); omega, d1.2⟩, c3⟩
  by_cases o : n = 1
  · obtain ⟨m, i3, h3, e3, m0, m1, _, c3⟩ := l1Below_some s i2 h2 2 c2
    have := m1 (by omega)
    refine ⟨_, _, _, _, Ev.bind e1 (Ev.here e2 (Ev.neg z (Ev.pos o (Ev.here e3 (Ev.pos ?_ (Ev.pos ?_ (Ev.now _))))))), ⟨d1.1, ?_⟩, c3⟩
    · rw [wrap64_id (by dsimp only; omega) (by dsimp only; omega)]; dsimp only; omega
    · rw [wrap64_id (by dsimp only; omega) (by dsimp only; omega)]; dsimp only; omega
    · rw [wrap64_id (by dsimp only; omega) (by dsimp only; omega)]
      rw [strOfNums_size, List.length_replicate]; dsimp only; omega
  · exact ⟨_, _, _, _, Ev.bind e1 (Ev.here e2 (Ev.neg z (Ev.neg o (Ev.now _)))), d1, c2⟩
def DrawnL (l : List S31) : Prop := ∀ v ∈ l, DrawnV v.f0 v.f1
theorem DrawnL.snoc {l : List S31} {v : S31} (h : DrawnL l) (hv : DrawnV v.f0 v.f1) : DrawnL (l ++ [v]) := fun x hx => by
  rcases List.mem_append.1 hx with h' | h'
  · exact h x h'
  · obtain rfl := List.mem_singleton.1 h'; exact hv
theorem l6DrawList_ev (s : List Int) (i h : Int) (t most : Int) (hc : Cur s i) (hm0 : 0 ≤ most) (hm : most ≤ 100000) : ∃ (l : List S31) (i' h' : Int), Ev (fun k => spec_l6DrawList.f k s i h t most) (l, i', h') ∧ (l.length : Int) ≤ most + 1 ∧ DrawnL l ∧ Cur s i' := by
  unfold spec_l6DrawList.f
  rw [wrap64_id (x := most + 1) (by omega) (by omega)]
  obtain ⟨n, i1, h1, e1, n0, n1, _, c1⟩ := l1Below_some s i h (most + 1) hc
  have hn := n1 (by omega)
  have key : ∀ (d : Nat) (out : List S31) (j i h : Int), 0 ≤ j → j + d = n → out.length = j → DrawnL out → Cur s i →
      ∃ (l : List S31) (i' h' : Int), Ev (fun k => spec_l6DrawList.l0 k t out n j s i h) (l, i', h') ∧ (l.length : Int) ≤ n + 1 ∧ DrawnL l ∧ Cur s i' := by
    intro d
    induction d with
    | zero =>
      intro out j i h j0 hj ho hd hc
      obtain ⟨o, i2, h2, e2, c2⟩ := l1Once_some s i h 20 hc
      by_cases hb : o = true
      · obtain ⟨v, x, i3, h3, e3, d3, c3⟩ := l6DrawVal_ev s i2 h2 t c2
        refine ⟨out ++ [⟨v, x⟩], i3, h3, ?_, by simp; omega, hd.snoc d3, c3⟩
        refine Ev.step (fun k => by rw [spec_l6DrawList.l0]) ?_
        exact Ev.neg (by omega) (Ev.here e2 (Ev.pos hb (Ev.bind e3 (Ev.pos (by omega) (Ev.now _)))))
      · refine ⟨out, i2, h2, ?_, by omega, hd, c2⟩
        refine Ev.step (fun k => by rw [spec_l6DrawList.l0]) ?_
        exact Ev.neg (by omega) (Ev.here e2 (Ev.neg hb (Ev.now _)))
    | succ d ih =>
      intro out j i h j0 hj ho hd hc
      have hr : ∀ i h, Cur s i → ∃ (l : List S31) (i' h' : Int), Ev (fun k => spec_l6DrawList.j1 k t out n j false s i h) (l, i', h') ∧ (l.length : Int) ≤ n + 1 ∧ DrawnL l ∧ Cur s i' := by
        intro i h hc
        obtain ⟨v, x, i3, h3, e3, d3, c3⟩ := l6DrawRight_ev s i h t hc
        obtain ⟨l, i4, h4, e4, hl, hd4, c4⟩ := ih (out ++ [⟨v, x⟩]) (j + 1) i3 h3 (by omega) (by omega) (by simp; omega) (hd.snoc d3) c3
        refine ⟨l, i4, h4, ?_, hl, hd4, c4⟩
        refine Ev.step (fun k => by rw [spec_l6DrawList.j1]) ?_
        refine Ev.neg (by decide) (Ev.bind e3 (Ev.pos (by omega) ?_))
        rw [wrap64_id (x := j + 1) (by omega) (by omega)]
        exact e4
      by_cases hj0 : j > 0
      · obtain ⟨o, i2, h2, e2, c2⟩ := l1Once_some s i h 3 hc
        by_cases hb : o = true
        · obtain ⟨m, i3, h3, e3, m0, m1, _, c3⟩ := l1Below_some s i2 h2 j c2
          have hm1 := m1 (by omega)
          have hmem : rd_T31 out m ∈ out := by
            have e : rd_T31 out m = out.getD m.toNat z31 := rfl
            rw [e, getD_eq (by omega)]; exact List.getElem_mem _
          obtain ⟨l, i4, h4, e4, hl, hd4, c4⟩ := ih (out ++ [rd_T31 out m]) (j + 1) i3 h3 (by omega) (by omega) (by simp; omega) (hd.snoc (hd _ hmem)) c3
          refine ⟨l, i4, h4, ?_, hl, hd4, c4⟩
          refine Ev.step (fun k => by rw [spec_l6DrawList.l0]) ?_
          refine Ev.pos (by omega) (Ev.pos hj0 (Ev.here e2 ?_))
          refine Ev.step (fun k => by rw [spec_l6DrawList.j1]) ?_
          refine Ev.pos hb (Ev.here e3 (Ev.pos m0 (Ev.pos (by dsimp only; omega) (Ev.pos (by omega) ?_))))
          rw [wrap64_id (x := j + 1) (by omega) (by omega)]
          exact e4
        · obtain ⟨l, i4, h4, e4, hl, hd4, c4⟩ := hr i2 h2 c2
          refine ⟨l, i4, h4, ?_, hl, hd4, c4⟩
          refine Ev.step (fun k => by rw [spec_l6DrawList.l0]) ?_
          refine Ev.pos (by omega) (Ev.pos hj0 (Ev.here e2 ?_))
          have : o = false := by simpa using hb
          rw [this]; exact e4
      · obtain ⟨l, i4, h4, e4, hl, hd4, c4⟩ := hr i h hc
        refine ⟨l, i4, h4, ?_, hl, hd4, c4⟩
        refine Ev.step (fun k => by rw [spec_l6DrawList.l0]) ?_
        exact Ev.pos (by omega) (Ev.neg hj0 e4)
  obtain ⟨l, i', h', e, hl, hd, c⟩ := key n.toNat [] 0 i1 h1 (by omega) (by omega) (by simp) (by intro x hx; cases hx) c1
  exact ⟨l, i', h', Ev.here e1 e, by omega, hd, c⟩
def tOk (t : Int) : Bool := decide (t = 0 ∨ t = 1 ∨ t = 2 ∨ t = 5 ∨ t = 6)
theorem l5Type_some (t : Int) : spec_l5Type.f t = some (tOk t) := by
  unfold spec_l5Type.f
  (repeat' split) <;> simp_all [tOk]
theorem l1In_same (x lo hi : Int) : (if x ≥ lo then some (decide (x ≤ hi)) else some false) = some (decide (lo ≤ x ∧ x ≤ hi)) := by
  by_cases h : x ≥ lo
  · rw [if_pos h]; congr 1; simp; omega
  · rw [if_neg h]; congr 1; symm; simp; omega
theorem within_some (x lo hi : Int) : impl_within.f x lo hi = some (decide (lo ≤ x ∧ x ≤ hi)) := by unfold impl_within.f; exact l1In_same x lo hi
theorem typeOk_some (t : Int) : impl_TypeOk.f t = some (tOk t) := by
  unfold impl_TypeOk.f
  rw [within_some]
  simp only [Option.bind_some]
  by_cases h : 0 ≤ t ∧ t ≤ 2
  · rw [if_pos (by simpa using h)]
    have : t = 0 ∨ t = 1 ∨ t = 2 := by omega
    rcases this with rfl | rfl | rfl <;> rfl
  · rw [if_neg (by simpa using h)]
    by_cases h5 : t = 5
    · subst h5; rfl
    · rw [if_neg h5]
      by_cases h6 : t = 6
      · subst h6; rfl
      · have h0 : t ≠ 0 := by omega
        have h1 : t ≠ 1 := by omega
        have h2 : t ≠ 2 := by omega
        simp [tOk, h0, h1, h2, h5, h6]
theorem bits_and_mask (x m : Int) (k : Nat) (hk : k ≤ 63) (hm : m = 2 ^ k - 1) : Go.bits .and .i64 x m = x % 2 ^ k := by
  have p0 : (0 : Int) < 2 ^ k := Int.pow_pos (by omega)
  have eP : (2 : Int) ^ k = ((2 ^ k : Nat) : Int) := by push_cast; rfl
  have h63 : 2 ^ k ≤ 2 ^ 63 := Nat.pow_le_pow_right (by omega) hk
  have n0 : 0 < 2 ^ k := Nat.pow_pos (by omega)
  have e : Go.bits .and .i64 x m = IntKind.i64.wrap ((((BitVec.ofInt 64 x) &&& (BitVec.ofInt 64 m)).toNat : Nat) : Int) := rfl
  rw [e, BitVec.toNat_and, BitVec.toNat_ofInt, BitVec.toNat_ofInt]
  have em : (m % ((2 ^ 64 : Nat) : Int)).toNat = 2 ^ k - 1 := by
    rw [hm, eP, Int.emod_eq_of_lt (by omega) (by omega)]; omega
  rw [em, Nat.and_two_pow_sub_one_eq_mod]
  have hlt : (x % ((2 ^ 64 : Nat) : Int)).toNat % 2 ^ k < 2 ^ k := Nat.mod_lt _ n0
  rw [wraps_i64 _ (by omega) (by omega), eP, Int.natCast_emod]
  rw [Int.toNat_of_nonneg (Int.emod_nonneg _ (by omega))]
  apply Int.emod_emod_of_dvd
  refine Int.natCast_dvd_natCast.2 (Nat.pow_dvd_pow 2 (by omega))
theorem u64_id {x : Int} (h0 : 0 ≤ x) (h1 : x < 18446744073709551616) : IntKind.u64.wrap x = x := by rw [IntKind.wrap_u64]; omega
theorem bits_and_mask_u (x m : Int) (k : Nat) (hk : k ≤ 63) (hm : m = 2 ^ k - 1) : Go.bits .and .u64 x m = x % 2 ^ k := by
  have p0 : (0 : Int) < 2 ^ k := Int.pow_pos (by omega)
  have eP : (2 : Int) ^ k = ((2 ^ k : Nat) : Int) := by push_cast; rfl
  have h63 : 2 ^ k ≤ 2 ^ 63 := Nat.pow_le_pow_right (by omega) hk
  have n0 : 0 < 2 ^ k := Nat.pow_pos (by omega)
  have e : Go.bits .and .u64 x m = IntKind.u64.wrap ((((BitVec.ofInt 64 x) &&& (BitVec.ofInt 64 m)).toNat : Nat) : Int) := rfl
  rw [e, BitVec.toNat_and, BitVec.toNat_ofInt, BitVec.toNat_ofInt]
  have em : (m % ((2 ^ 64 : Nat) : Int)).toNat = 2 ^ k - 1 := by
    rw [hm, eP, Int.emod_eq_of_lt (by omega) (by omega)]; omega
  rw [em, Nat.and_two_pow_sub_one_eq_mod]
  have hlt : (x % ((2 ^ 64 : Nat) : Int)).toNat % 2 ^ k < 2 ^ k := Nat.mod_lt _ n0
  rw [u64_id (by omega) (by omega), eP, Int.natCast_emod]
  rw [Int.toNat_of_nonneg (Int.emod_nonneg _ (by omega))]
  apply Int.emod_emod_of_dvd
  refine Int.natCast_dvd_natCast.2 (Nat.pow_dvd_pow 2 (by omega))
/-- How many bits a number has, told in at most f rounds. -/
def blF : Nat → Nat → Nat
  | 0, _ => 0
  | f + 1, n => if n = 0 then 0 else blF f (n / 2) + 1
theorem blF_le : ∀ (f n : Nat), blF f n ≤ f
  | 0, _ => Nat.le_refl _
  | f + 1, n => by
    unfold blF
    have := blF_le f (n / 2)
    split <;> omega
theorem blF_more : ∀ (f n : Nat), n < 2 ^ f → ∀ g, blF (f + g) n = blF f n
  | 0, n, h, g => by
    obtain rfl : n = 0 := by simpa using h
    cases g with
    | zero => rfl
    | succ g => rw [Nat.zero_add]; unfold blF; rw [if_pos rfl]
  | f + 1, n, h, g => by
    rw [show f + 1 + g = (f + g) + 1 by omega]
    unfold blF
    rw [blF_more f (n / 2) (by rw [Nat.pow_succ] at h; omega) g]
theorem blF_shift : ∀ (k f n : Nat), 0 < n / 2 ^ k → blF (f + k) n = k + blF f (n / 2 ^ k)
  | 0, f, n, h => by simp
  | k + 1, f, n, h => by
    rw [show f + (k + 1) = (f + k) + 1 by omega]
    have hn : n ≠ 0 := by
      intro e; rw [e] at h; simp at h
    have hd : n / 2 / 2 ^ k = n / 2 ^ (k + 1) := by rw [Nat.div_div_eq_div_mul, Nat.pow_succ, Nat.mul_comm]
    rw [show blF (f + k + 1) n = blF (f + k) (n / 2) + 1 from by rw [blF, if_neg hn], blF_shift k f (n / 2) (by rw [hd]; exact h), hd]
    omega
theorem tab_at (v : Int) (h0 : 0 ≤ v) (h1 : v < 256) : bt (⟨#[0, 1, 2, 2, 3, 3, 3, 3, 4, 4, 4, 4, 4, 4, 4, 4, 5, 5, 5, 5, 5, 5, 5, 5, 5, 5, 5, 5, 5, 5, 5, 5, 6, 6, 6, 6, 6, 6, 6, 6, 6, 6, 6, 6, 6, 6, 6, 6, 6, 6, 6, 6, 6, 6, 6, 6, 6, 6, 6, 6, 6, 6, 6, 6, 7, 7, 7, 7, 7, 7, 7, 7, 7, 7, 7, 7, 7, 7, 7, 7, 7, 7, 7, 7, 7, 7, 7, 7, 7, 7, 7, 7, 7, 7, 7, 7, 7, 7, 7, 7, 7, 7, 7, 7, 7, 7, 7, 7, 7, 7, 7, 7, 7, 7, 7, 7, 7, 7, 7, 7, 7, 7, 7, 7, 7, 7, 7, 7, 8, 8, 8, 8, 8, 8, 8, 8, 8, 8, 8, 8, 8, 8, 8, 8, 8, 8, 8, 8, 8, 8, 8, 8, 8, 8, 8, 8, 8, 8, 8, 8, 8, 8, 8, 8, 8, 8, 8, 8, 8, 8, 8, 8, 8, 8, 8, 8, 8, 8, 8, 8, 8, 8, 8, 8, 8, 8, 8, 8, 8, 8, 8, 8, 8, 8, 8, 8, 8, 8, 8, 8, 8, 8, 8, 8, 8, 8, 8, 8, 8, 8, 8, 8, 8, 8, 8, 8, 8, 8, 8, 8, 8, 8, 8, 8, 8, 8, 8, 8, 8, 8, 8, 8, 8, 8, 8, 8, 8, 8, 8, 8, 8, 8, 8, 8, 8, 8, 8, 8, 8, 8, 8, 8, 8, 8, 8, 8]⟩ : ByteArray) v = (blF 8 v.toNat : Int) := by
  have key : ∀ n : Fin 256, bt (⟨#[0, 1, 2, 2, 3, 3, 3, 3, 4, 4, 4, 4, 4, 4, 4, 4, 5, 5, 5, 5, 5, 5, 5, 5, 5, 5, 5, 5, 5, 5, 5, 5, 6, 6, 6, 6, 6, 6, 6, 6, 6, 6, 6, 6, 6, 6, 6, 6, 6, 6, 6, 6, 6, 6, 6, 6, 6, 6, 6, 6, 6, 6, 6, 6, 7, 7, 7, 7, 7, 7, 7, 7, 7, 7, 7, 7, 7, 7, 7, 7, 7, 7, 7, 7, 7, 7, 7, 7, 7, 7, 7, 7, 7, 7, 7, 7, 7, 7, 7, 7, 7, 7, 7, 7, 7, 7, 7, 7, 7, 7, 7, 7, 7, 7, 7, 7, 7, 7, 7, 7, 7, 7, 7, 7, 7, 7, 7, 7, 8, 8, 8, 8, 8, 8, 8, 8, 8, 8, 8, 8, 8, 8, 8, 8, 8, 8, 8, 8, 8, 8, 8, 8, 8, 8, 8, 8, 8, 8, 8, 8, 8, 8, 8, 8, 8, 8, 8, 8, 8, 8, 8, 8, 8, 8, 8, 8, 8, 8, 8, 8, 8, 8, 8, 8, 8, 8, 8, 8, 8, 8, 8, 8, 8, 8, 8, 8, 8, 8, 8, 8, 8, 8, 8, 8, 8, 8, 8, 8, 8, 8, 8, 8, 8, 8, 8, 8, 8, 8, 8, 8, 8, 8, 8, 8, 8, 8, 8, 8, 8, 8, 8, 8, 8, 8, 8, 8, 8, 8, 8, 8, 8, 8, 8, 8, 8, 8, 8, 8, 8, 8, 8, 8, 8, 8, 8, 8]⟩ : ByteArray) ((n.val : Nat) : Int) = (blF 8 n.val : Int) := by decide +kernel
  have h : bt (⟨#[0, 1, 2, 2, 3, 3, 3, 3, 4, 4, 4, 4, 4, 4, 4, 4, 5, 5, 5, 5, 5, 5, 5, 5, 5, 5, 5, 5, 5, 5, 5, 5, 6, 6, 6, 6, 6, 6, 6, 6, 6, 6, 6, 6, 6, 6, 6, 6, 6, 6, 6, 6, 6, 6, 6, 6, 6, 6, 6, 6, 6, 6, 6, 6, 7, 7, 7, 7, 7, 7, 7, 7, 7, 7, 7, 7, 7, 7, 7, 7, 7, 7, 7, 7, 7, 7, 7, 7, 7, 7, 7, 7, 7, 7, 7, 7, 7, 7, 7, 7, 7, 7, 7, 7, 7, 7, 7, 7, 7, 7, 7, 7, 7, 7, 7, 7, 7, 7, 7, 7, 7, 7, 7, 7, 7, 7, 7, 7, 8, 8, 8, 8, 8, 8, 8, 8, 8, 8, 8, 8, 8, 8, 8, 8, 8, 8, 8, 8, 8, 8, 8, 8, 8, 8, 8, 8, 8, 8, 8, 8, 8, 8, 8, 8, 8, 8, 8, 8, 8, 8, 8, 8, 8, 8, 8, 8, 8, 8, 8, 8, 8, 8, 8, 8, 8, 8, 8, 8, 8, 8, 8, 8, 8, 8, 8, 8, 8, 8, 8, 8, 8, 8, 8, 8, 8, 8, 8, 8, 8, 8, 8, 8, 8, 8, 8, 8, 8, 8, 8, 8, 8, 8, 8, 8, 8, 8, 8, 8, 8, 8, 8, 8, 8, 8, 8, 8, 8, 8, 8, 8, 8, 8, 8, 8, 8, 8, 8, 8, 8, 8, 8, 8, 8, 8, 8, 8]⟩ : ByteArray) ((v.toNat : Nat) : Int) = (blF 8 v.toNat : Int) := key ⟨v.toNat, by omega⟩
  rw [Int.toNat_of_nonneg h0] at h
  exact h
theorem len64_j0 (x p : Int) (h0 : 0 ≤ x) (h1 : x < 4294967296) (hp0 : 0 ≤ p) (hp1 : p ≤ 32) : Ev (fun k => bits_Len64.j0 k x p) (p + blF 32 x.toNat) := by
  refine Ev.step (fun k => by rw [bits_Len64.j0]) ?_
  by_cases h16 : x ≥ 65536
  · have e16 : blF 32 x.toNat = 16 + blF 16 (x.toNat / 2 ^ 16) := blF_shift 16 16 x.toNat (by omega)
    have q16 : x.toNat / 2 ^ 16 = (x / 65536).toNat := by omega
    refine Ev.pos h16 ?_
    by_cases h8 : x / 65536 ≥ 256
    · have e8 : blF 16 (x / 65536).toNat = 8 + blF 8 ((x / 65536).toNat / 2 ^ 8) := blF_shift 8 8 _ (by omega)
      have q8 : (x / 65536).toNat / 2 ^ 8 = (x / 65536 / 256 % 256).toNat := by omega
      refine Ev.pos h8 (Ev.pos (by omega) (Ev.pos (by omega) (Ev.const ?_)))
      rw [tab_at _ (by omega) (by omega), e16, q16, e8, q8]
      have := blF_le 8 (x / 65536 / 256 % 256).toNat
      rw [wrap64_id (x := p + 16) (by omega) (by omega), wrap64_id (x := p + 16 + 8) (by omega) (by omega), wrap64_id (x := ((blF 8 (x / 65536 / 256 % 256).toNat : Nat) : Int)) (by omega) (by omega), wrap64_id (by omega) (by omega)]
      congr 1; push_cast; omega
    · have e8 : blF 16 (x / 65536).toNat = blF 8 (x / 65536).toNat := blF_more 8 _ (by omega) 8
      have q8 : x / 65536 % 256 = x / 65536 := by omega
      refine Ev.neg h8 (Ev.pos (by omega) (Ev.pos (by omega) (Ev.const ?_)))
      rw [tab_at _ (by omega) (by omega), e16, q16, e8, q8]
      have := blF_le 8 (x / 65536).toNat
      rw [wrap64_id (x := p + 16) (by omega) (by omega), wrap64_id (x := ((blF 8 (x / 65536).toNat : Nat) : Int)) (by omega) (by omega), wrap64_id (by omega) (by omega)]
      congr 1; push_cast; omega
  · have e16 : blF 32 x.toNat = blF 16 x.toNat := blF_more 16 _ (by omega) 16
    refine Ev.neg h16 ?_
    by_cases h8 : x ≥ 256
    · have e8 : blF 16 x.toNat = 8 + blF 8 (x.toNat / 2 ^ 8) := blF_shift 8 8 _ (by omega)
      have q8 : x.toNat / 2 ^ 8 = (x / 256 % 256).toNat := by omega
      refine Ev.pos h8 (Ev.pos (by omega) (Ev.pos (by omega) (Ev.const ?_)))
      rw [tab_at _ (by omega) (by omega), e16, e8, q8]
      have := blF_le 8 (x / 256 % 256).toNat
      rw [wrap64_id (x := p + 8) (by omega) (by omega), wrap64_id (x := ((blF 8 (x / 256 % 256).toNat : Nat) : Int)) (by omega) (by omega), wrap64_id (by omega) (by omega)]
      congr 1; push_cast; omega
    · have e8 : blF 16 x.toNat = blF 8 x.toNat := blF_more 8 _ (by omega) 8
      have q8 : x % 256 = x := by omega
      refine Ev.neg h8 (Ev.pos (by omega) (Ev.pos (by omega) (Ev.const ?_)))
      rw [tab_at _ (by omega) (by omega), e16, e8, q8]
      have := blF_le 8 x.toNat
      rw [wrap64_id (x := ((blF 8 x.toNat : Nat) : Int)) (by omega) (by omega), wrap64_id (by omega) (by omega)]
/-- The width of a whole number, as one without a sign. -/
def widB (x : Int) : Int := (blF 64 (x % 18446744073709551616).toNat : Int)
theorem widB_range (x : Int) : 0 ≤ widB x ∧ widB x ≤ 64 := by
  unfold widB
  have := blF_le 64 (x % 18446744073709551616).toNat
  omega
theorem impl_widthOf_ev (x : Int) : Ev (fun k => impl_widthOf.f k x) (widB x) := by
  unfold impl_widthOf.f bits_Len64.f widB
  have e : IntKind.u64.wrap x = x % 18446744073709551616 := by rw [IntKind.wrap_u64]
  rw [e]
  generalize hX : x % 18446744073709551616 = X
  have h0 : 0 ≤ X := by omega
  have h1 : X < 18446744073709551616 := by omega
  have key : Ev (fun k => if X ≥ 4294967296 then (bits_Len64.j0 k (X / 4294967296) 32) else (bits_Len64.j0 k X 0)) (blF 64 X.toNat : Int) := by
    by_cases h : X ≥ 4294967296
    · refine Ev.pos h (Ev.cast (len64_j0 (X / 4294967296) 32 (by omega) (by omega) (by omega) (by omega)) ?_)
      have := blF_shift 32 32 X.toNat (by omega)
      have q : X.toNat / 2 ^ 32 = (X / 4294967296).toNat := by omega
      rw [this, q]; push_cast; omega
    · refine Ev.neg h (Ev.cast (len64_j0 X 0 h0 (by omega) (by omega) (by omega)) ?_)
      have := blF_more 32 X.toNat (by omega) 32
      rw [this]; omega
  exact Ev.bind key (Ev.now _)
theorem or_u8_range (a b : Int) : 0 ≤ Go.bits .or .u8 a b ∧ Go.bits .or .u8 a b ≤ 255 := by
  have e : Go.bits .or .u8 a b = IntKind.u8.wrap (((BitVec.ofInt 8 a ||| BitVec.ofInt 8 b).toNat : Nat) : Int) := rfl
  rw [e, IntKind.wrap_u8]; omega
theorem or_u8_zero (a : Int) (h0 : 0 ≤ a) (h1 : a ≤ 255) : Go.bits .or .u8 a 0 = a := by
  have e : Go.bits .or .u8 a 0 = IntKind.u8.wrap (((BitVec.ofInt 8 a ||| BitVec.ofInt 8 0).toNat : Nat) : Int) := rfl
  have z : BitVec.ofInt 8 0 = 0#8 := rfl
  rw [e, z, BitVec.or_zero, BitVec.toNat_ofInt, IntKind.wrap_u8]; omega
theorem and_one (x : Int) : Go.bits .and .i64 x 1 = x % 2 := bits_and_mask x 1 1 (by omega) rfl
/-- Bit k of number i is put into its place. -/
def bput (l : List Int) (w i k : Nat) (out : List Int) : List Int :=
  out.set ((i * w + k) / 8) (Go.bits .or .u8 (rd out (((i * w + k) / 8 : Nat) : Int)) (shl .u8 ((shr .i64 (rd l (i : Int)) (k : Int)) % 2) (((i * w + k) % 8 : Nat) : Int)))
def brow (l : List Int) (w i : Nat) (out : List Int) : List Int := (List.range w).foldl (fun o k => bput l w i k o) out
def bitsR (l : List Int) (w : Nat) : List Int := (List.range l.length).foldl (fun o i => brow l w i o) (List.replicate ((l.length * w + 7) / 8) 0)
def BOk (n : Nat) (out : List Int) : Prop := out.length = n ∧ ∀ x ∈ out, 0 ≤ x ∧ x ≤ 255
theorem bput_ok {n : Nat} {l : List Int} {w i k : Nat} {out : List Int} (h : BOk n out) : BOk n (bput l w i k out) := by
  refine ⟨by simpa [bput] using h.1, fun x hx => ?_⟩
  unfold bput at hx
  rcases List.mem_or_eq_of_mem_set hx with h' | rfl
  · exact h.2 x h'
  · exact or_u8_range _ _
theorem brow_ok {n : Nat} {l : List Int} {w i : Nat} : ∀ (m : Nat) {out : List Int}, BOk n out → BOk n ((List.range m).foldl (fun o k => bput l w i k o) out) := by
  intro m
  induction m with
  | zero => intro out h; exact h
  | succ m ih => intro out h; rw [List.range_succ, List.foldl_append]; exact bput_ok (ih h)
theorem bput_skip {n : Nat} {l : List Int} {w i k : Nat} {out : List Int} (h : BOk n out) (hb : (shr .i64 (rd l (i : Int)) (k : Int)) % 2 = 0) (hi : (i * w + k) / 8 < n) : bput l w i k out = out := by
  unfold bput
  rw [hb]
  have e : shl .u8 0 (((i * w + k) % 8 : Nat) : Int) = 0 := by unfold shl; rw [Int.zero_mul, IntKind.wrap_u8]; rfl
  have hl : (i * w + k) / 8 < out.length := by rw [h.1]; exact hi
  have er : rd out (((i * w + k) / 8 : Nat) : Int) = out[(i * w + k) / 8] := rd_eq (by omega)
  have hm := h.2 _ (List.getElem_mem hl)
  rw [e, er, or_u8_zero _ hm.1 hm.2, List.set_getElem_self]
theorem bitsR_ok (l : List Int) (w : Nat) : BOk ((l.length * w + 7) / 8) (bitsR l w) := by
  unfold bitsR
  have : ∀ m, BOk ((l.length * w + 7) / 8) ((List.range m).foldl (fun o i => brow l w i o) (List.replicate ((l.length * w + 7) / 8) 0)) := by
    intro m
    induction m with
    | zero => exact ⟨by simp, fun x hx => by obtain rfl := List.eq_of_mem_replicate hx; omega⟩
    | succ m ih => rw [List.range_succ, List.foldl_append]; exact brow_ok w ih
  exact this _
theorem pos_facts (l : List Int) (hl : l.length ≤ 4000) (w : Nat) (hw : w ≤ 64) (i k : Nat) (hi : i < l.length) (hk : k < w) :
    (wrap64 ((i : Int) * (w : Int)) + (k : Int)) = ((i * w + k : Nat) : Int) ∧ i * w + k < l.length * w ∧ l.length * w ≤ 256000 := by
  have h1 : (i + 1) * w ≤ l.length * w := Nat.mul_le_mul_right _ hi
  rw [Nat.add_mul, Nat.one_mul] at h1
  have h2 : l.length * w ≤ 4000 * 64 := Nat.mul_le_mul hl hw
  have hc : ((i : Int) * (w : Int)) = ((i * w : Nat) : Int) := by push_cast; rfl
  rw [hc, wrap64_id (by omega) (by omega)]
  exact ⟨by push_cast; rfl, by omega, by omega⟩
theorem impl_packed_ev (l : List Int) (hl : l.length ≤ 4000) (w : Nat) (hw : w ≤ 64) : Ev (fun k => impl_packed.f k l (w : Int)) (bitsR l w) := by
  have h2 : l.length * w ≤ 4000 * 64 := Nat.mul_le_mul hl hw
  have hc : ((l.length : Int) * (w : Int)) = ((l.length * w : Nat) : Int) := by push_cast; rfl
  have hN : wrap64 (Int.tdiv (wrap64 (wrap64 ((l.length : Int) * (w : Int)) + 7)) 8) = (((l.length * w + 7) / 8 : Nat) : Int) := by
    rw [hc, wrap64_id (x := ((l.length * w : Nat) : Int)) (by omega) (by omega), wrap64_id (x := ((l.length * w : Nat) : Int) + 7) (by omega) (by omega), Int.tdiv_eq_ediv_of_nonneg (by omega), wrap64_id (by omega) (by omega)]
    omega
  unfold impl_packed.f
  rw [hN]
  refine Ev.pos (by omega) (Ev.pos (by omega) ?_)
  rw [Int.toNat_natCast]
  refine loop_inv (fun k out i => impl_packed.l0 k (w : Int) out l (l.length : Int) i) (fun i out => brow l w i out) l.length _ (fun _ out => BOk ((l.length * w + 7) / 8) out) _ ⟨by simp, fun x hx => by obtain rfl := List.eq_of_mem_replicate hx; omega⟩ (fun i out hi ho => brow_ok w ho) (fun i out hi ho hr => ?_) (fun out ho he => ?_)
  · refine Ev.step (fun k => by rw [impl_packed.l0]) ?_
    refine Ev.pos (by omega) (Ev.pos (by omega) (Ev.pos (by omega) ?_))
    refine loop_inv (fun n o k => impl_packed.l1 n (w : Int) o (i : Int) (rd l (i : Int)) l (l.length : Int) (i : Int) (w : Int) k) (fun k o => bput l w i k o) w _ (fun _ o => BOk ((l.length * w + 7) / 8) o) out ho (fun k o _ h => bput_ok h) (fun k o hk hok hr2 => ?_) (fun o hok he => ?_)
    · obtain ⟨p1, p2, p3⟩ := pos_facts l hl w hw i k hi hk
      refine Ev.step (fun k => by rw [impl_packed.l1]) ?_
      rw [wrap64_id (x := (k : Int) + 1) (by omega) (by omega), p1, and_one]
      have hr3 : Ev (fun n => impl_packed.l1 n (w : Int) (bput l w i k o) (i : Int) (rd l (i : Int)) l (l.length : Int) (i : Int) (w : Int) ((k : Int) + 1)) (bitsR l w) := by simpa using hr2
      rw [wrap64_id (x := ((i * w + k : Nat) : Int)) (by omega) (by omega), Int.tdiv_eq_ediv_of_nonneg (by omega), Int.tmod_eq_emod_of_nonneg (by omega)]
      have e1 : wrap64 (((i * w + k : Nat) : Int) / 8) = (((i * w + k) / 8 : Nat) : Int) := by rw [wrap64_id (by omega) (by omega)]; omega
      have e2 : ((i * w + k : Nat) : Int) % 8 = (((i * w + k) % 8 : Nat) : Int) := by omega
      have e3 : (shr .i64 (rd l (i : Int)) (k : Int)) % 2 % 256 = (shr .i64 (rd l (i : Int)) (k : Int)) % 2 := by omega
      rw [e1, e2, e3]
      have hlen := hok.1
      refine Ev.pos (by omega) (Ev.pos (by omega) (Ev.pos (by omega) (Ev.pos (by omega) (Ev.pos (by omega) ?_))))
      unfold bput at hr3
      rw [Int.toNat_natCast]
      exact hr3
    · refine Ev.step (fun k => by rw [impl_packed.l1]) ?_
      refine Ev.neg (by omega) ?_
      rw [wrap64_id (x := (i : Int) + 1) (by omega) (by omega), he]
      have : (List.range w).foldl (fun o k => bput l w i k o) out = brow l w i out := rfl
      rw [this]
      simpa using hr
  · refine Ev.step (fun k => by rw [impl_packed.l0]) ?_
    refine Ev.neg (by omega) (Ev.const ?_)
    rw [he]; rfl
/-- How many numbers alike follow from a place on. -/
def alkF (l : List Int) (a : Nat) : Nat → Nat → Nat
  | 0, n => n
  | f + 1, n => if a + n < l.length ∧ rd l ((a + n : Nat) : Int) = rd l (a : Int) then alkF l a f (n + 1) else n
theorem alkF_le (l : List Int) (a : Nat) : ∀ f n, a + n ≤ l.length → n ≤ alkF l a f n ∧ a + alkF l a f n ≤ l.length
  | 0, n, h => ⟨Nat.le_refl _, h⟩
  | f + 1, n, h => by
    unfold alkF
    split
    · rename_i hc
      have := alkF_le l a f (n + 1) (by omega)
      omega
    · exact ⟨Nat.le_refl _, h⟩
def alk (l : List Int) (a : Nat) : Nat := alkF l a (l.length - a) 0
theorem alk_le (l : List Int) (a : Nat) (h : a < l.length) : 1 ≤ alk l a ∧ a + alk l a ≤ l.length := by
  unfold alk
  obtain ⟨f, hf⟩ : ∃ f, l.length - a = f + 1 := ⟨l.length - a - 1, by omega⟩
  rw [hf]
  unfold alkF
  rw [if_pos ⟨by omega, by simp⟩]
  have := alkF_le l a f 1 (by omega)
  omega
theorem impl_alike_ev (l : List Int) (hl : l.length ≤ 1048576) (a : Nat) (h : a < l.length) : Ev (fun k => impl_alikeFrom.f k l (a : Int)) (alk l a : Int) := by
  unfold impl_alikeFrom.f alk
  have key : ∀ f n : Nat, a + n ≤ l.length → l.length - (a + n) ≤ f → Ev (fun k => impl_alikeFrom.l0 k l (a : Int) (n : Int)) (alkF l a f n : Int) := by
    intro f
    induction f with
    | zero =>
      intro n h1 h2
      refine Ev.step (fun k => by rw [impl_alikeFrom.l0]) ?_
      rw [wrap64_id (x := (a : Int) + n) (by omega) (by omega)]
      exact Ev.neg (by omega) (Ev.now _)
    | succ f ih =>
      intro n h1 h2
      refine Ev.step (fun k => by rw [impl_alikeFrom.l0]) ?_
      rw [wrap64_id (x := (a : Int) + n) (by omega) (by omega)]
      unfold alkF
      have e : ((a + n : Nat) : Int) = (a : Int) + n := by omega
      by_cases hlt : a + n < l.length
      · by_cases he : rd l ((a : Int) + n) = rd l (a : Int)
        · rw [if_pos ⟨hlt, by rw [e]; exact he⟩]
          refine Ev.pos (by omega) (Ev.pos (by omega) (Ev.pos (by omega) (Ev.pos (by omega) (Ev.pos he ?_))))
          rw [wrap64_id (x := (n : Int) + 1) (by omega) (by omega)]
          simpa using ih (n + 1) (by omega) (by omega)
        · rw [if_neg (by rw [e]; exact fun h => he h.2)]
          exact Ev.pos (by omega) (Ev.pos (by omega) (Ev.pos (by omega) (Ev.pos (by omega) (Ev.neg he (Ev.now _)))))
      · rw [if_neg (fun h => hlt h.1)]
        exact Ev.neg (by omega) (Ev.now _)
  simpa using key (l.length - a) 0 (by omega) (by omega)
/-- How many groups are taken from a place on. -/
def grpF (l : List Int) (a : Nat) : Nat → Nat → Nat
  | 0, g => g
  | f + 1, g => if a + 8 * g < l.length ∧ alk l (a + 8 * g) < 8 then grpF l a f (g + 1) else g
theorem grpF_le (l : List Int) (a : Nat) : ∀ f g, 1 ≤ g → a + 8 * (g - 1) < l.length → 1 ≤ grpF l a f g ∧ a + 8 * (grpF l a f g - 1) < l.length
  | 0, g, h, h2 => ⟨h, h2⟩
  | f + 1, g, h, h2 => by
    unfold grpF
    split
    · exact grpF_le l a f (g + 1) (by omega) (by rw [Nat.add_sub_cancel]; omega)
    · exact ⟨h, h2⟩
theorem impl_groups_ev (l : List Int) (hl : l.length ≤ 1048576) (a : Nat) : ∀ f g : Nat, 1 ≤ g → a + 8 * (g - 1) < l.length → l.length - (a + 8 * g) ≤ f → Ev (fun k => impl_groupsFrom.l0 k l (a : Int) (g : Int)) (grpF l a f g : Int) := by
  intro f
  induction f with
  | zero =>
    intro g h1 h2 h3
    refine Ev.step (fun k => by rw [impl_groupsFrom.l0]) ?_
    rw [wrap64_id (x := 8 * (g : Int)) (by omega) (by omega), wrap64_id (x := (a : Int) + 8 * (g : Int)) (by omega) (by omega)]
    exact Ev.neg (by omega) (Ev.now _)
  | succ f ih =>
    intro g h1 h2 h3
    refine Ev.step (fun k => by rw [impl_groupsFrom.l0]) ?_
    rw [wrap64_id (x := 8 * (g : Int)) (by omega) (by omega), wrap64_id (x := (a : Int) + 8 * (g : Int)) (by omega) (by omega)]
    unfold grpF
    by_cases hlt : a + 8 * g < l.length
    · have e : (a : Int) + 8 * (g : Int) = ((a + 8 * g : Nat) : Int) := by omega
      refine Ev.pos (by omega) ?_
      rw [e]
      refine Ev.bind (impl_alike_ev l hl _ hlt) ?_
      by_cases h8 : alk l (a + 8 * g) < 8
      · rw [if_pos ⟨hlt, h8⟩]
        refine Ev.pos (by omega) ?_
        rw [wrap64_id (x := (g : Int) + 1) (by omega) (by omega)]
        simpa using ih (g + 1) (by omega) (by rw [Nat.add_sub_cancel]; omega) (by omega)
      · rw [if_neg (fun h => h8 h.2)]
        exact Ev.neg (by omega) (Ev.now _)
    · rw [if_neg (fun h => hlt h.1)]
      exact Ev.neg (by omega) (Ev.now _)
/-- The numbers of m places from a place on, zeros behind the end. -/
def padAt (l : List Int) (a j : Nat) : Int := if a + j < l.length then rd l ((a + j : Nat) : Int) else 0
def numsAt (l : List Int) (a m : Nat) : List Int := (List.range m).map fun (j : Nat) => padAt l a j
theorem numsAt_length (l : List Int) (a m : Nat) : (numsAt l a m).length = m := by simp [numsAt]
theorem numsAt_copy (l : List Int) (a m : Nat) : copyL (List.replicate m 0) (l.drop a) = numsAt l a m := by
  apply List.ext_getElem?
  intro j
  unfold copyL numsAt padAt
  simp only [List.length_replicate, List.length_drop]
  by_cases hm : j < m
  · by_cases hj : a + j < l.length
    · have e : rd l ((a : Int) + (j : Int)) = l[a + j] := by
        have h1 : (a : Int) + (j : Int) = ((a + j : Nat) : Int) := by omega
        rw [h1]; exact rd_eq (by rw [Int.toNat_natCast]; exact hj)
      rw [List.getElem?_append_left (by simp; omega), List.getElem?_take, if_pos hm, List.getElem?_drop, List.getElem?_eq_getElem hj]
      simp [hm, hj, e]
    · rw [List.getElem?_append_right (by simp; omega)]
      simp [hm, hj, List.getElem?_replicate]
      omega
  · rw [List.getElem?_eq_none (by simp; omega), List.getElem?_eq_none (by simp; omega)]
theorem bitsR_le (l : List Int) (w : Nat) : (bitsR l w).length = (l.length * w + 7) / 8 := (bitsR_ok l w).1
/-- A number takes at most w bits. -/
theorem blF_le_iff : ∀ (f n w : Nat), n < 2 ^ f → (blF f n ≤ w ↔ n < 2 ^ w)
  | 0, n, w, h => by
    obtain rfl : n = 0 := by simpa using h
    exact ⟨fun _ => Nat.two_pow_pos w, fun _ => by simp [blF]⟩
  | f + 1, n, w, h => by
    unfold blF
    by_cases h0 : n = 0
    · rw [if_pos h0, h0]
      exact ⟨fun _ => Nat.two_pow_pos w, fun _ => Nat.zero_le _⟩
    · rw [if_neg h0]
      cases w with
      | zero => constructor
                · intro h; omega
                · intro h; simp at h; omega
      | succ w =>
        have := blF_le_iff f (n / 2) w (by rw [Nat.pow_succ] at h; omega)
        rw [Nat.pow_succ]
        constructor
        · intro h2; have := this.1 (by omega); omega
        · intro h2; have := this.2 (by omega); omega
theorem widB_le (x : Int) (h0 : 0 ≤ x) (h1 : x ≤ 9223372036854775807) (w : Nat) (hw : w ≤ 62) : widB x ≤ (w : Int) ↔ shr .i64 x (w : Int) = 0 := by
  obtain ⟨n, rfl⟩ := Int.eq_ofNat_of_zero_le h0
  have e : ((n : Int) % 18446744073709551616).toNat = n := by omega
  have hk := blF_le_iff 64 n w (by omega)
  unfold widB shr
  rw [e]
  have e2 : min ((w : Int).toNat) IntKind.i64.bits = w := by
    have : IntKind.i64.bits = 64 := rfl
    rw [this, Int.toNat_natCast]; omega
  rw [e2]
  have e3 : ((n : Int) / 2 ^ w) = ((n / 2 ^ w : Nat) : Int) := by push_cast; rfl
  rw [e3]
  have hp := Nat.two_pow_pos w
  constructor
  · intro h
    have : n < 2 ^ w := hk.1 (by omega)
    rw [Nat.div_eq_of_lt this]; rfl
  · intro h
    have h2 : n / 2 ^ w = 0 := by omega
    have : n < 2 ^ w := by
      rcases Nat.div_eq_zero_iff.1 h2 with h3 | h3
      · omega
      · exact h3
    have := hk.2 this
    omega
def bitsIn (w : Nat) (x : Int) : Bool := decide (0 ≤ x) && decide (shr .i64 x (w : Int) = 0)
theorem bitsSize_impl (w : Nat) (hw : w ≤ 24) : impl_BitsSize.f 1 (w : Int) = some (((w + 7) / 8 : Nat) : Int) := by
  unfold impl_BitsSize.f
  simp only [within_some, Option.bind_some]
  rw [decide_eq_true (show (0 : Int) ≤ 1 ∧ (1 : Int) ≤ 2000 by omega), decide_eq_true (show (0 : Int) ≤ (w : Int) ∧ (w : Int) ≤ 62 by omega), if_pos rfl, if_pos rfl]
  rw [Int.one_mul, wrap64_id (x := (w : Int)) (by omega) (by omega), wrap64_id (x := (w : Int) + 7) (by omega) (by omega), Int.tdiv_eq_ediv_of_nonneg (by omega), wrap64_id (by omega) (by omega)]
  congr 1
theorem and_u8_127 (c : Int) (h0 : 0 ≤ c) (h1 : c ≤ 255) : Go.bits .and .u8 c 127 = c % 128 := by
  obtain ⟨n, rfl⟩ := Int.eq_ofNat_of_zero_le h0
  have hn : n < 2 ^ 8 := by omega
  have e := (bits_nat .u8 8 (by decide) (fun m h0 h1 => wraps_u8 m h0 h1) n 127 hn (by decide)).1
  have e2 : n &&& 127 = n % 128 := Nat.and_two_pow_sub_one_eq_mod n 7
  have e3 : Go.bits .and .u8 (n : Int) 127 = ((n &&& 127 : Nat) : Int) := e
  rw [e3, e2]; push_cast; rfl
theorem shl_i64_nat (d j : Nat) (hj : j ≤ 64) : shl .i64 (d : Int) (j : Int) = wrap64 ((d * 2 ^ j : Nat) : Int) := by
  unfold shl
  have e2 : min ((j : Int)).toNat IntKind.i64.bits = j := by
    have : IntKind.i64.bits = 64 := rfl
    omega
  rw [e2, IntKind.wrap_i64]
  push_cast
  unfold wrap64; rfl
theorem shl_u64_nat (d j : Nat) (hj : j ≤ 64) (h : d * 2 ^ j < 2 ^ 64) : shl .u64 (d : Int) (j : Int) = ((d * 2 ^ j : Nat) : Int) := by
  unfold shl
  have e2 : min ((j : Int)).toNat IntKind.u64.bits = j := by
    have : IntKind.u64.bits = 64 := rfl
    omega
  have e3 : ((d : Int) * 2 ^ j) = ((d * 2 ^ j : Nat) : Int) := by push_cast; rfl
  rw [e2, e3, u64_id (by omega) (by omega)]
theorem or_u64_nat (a c : Nat) (ha : a < 2 ^ 64) (hc : c < 2 ^ 64) : Go.bits .or .u64 (a : Int) (c : Int) = ((a ||| c : Nat) : Int) :=
  (bits_nat .u64 64 (by decide) (fun m h0 h1 => u64_id h0 (by simpa using h1)) a c ha hc).2
theorem rd_byte (b : List Int) (hb : ∀ x ∈ b, 0 ≤ x ∧ x ≤ 255) (j : Int) : 0 ≤ rd b j ∧ rd b j ≤ 255 := by
  by_cases h : j.toNat < b.length
  · rw [rd_eq h]; exact hb _ (List.getElem_mem h)
  · unfold rd; rw [List.getD_eq_getElem?_getD, List.getElem?_eq_none (by omega)]; simp
theorem and_u8_one (c : Int) (h0 : 0 ≤ c) (h1 : c ≤ 255) : Go.bits .and .u8 c 1 = c % 2 := by
  obtain ⟨n, rfl⟩ := Int.eq_ofNat_of_zero_le h0
  have hn : n < 2 ^ 8 := by omega
  have e := (bits_nat .u8 8 (by decide) (fun m h0 h1 => wraps_u8 m h0 h1) n 1 hn (by decide)).1
  have e2 : n &&& 1 = n % 2 := Nat.and_two_pow_sub_one_eq_mod n 1
  have e3 : Go.bits .and .u8 (n : Int) 1 = ((n &&& 1 : Nat) : Int) := e
  rw [e3, e2]; push_cast; rfl
/-- The bit number p of bytes. -/
def bitV (b : List Int) (p : Nat) : Int := (shr .i64 (rd b ((p / 8 : Nat) : Int)) ((p % 8 : Nat) : Int)) % 2
theorem impl_bit (b : List Int) (hb : ∀ x ∈ b, 0 ≤ x ∧ x ≤ 255) (p : Nat) (hp : p / 8 < b.length) (hl : b.length ≤ 1048576) : impl_BitAt.f b (p : Int) = some (bitV b p) := by
  unfold impl_BitAt.f bitV
  rw [Int.tdiv_eq_ediv_of_nonneg (by omega), Int.tmod_eq_emod_of_nonneg (by omega)]
  have e1 : wrap64 ((p : Int) / 8) = ((p / 8 : Nat) : Int) := by rw [wrap64_id (by omega) (by omega)]; omega
  have e2 : (p : Int) % 8 = ((p % 8 : Nat) : Int) := by omega
  have hd := rd_byte b hb ((p / 8 : Nat) : Int)
  rw [e1, e2, if_neg (by omega), if_neg (by omega), if_pos (by omega), if_pos (by omega), if_pos (by omega)]
  generalize rd b ((p / 8 : Nat) : Int) = d at hd
  have hm : p % 8 < 8 := Nat.mod_lt _ (by omega)
  generalize p % 8 = j at hm
  have s1 : shr .u8 d (j : Int) = d / 2 ^ j := by
    unfold shr
    have : min ((j : Int)).toNat IntKind.u8.bits = j := by
      have : IntKind.u8.bits = 8 := rfl
      omega
    rw [this]
  have s2 : shr .i64 d (j : Int) = d / 2 ^ j := by
    unfold shr
    have : min ((j : Int)).toNat IntKind.i64.bits = j := by
      have : IntKind.i64.bits = 64 := rfl
      omega
    rw [this]
  have p0 : (0 : Int) < 2 ^ j := Int.pow_pos (by omega)
  have q0 : 0 ≤ d / 2 ^ j := Int.ediv_nonneg hd.1 (by omega)
  have q1 : d / 2 ^ j ≤ 255 := Int.le_trans (Int.ediv_le_self _ hd.1) hd.2
  rw [s1, s2, and_u8_one _ q0 q1, wrap64_id (by omega) (by omega)]
def ubit (b : List Int) (at_ w i k : Nat) (x : Int) : Int := Go.bits .or .i64 x (shl .i64 (bitV b (8 * at_ + i * w + k)) (k : Int))
def unum (b : List Int) (at_ w i : Nat) : Int := (List.range w).foldl (fun x k => ubit b at_ w i k x) 0
theorem bit_place (at_ w i k c L : Nat) (h : at_ + c * w ≤ L) (hi : i < 8 * c) (hk : k < w) : (8 * at_ + i * w + k) / 8 < L ∧ i * w + k < 8 * (c * w) := by
  have h1 : (i + 1) * w ≤ (8 * c) * w := Nat.mul_le_mul_right _ hi
  rw [Nat.add_mul, Nat.one_mul, Nat.mul_assoc] at h1
  omega
theorem place_eq (at_ w i k : Nat) (h1 : at_ ≤ 1048576) (h2 : i * w + k ≤ 10000000) : wrap64 ((wrap64 ((wrap64 (8 * (at_ : Int))) + (wrap64 ((i : Int) * (w : Int))))) + (k : Int)) = ((8 * at_ + i * w + k : Nat) : Int) := by
  have hc : ((i : Int) * (w : Int)) = ((i * w : Nat) : Int) := by push_cast; rfl
  rw [hc, wrap64_id (x := 8 * (at_ : Int)) (by omega) (by omega), wrap64_id (x := ((i * w : Nat) : Int)) (by omega) (by omega), wrap64_id (x := 8 * (at_ : Int) + ((i * w : Nat) : Int)) (by omega) (by omega), wrap64_id (by omega) (by omega)]
  push_cast; rfl
theorem impl_unpacked_ev (b : List Int) (hb : ∀ x ∈ b, 0 ≤ x ∧ x ≤ 255) (hl : b.length ≤ 1048576) (at_ w c m : Nat) (hw : w ≤ 24) (hc : c ≤ 2000) (h : at_ + c * w ≤ b.length) (hm : m ≤ 8 * c) :
    Ev (fun k => impl_unpacked.f k b (at_ : Int) (m : Int) (w : Int)) ((List.range m).map (fun i => unum b at_ w i)) := by
  unfold impl_unpacked.f
  have hcw : c * w ≤ 2000 * 24 := Nat.mul_le_mul hc hw
  refine append_loop (fun k out i => impl_unpacked.l0 k b (at_ : Int) (w : Int) out (m : Int) i) (fun i => unum b at_ w i) m _ (fun i s hi hs hr => ?_) ?_
  · refine Ev.step (fun k => by rw [impl_unpacked.l0]) ?_
    refine Ev.pos (by omega) ?_
    refine loop_cps (fun k x j => impl_unpacked.l1 k b (at_ : Int) (w : Int) s (i : Int) x (m : Int) (i : Int) (w : Int) j) (fun k x => ubit b at_ w i k x) w _ (fun k x hk hr2 => ?_) 0 ?_
    · obtain ⟨p1, p2⟩ := bit_place at_ w i k c b.length h (by omega) hk
      refine Ev.step (fun k => by rw [impl_unpacked.l1]) ?_
      rw [place_eq at_ w i k (by omega) (by omega), wrap64_id (x := (k : Int) + 1) (by omega) (by omega)]
      have e : ((k + 1 : Nat) : Int) = (k : Int) + 1 := by push_cast; rfl
      rw [e] at hr2
      exact Ev.pos (by omega) (Ev.here (impl_bit b hb _ p1 hl) (Ev.pos (by omega) hr2))
    · refine Ev.step (fun k => by rw [impl_unpacked.l1]) ?_
      rw [wrap64_id (x := (i : Int) + 1) (by omega) (by omega)]
      have e : ((i + 1 : Nat) : Int) = (i : Int) + 1 := by push_cast; rfl
      rw [e] at hr
      exact Ev.neg (by omega) (Ev.pos (by omega) hr)
  · exact Ev.step (fun k => by rw [impl_unpacked.l0]) (by exact Ev.neg (by omega) (Ev.now _))
theorem impl_fill (b : List Int) (nx many w : Int) (x : Int) (out : List Int) (m : Nat) (ho : out.length ≤ 2000) (hm : m ≤ 2000) (r) (h : Ev (fun k => impl_RunRead.l0 k b nx many w (out ++ List.replicate m x)) r) :
    Ev (fun k => impl_RunRead.l1 k b many w out x nx (m : Int) 0) r := by
  have key : ∀ (d i : Nat), i + d = m → Ev (fun k => impl_RunRead.l1 k b many w (out ++ List.replicate i x) x nx (m : Int) (i : Int)) r := by
    intro d
    induction d with
    | zero =>
      intro i hi
      obtain rfl : i = m := by omega
      exact Ev.step (fun k => by rw [impl_RunRead.l1]) (by exact Ev.neg (by omega) h)
    | succ d ih =>
      intro i hi
      refine Ev.step (fun k => by rw [impl_RunRead.l1]) ?_
      refine Ev.pos (by omega) (Ev.pos (by simp; omega) ?_)
      rw [wrap64_id (x := (i : Int) + 1) (by omega) (by omega), List.append_assoc, ← List.replicate_succ']
      have := ih (i + 1) (by omega)
      simpa using this
  have := key m 0 (by omega)
  simpa using this
theorem mn_nat (a b : Int) (m : Nat) (h : (m : Int) = min a b) : mn a b = (m : Int) := by
  unfold mn; split <;> omega
/-! ### Bits: what is put is what is read -/
theorem rd_set (out : List Int) (a : Nat) (v : Int) (q : Nat) (ha : a < out.length) : rd (out.set a v) (q : Int) = if q = a then v else rd out (q : Int) := by
  unfold rd
  rw [Int.toNat_natCast, List.getD_eq_getElem?_getD, List.getD_eq_getElem?_getD, List.getElem?_set]
  by_cases h : q = a
  · subst h; rw [if_pos rfl, if_pos ha, if_pos rfl]; rfl
  · rw [if_neg (fun h2 => h h2.symm), if_neg h]
theorem shr_bit (n k : Nat) (hk : k ≤ 62) : (shr .i64 (n : Int) (k : Int)) % 2 = if n.testBit k = true then 1 else 0 := by
  unfold shr
  have e : min ((k : Int).toNat) IntKind.i64.bits = k := by
    have : IntKind.i64.bits = 64 := rfl
    rw [this, Int.toNat_natCast]; omega
  have e3 : ((n : Int) / 2 ^ k) = ((n / 2 ^ k : Nat) : Int) := by push_cast; rfl
  rw [e, e3, Nat.testBit_eq_decide_div_mod_eq]
  by_cases h : n / 2 ^ k % 2 = 1
  · rw [if_pos (decide_eq_true h)]; omega
  · rw [if_neg (by simpa using h)]; omega
theorem or_u8_nat (a c : Nat) (ha : a < 256) (hc : c < 256) : Go.bits .or .u8 (a : Int) (c : Int) = ((a ||| c : Nat) : Int) := by
  have e : Go.bits .or .u8 (a : Int) (c : Int) = IntKind.u8.wrap (((BitVec.ofInt 8 (a : Int) ||| BitVec.ofInt 8 (c : Int)).toNat : Nat) : Int) := rfl
  have h : a ||| c < 2 ^ 8 := Nat.or_lt_two_pow (by omega) (by omega)
  rw [e, BitVec.ofInt_natCast, BitVec.ofInt_natCast, BitVec.toNat_or, BitVec.toNat_ofNat, BitVec.toNat_ofNat, Nat.mod_eq_of_lt (by omega), Nat.mod_eq_of_lt (by omega), IntKind.wrap_u8]
  omega
theorem shl_u8_bit (d j : Nat) (hd : d ≤ 1) (hj : j < 8) : shl .u8 (d : Int) (j : Int) = ((d * 2 ^ j : Nat) : Int) := by
  unfold shl
  have e : min ((j : Int).toNat) IntKind.u8.bits = j := by
    have : IntKind.u8.bits = 8 := rfl
    rw [this, Int.toNat_natCast]; omega
  have h1 : 2 ^ j ≤ 2 ^ 7 := Nat.pow_le_pow_right (by omega) (by omega)
  have h2 : d * 2 ^ j ≤ 1 * 2 ^ j := Nat.mul_le_mul_right _ hd
  have e2 : ((d : Int) * 2 ^ j) = ((d * 2 ^ j : Nat) : Int) := by push_cast; rfl
  rw [e, e2, IntKind.wrap_u8]; omega
def tb (out : List Int) (p : Nat) : Bool := (rd out ((p / 8 : Nat) : Int)).toNat.testBit (p % 8)
def nb (l : List Int) (i k : Nat) : Bool := (rd l (i : Int)).toNat.testBit k
theorem tb_put {n : Nat} {l : List Int} {w i k : Nat} {out : List Int} (h : BOk n out) (hx : 0 ≤ rd l (i : Int)) (hk : k ≤ 62) (hP : (i * w + k) / 8 < n) (p : Nat) :
    tb (bput l w i k out) p = if p = i * w + k then (tb out p || nb l i k) else tb out p := by
  unfold tb bput nb
  have hl : (i * w + k) / 8 < out.length := by rw [h.1]; exact hP
  have hm := h.2 _ (List.getElem_mem hl)
  have er : rd out (((i * w + k) / 8 : Nat) : Int) = out[(i * w + k) / 8] := rd_eq (by omega)
  rw [rd_set _ _ _ _ hl]
  obtain ⟨X, hX⟩ := Int.eq_ofNat_of_zero_le hx
  obtain ⟨D, hD⟩ := Int.eq_ofNat_of_zero_le hm.1
  generalize hPP : i * w + k = P at *
  rw [hX, Int.toNat_natCast, shr_bit X k hk, er, hD]
  have hj : P % 8 < 8 := Nat.mod_lt _ (by omega)
  have hbit : ∃ d : Nat, d ≤ 1 ∧ (if X.testBit k = true then (1 : Int) else 0) = (d : Int) ∧ (d = 1 ↔ X.testBit k = true) := by
    cases hb : X.testBit k
    · exact ⟨0, by omega, by simp, by simp⟩
    · exact ⟨1, by omega, by simp, by simp⟩
  obtain ⟨d, hd1, hd2, hd3⟩ := hbit
  have h2p : 2 ^ (P % 8) ≤ 2 ^ 7 := Nat.pow_le_pow_right (by omega) (by omega)
  have hdp : d * 2 ^ (P % 8) ≤ 1 * 2 ^ (P % 8) := Nat.mul_le_mul_right _ hd1
  rw [hd2, shl_u8_bit d (P % 8) hd1 hj, or_u8_nat D _ (by omega) (by omega)]
  by_cases hq : p / 8 = P / 8
  · rw [if_pos hq, Int.toNat_natCast, Nat.testBit_or, hq, er, hD, Int.toNat_natCast]
    have hbitq : (d * 2 ^ (P % 8)).testBit (p % 8) = (decide (d = 1) && decide (P % 8 = p % 8)) := by
      rcases (show d = 0 ∨ d = 1 by omega) with rfl | rfl
      · simp
      · rw [Nat.one_mul, Nat.testBit_two_pow]; simp
    rw [hbitq]
    by_cases hp : p = P
    · subst hp
      rw [if_pos rfl]
      have : decide (d = 1) = X.testBit k := by
        cases hb : X.testBit k
        · exact decide_eq_false (fun hc => by rw [hd3.1 hc] at hb; cases hb)
        · exact decide_eq_true (hd3.2 hb)
      rw [this]; simp
    · rw [if_neg hp, decide_eq_false (show ¬ P % 8 = p % 8 by omega)]
      simp
  · rw [if_neg hq, if_neg (fun hc => hq (by rw [hc]))]
def TInv (l : List Int) (w n m : Nat) (out : List Int) : Prop := BOk n out ∧ ∀ p, tb out p = (decide (p < m) && nb l (p / w) (p % w))
theorem bits_inv (l : List Int) (w : Nat) (hw0 : 0 < w) (hw : w ≤ 62) (hx : ∀ i : Nat, 0 ≤ rd l (i : Int)) : TInv l w ((l.length * w + 7) / 8) (l.length * w) (bitsR l w) := by
  have key : ∀ i, i ≤ l.length → TInv l w ((l.length * w + 7) / 8) (i * w) ((List.range i).foldl (fun o i => brow l w i o) (List.replicate ((l.length * w + 7) / 8) 0)) := by
    intro i
    induction i with
    | zero =>
      intro _
      refine ⟨⟨by simp, fun x hx => by obtain rfl := List.eq_of_mem_replicate hx; omega⟩, fun p => ?_⟩
      have : rd (List.replicate ((l.length * w + 7) / 8) 0) ((p / 8 : Nat) : Int) = 0 := by
        unfold rd
        rw [List.getD_eq_getElem?_getD, Int.toNat_natCast, List.getElem?_replicate]
        split <;> rfl
      have e : tb (List.replicate ((l.length * w + 7) / 8) 0) p = false := by unfold tb; rw [this]; simp
      show tb (List.replicate _ 0) p = _
      rw [e]; simp
    | succ i ih =>
      intro hi
      rw [List.range_succ, List.foldl_append]
      have h0 := ih (by omega)
      generalize (List.range i).foldl (fun o i => brow l w i o) (List.replicate ((l.length * w + 7) / 8) 0) = out at h0
      have hrow : (i + 1) * w ≤ l.length * w := Nat.mul_le_mul_right _ hi
      rw [Nat.add_mul, Nat.one_mul] at hrow
      have row : ∀ k, k ≤ w → TInv l w ((l.length * w + 7) / 8) (i * w + k) ((List.range k).foldl (fun o k => bput l w i k o) out) := by
        intro k
        induction k with
        | zero => intro _; exact h0
        | succ k ihk =>
          intro hk
          obtain ⟨hB, hT⟩ := ihk (by omega)
          rw [List.range_succ, List.foldl_append]
          refine ⟨bput_ok hB, fun p => ?_⟩
          show tb (bput l w i k _) p = _
          rw [tb_put hB (hx i) (by omega) (by omega) p, hT p]
          by_cases hp : p = i * w + k
          · subst hp
            have e1 : (i * w + k) / w = i := by rw [Nat.mul_comm i w, Nat.mul_add_div hw0, Nat.div_eq_of_lt (by omega), Nat.add_zero]
            have e2 : (i * w + k) % w = k := by rw [Nat.mul_comm i w, Nat.mul_add_mod, Nat.mod_eq_of_lt (by omega)]
            rw [if_pos rfl, e1, e2, decide_eq_false (show ¬ i * w + k < i * w + k by omega), decide_eq_true (show i * w + k < i * w + (k + 1) by omega)]
            simp
          · rw [if_neg hp]
            have : decide (p < i * w + k) = decide (p < i * w + (k + 1)) := by
              apply decide_eq_decide.2; omega
            rw [this]
      have := row w (Nat.le_refl _)
      rw [Nat.add_mul, Nat.one_mul]
      exact this
  exact key l.length (Nat.le_refl _)
theorem rd_app (a b c : List Int) (q : Nat) (hq : q < b.length) : rd (a ++ b ++ c) ((a.length + q : Nat) : Int) = rd b (q : Int) := by
  rw [rd_eq (by simp; omega), rd_eq (by omega)]
  simp only [Int.toNat_natCast]
  rw [List.getElem_append_left (by simp; omega), List.getElem_append_right (by omega)]
  simp
theorem bitV_back (pre suf : List Int) (l : List Int) (w : Nat) (hw0 : 0 < w) (hw : w ≤ 62) (hx : ∀ i : Nat, 0 ≤ rd l (i : Int)) (i k : Nat) (hi : i < l.length) (hk : k < w) :
    bitV (pre ++ bitsR l w ++ suf) (8 * pre.length + i * w + k) = if (rd l (i : Int)).toNat.testBit k = true then 1 else 0 := by
  obtain ⟨hB, hT⟩ := bits_inv l w hw0 hw hx
  have hrow : (i + 1) * w ≤ l.length * w := Nat.mul_le_mul_right _ hi
  rw [Nat.add_mul, Nat.one_mul] at hrow
  have h1 := hT (i * w + k)
  have e1 : (i * w + k) / w = i := by rw [Nat.mul_comm i w, Nat.mul_add_div hw0, Nat.div_eq_of_lt (by omega), Nat.add_zero]
  have e2 : (i * w + k) % w = k := by rw [Nat.mul_comm i w, Nat.mul_add_mod, Nat.mod_eq_of_lt (by omega)]
  rw [e1, e2, decide_eq_true (by omega), Bool.true_and] at h1
  unfold tb nb at h1
  unfold bitV
  have e3 : (8 * pre.length + i * w + k) / 8 = pre.length + (i * w + k) / 8 := by omega
  have e4 : (8 * pre.length + i * w + k) % 8 = (i * w + k) % 8 := by omega
  have hq : (i * w + k) / 8 < (bitsR l w).length := by rw [hB.1]; omega
  rw [e3, e4, rd_app _ _ _ _ hq]
  have hm := rd_byte (bitsR l w) hB.2 (((i * w + k) / 8 : Nat) : Int)
  obtain ⟨D, hD⟩ := Int.eq_ofNat_of_zero_le hm.1
  rw [hD, Int.toNat_natCast] at h1
  rw [hD, shr_bit D _ (by omega), h1]
theorem unum_back (b : List Int) (at_ w i X : Nat) (hw : w ≤ 24) (h : ∀ k, k < w → bitV b (8 * at_ + i * w + k) = if X.testBit k = true then 1 else 0) (hX : X < 2 ^ w) : unum b at_ w i = (X : Int) := by
  have key : ∀ m, m ≤ w → (List.range m).foldl (fun x k => ubit b at_ w i k x) 0 = ((X % 2 ^ m : Nat) : Int) := by
    intro m
    induction m with
    | zero => intro _; simp [Nat.mod_one]
    | succ m ih =>
      intro hm
      rw [List.range_succ, List.foldl_append, ih (by omega)]
      show ubit b at_ w i m _ = _
      unfold ubit
      rw [h m (by omega)]
      have hp : 2 ^ m ≤ 2 ^ 23 := Nat.pow_le_pow_right (by omega) (by omega)
      have hp0 : 0 < 2 ^ m := Nat.two_pow_pos m
      have hd : (if X.testBit m = true then (1 : Int) else 0) = ((X / 2 ^ m % 2 : Nat) : Int) := by
        rw [Nat.testBit_eq_decide_div_mod_eq]
        by_cases hb : X / 2 ^ m % 2 = 1
        · rw [if_pos (decide_eq_true hb), hb]; rfl
        · rw [if_neg (by simpa using hb)]; omega
      have hlt : X / 2 ^ m % 2 < 2 := Nat.mod_lt _ (by omega)
      have hmul : X / 2 ^ m % 2 * 2 ^ m ≤ 1 * 2 ^ m := Nat.mul_le_mul_right _ (by omega)
      have hml : X % 2 ^ m < 2 ^ m := Nat.mod_lt _ hp0
      rw [hd, shl_i64_nat _ m (by omega), wrap64_id (by omega) (by omega), bits_or_nat _ _ (by omega) (by omega), or_digit m _ _ hml, Nat.pow_succ, Nat.mod_mul, Nat.mul_comm (2 ^ m)]
  have := key w (Nat.le_refl _)
  unfold unum
  rw [this, Nat.mod_eq_of_lt hX]
theorem bits_back (pre suf l : List Int) (w : Nat) (hw : w ≤ 24) (hx : ∀ i : Nat, 0 ≤ rd l (i : Int) ∧ rd l (i : Int) < 2 ^ w) (i : Nat) (hi : i < l.length) : unum (pre ++ bitsR l w ++ suf) pre.length w i = rd l (i : Int) := by
  obtain ⟨h0, h1⟩ := hx i
  obtain ⟨X, hX⟩ := Int.eq_ofNat_of_zero_le h0
  have hXl : X < 2 ^ w := by
    rw [hX] at h1
    have e9 : (2 : Int) ^ w = ((2 ^ w : Nat) : Int) := by push_cast; rfl
    rw [e9] at h1; omega
  rw [hX]
  refine unum_back _ _ w i X hw (fun k hk => ?_) hXl
  have := bitV_back pre suf l w (by omega) (by omega) (fun i => (hx i).1) i k hi hk
  rw [hX, Int.toNat_natCast] at this
  exact this
/-! ### Runs: what is told is read -/
theorem and_one_i (x : Int) : Go.bits .and .i64 x 1 = x % 2 := bits_and_mask x 1 1 (by omega) rfl
theorem impl_UvarPut_small (x : Nat) (h : x ≤ 127) : Ev (fun k => impl_UvarPut.f k (x : Int)) [(x : Int)] := by
  unfold impl_UvarPut.f
  rw [u64_id (by omega) (by omega)]
  refine Ev.step (fun k => by rw [impl_UvarPut.l0]) ?_
  refine Ev.neg (by omega) (Ev.pos (by simp) (Ev.const ?_))
  have : (x : Int) % 256 = x := by omega
  simp [this]
theorem impl_UvarGet_small (b : List Int) (hl : b.length ≤ 1048576) (a x : Nat) (ha : a < b.length) (hx : x ≤ 127) (hr : rd b (a : Int) = (x : Int)) : Ev (fun k => impl_UvarGet.f k b (a : Int)) ((x : Int), (a : Int) + 1, true) := by
  unfold impl_UvarGet.f
  refine Ev.neg (by omega) ?_
  have w1 : wrap64 ((b.length : Int) - (a : Int)) = b.length - a := wrap64_id (by omega) (by omega)
  have w2 : wrap64 ((a : Int) + 0) = a := by rw [wrap64_id (by omega) (by omega)]; omega
  refine Ev.step (fun k => by rw [impl_UvarGet.l0]) ?_
  refine Ev.pos (by omega) ?_
  rw [decide_eq_true (by omega)]
  refine Ev.step (fun k => by rw [impl_UvarGet.j1]) ?_
  rw [w2]
  refine Ev.pos rfl (Ev.pos (by omega) (Ev.pos (by omega) (Ev.neg (by omega) ?_)))
  refine Ev.step (fun k => by rw [impl_UvarGet.j2]) ?_
  rw [hr]
  refine Ev.neg (by decide) (Ev.pos (by unfold wrap64; omega) (Ev.pos (by omega) (Ev.const ?_)))
  have e0 : wrap64 (7 * (0 : Int)) = ((0 : Nat) : Int) := by unfold wrap64; omega
  have e1 : Go.bits .and .u8 (x : Int) 127 = ((x : Nat) : Int) := by rw [and_u8_127 _ (by omega) (by omega)]; omega
  have e2 : shl .u64 ((x : Nat) : Int) ((0 : Nat) : Int) = ((x * 2 ^ 0 : Nat) : Int) := shl_u64_nat x 0 (by omega) (by omega)
  have e3 : Go.bits .or .u64 ((0 : Nat) : Int) ((x * 2 ^ 0 : Nat) : Int) = ((0 ||| x * 2 ^ 0 : Nat) : Int) := or_u64_nat 0 _ (by omega) (by omega)
  have e4 : (0 ||| x * 2 ^ 0 : Nat) = x := by simp
  rw [e0, e1, u64_id (by omega) (by omega), e2]
  have e5 : Go.bits .or .u64 0 ((x * 2 ^ 0 : Nat) : Int) = (x : Int) := by
    have := e3; rw [e4] at this; exact this
  rw [e5, w2, wrap64_id (x := (x : Int)) (by omega) (by omega), wrap64_id (x := (a : Int) + 1) (by omega) (by omega)]
theorem alkF_same (l : List Int) (a : Nat) : ∀ f n, (∀ j, j < n → rd l ((a + j : Nat) : Int) = rd l (a : Int)) → ∀ j, j < alkF l a f n → rd l ((a + j : Nat) : Int) = rd l (a : Int)
  | 0, n, h => h
  | f + 1, n, h => by
    unfold alkF
    split
    · rename_i hc
      refine alkF_same l a f (n + 1) (fun j hj => ?_)
      by_cases hjn : j = n
      · subst hjn; exact hc.2
      · exact h j (by omega)
    · exact h
theorem alk_same (l : List Int) (a : Nat) : ∀ j, j < alk l a → rd l ((a + j : Nat) : Int) = rd l (a : Int) := alkF_same l a _ 0 (fun j hj => by omega)
theorem take_rep (l : List Int) (a n : Nat) (x : Int) (h : a + n ≤ l.length) (hx : ∀ j, j < n → rd l ((a + j : Nat) : Int) = x) : l.take a ++ List.replicate n x = l.take (a + n) := by
  apply List.ext_getElem
  · simp; omega
  · intro j h1 h2
    simp only [List.length_append, List.length_take, List.length_replicate] at h1
    by_cases hj : j < a
    · rw [List.getElem_append_left (by simp; omega), List.getElem_take, List.getElem_take]
    · rw [List.getElem_append_right (by simp; omega), List.getElem_replicate, List.getElem_take]
      have := hx (j - a) (by omega)
      rw [rd_eq (by omega)] at this
      simp only [Int.toNat_natCast] at this
      rw [← this]
      congr 1
      omega
theorem take_map (l : List Int) (a m : Nat) (g : Nat → Int) (h : a + m ≤ l.length) (hx : ∀ j, j < m → g j = rd l ((a + j : Nat) : Int)) : l.take a ++ (List.range m).map g = l.take (a + m) := by
  apply List.ext_getElem
  · simp; omega
  · intro j h1 h2
    simp only [List.length_append, List.length_take, List.length_map, List.length_range] at h1
    by_cases hj : j < a
    · rw [List.getElem_append_left (by simp; omega), List.getElem_take, List.getElem_take]
    · rw [List.getElem_append_right (by simp; omega), List.getElem_take]
      simp only [List.getElem_map, List.getElem_range, List.length_take]
      have e : min a l.length = a := by omega
      rw [e, hx (j - a) (by omega), rd_eq (by omega)]
      simp only [Int.toNat_natCast]
      congr 1
      omega
theorem numsAt_rd (l : List Int) (a m j : Nat) (hj : j < m) : rd (numsAt l a m) (j : Int) = padAt l a j := by
  rw [rd_eq (by rw [numsAt_length]; omega)]
  simp [numsAt]
theorem padAt_range (l : List Int) (w : Nat) (hx : ∀ i : Nat, 0 ≤ rd l (i : Int) ∧ rd l (i : Int) < 2 ^ w) (a j : Nat) : 0 ≤ padAt l a j ∧ padAt l a j < 2 ^ w := by
  unfold padAt
  split
  · exact hx _
  · have : (0 : Int) < 2 ^ w := Int.pow_pos (by omega)
    exact ⟨Int.le_refl _, this⟩
theorem numsAt_range (l : List Int) (w : Nat) (hx : ∀ i : Nat, 0 ≤ rd l (i : Int) ∧ rd l (i : Int) < 2 ^ w) (a m i : Nat) : 0 ≤ rd (numsAt l a m) (i : Int) ∧ rd (numsAt l a m) (i : Int) < 2 ^ w := by
  by_cases h : i < m
  · rw [numsAt_rd l a m i h]; exact padAt_range l w hx a i
  · have : rd (numsAt l a m) (i : Int) = 0 := by
      unfold rd
      rw [List.getD_eq_getElem?_getD, List.getElem?_eq_none (by rw [numsAt_length]; simp; omega)]; rfl
    have h2 : (0 : Int) < 2 ^ w := Int.pow_pos (by omega)
    rw [this]; exact ⟨Int.le_refl _, h2⟩
theorem runNumber_back (b : List Int) (hl : b.length ≤ 1048576) (w a : Nat) (x : Int) (hw : w ≤ 8) (h0 : 0 ≤ x) (h1 : x < 2 ^ w) (hr : 0 < w → a < b.length ∧ rd b (a : Int) = x) :
    Ev (fun k => impl_runNumber.f k b (a : Int) (w : Int)) (x, (a : Int) + ((w + 7) / 8 : Nat), true) := by
  unfold impl_runNumber.f
  by_cases hw0 : w = 0
  · subst hw0
    have : x = 0 := by simp at h1; omega
    subst this
    exact Ev.pos rfl (Ev.const (by simp))
  obtain ⟨ha, hx⟩ := hr (by omega)
  have e1 : (w + 7) / 8 = 1 := by omega
  refine Ev.neg (by omega) (Ev.here (bitsSize_impl w (by omega)) ?_)
  rw [e1]
  have hx8 : x < 256 := by
    have : (2 : Int) ^ w ≤ 2 ^ 8 := by
      have h := Nat.pow_le_pow_right (show 0 < 2 by omega) hw
      exact_mod_cast h
    omega
  have hg : Ev (fun k => impl_WordGet.f k b (a : Int) ((1 : Nat) : Int)) (x, (a : Int) + 1, true) := by
    unfold impl_WordGet.f
    refine Ev.here (within_some _ _ _) (Ev.pos (by decide) (Ev.neg (by omega) ?_))
    have w8 : wrap64 ((b.length : Int) - ((1 : Nat) : Int)) = b.length - 1 := by rw [wrap64_id (by omega) (by omega)]; omega
    rw [w8, decide_eq_false (by omega)]
    refine Ev.step (fun k => by rw [impl_WordGet.j0]) ?_
    refine Ev.neg (by decide) ?_
    refine Ev.step (fun k => by rw [impl_WordGet.l0]) ?_
    have w9 : wrap64 ((a : Int) + 0) = a := by rw [wrap64_id (by omega) (by omega)]; omega
    have w10 : wrap64 ((0 : Int) + 1) = 1 := by unfold wrap64; omega
    rw [w9, w10]
    refine Ev.pos (by decide) (Ev.pos (by omega) (Ev.pos (by omega) (Ev.pos (by unfold wrap64; omega) ?_)))
    obtain ⟨X, rfl⟩ := Int.eq_ofNat_of_zero_le h0
    rw [hx]
    have e8 : wrap64 (8 * (0 : Int)) = ((0 : Nat) : Int) := by unfold wrap64; omega
    have e3 : Go.bits .or .i64 0 (shl .i64 (wrap64 (X : Int)) (wrap64 (8 * (0 : Int)))) = (X : Int) := by
      rw [e8, wrap64_id (x := (X : Int)) (by omega) (by omega), shl_i64_nat X 0 (by omega), wrap64_id (by omega) (by omega)]
      have := bits_or_nat 0 (X * 2 ^ 0) (by omega) (by omega)
      simpa using this
    rw [e3]
    refine Ev.step (fun k => by rw [impl_WordGet.l0]) ?_
    refine Ev.neg (by decide) (Ev.const ?_)
    have w11 : wrap64 ((a : Int) + ((1 : Nat) : Int)) = (a : Int) + 1 := by rw [wrap64_id (by omega) (by omega)]; omega
    rw [w11]
  refine Ev.bind hg (Ev.pos rfl (Ev.bind (impl_widthOf_ev x) (Ev.neg ?_ (Ev.const ?_))))
  · have hz : shr .i64 x (w : Int) = 0 := by
      obtain ⟨X, rfl⟩ := Int.eq_ofNat_of_zero_le h0
      unfold shr
      have e2 : min ((w : Int).toNat) IntKind.i64.bits = w := by
        have : IntKind.i64.bits = 64 := rfl
        rw [this, Int.toNat_natCast]; omega
      rw [e2]
      exact Int.ediv_eq_zero_of_lt h0 h1
    have := (widB_le x h0 (by omega) w (by omega)).2 hz
    omega
  · simp
theorem impl_WordPut_small (x : Int) (n : Nat) (hn : n ≤ 1) (h0 : 0 ≤ x) (h1 : x < 256) : Ev (fun k => impl_WordPut.f k x (n : Int)) (List.replicate n x) := by
  unfold impl_WordPut.f
  refine Ev.here (within_some _ _ _) ?_
  by_cases hz : n = 0
  · subst hz
    exact Ev.neg (by decide) (Ev.const (by simp))
  obtain rfl : n = 1 := by omega
  refine Ev.pos (by decide) ?_
  refine Ev.step (fun k => by rw [impl_WordPut.l0]) ?_
  refine Ev.pos (by decide) (Ev.pos (by unfold wrap64; omega) (Ev.pos (by simp) ?_))
  refine Ev.step (fun k => by rw [impl_WordPut.l0]) ?_
  refine Ev.neg (by unfold wrap64; omega) (Ev.const ?_)
  obtain ⟨X, rfl⟩ := Int.eq_ofNat_of_zero_le h0
  have e8 : wrap64 (8 * (0 : Int)) = 0 := by unfold wrap64; omega
  have e : shr .i64 (X : Int) 0 = (X : Int) := by unfold shr; simp
  rw [e8, e]
  have : (X : Int) % 256 = X := by omega
  simp [this]
/-- The bytes R tell what stands in l from a on. -/
def RB (l : List Int) (w a : Nat) (R : List Int) : Prop := (∀ x ∈ R, 0 ≤ x ∧ x ≤ 255) ∧ R.length ≤ 40 * (l.length - a) ∧ (∀ out : List Int, out.length + 40 * (l.length - a) ≤ 1000000 → Ev (fun k => impl_RunPack.l0 k l (w : Int) out (a : Int)) (out ++ R, true)) ∧
      (∀ pre suf : List Int, (∀ x ∈ pre, 0 ≤ x ∧ x ≤ 255) → (∀ x ∈ suf, 0 ≤ x ∧ x ≤ 255) → pre.length + R.length + suf.length ≤ 1000000 → Ev (fun k => impl_RunRead.l0 k (pre ++ R ++ suf) (pre.length : Int) (l.length : Int) (w : Int) (l.take a)) (l, ((pre.length + R.length : Nat) : Int), true))
set_option maxHeartbeats 4000000 in
theorem rb_even (l : List Int) (hl : l.length ≤ 21) (w : Nat) (hw : w ≤ 8) (hx : ∀ i : Nat, 0 ≤ rd l (i : Int) ∧ rd l (i : Int) < 2 ^ w) (a : Nat) (hlt : a < l.length) (N : Nat) (hN : N = alk l a) (h8 : 8 ≤ N) (R : List Int) (h : RB l w (a + N) R) : RB l w a ([((2 * N : Nat) : Int)] ++ List.replicate ((w + 7) / 8) (rd l (a : Int)) ++ R) := by
  obtain ⟨hR, hRl, hP, hQ⟩ := h
  have hk := alk_le l a hlt
  have hsame := alk_same l a
  rw [← hN] at hk hsame
  have hxa := hx a
  have hx8 : rd l (a : Int) < 256 := by
    have : (2 : Int) ^ w ≤ 2 ^ 8 := by
      have h := Nat.pow_le_pow_right (show 0 < 2 by omega) hw
      exact_mod_cast h
    omega
  have hs1 : (w + 7) / 8 ≤ 1 := by omega
  have hst : ∀ o : Nat, o + 40 * (l.length - a) ≤ 1000000 → o + 1 + (w + 7) / 8 + 40 * (l.length - (a + N)) ≤ 1000000 := fun o ho => by omega
  have hst2 : 1 + (w + 7) / 8 + R.length ≤ 40 * (l.length - a) := by omega
  obtain ⟨x, hxx⟩ : ∃ x, x = rd l (a : Int) := ⟨_, rfl⟩
  rw [← hxx] at hxa hx8 hsame ⊢
  refine ⟨?_, ?_, fun out ho => ?_, fun pre suf hpre hsuf hlen => ?_⟩
  · intro y hy
    simp only [List.mem_append, List.mem_singleton] at hy
    rcases hy with (h | h) | h
    · omega
    · rw [List.eq_of_mem_replicate h]; omega
    · exact hR y h
  · simp only [List.length_append, List.length_singleton, List.length_replicate]; exact hst2
  · refine Ev.step (fun k => by rw [impl_RunPack.l0]) ?_
    refine Ev.pos (by omega) (Ev.bind (impl_alike_ev l (by omega) a hlt) ?_)
    rw [← hN]
    refine Ev.pos (by omega) ?_
    rw [show wrap64 (2 * (N : Int)) = ((2 * N : Nat) : Int) from (by rw [wrap64_id (by omega) (by omega)]; omega)]
    refine Ev.bind (impl_UvarPut_small (2 * N) (by omega)) (Ev.pos (by simp only [List.length_append, List.length_singleton, List.length_replicate, List.length_map, List.length_range, List.length_take]; omega) (Ev.here rfl (Ev.pos (by omega) (Ev.here (bitsSize_impl w (by omega)) ?_))))
    rw [← hxx]
    refine Ev.bind (impl_WordPut_small x _ hs1 hxa.1 hx8) (Ev.pos (by simp only [List.length_append, List.length_singleton, List.length_replicate, List.length_map, List.length_range, List.length_take]; omega) ?_)
    rw [show wrap64 ((a : Int) + (N : Int)) = ((a + N : Nat) : Int) from (by rw [wrap64_id (by omega) (by omega)]; omega)]
    refine Ev.cast (hP (out ++ [((2 * N : Nat) : Int)] ++ List.replicate ((w + 7) / 8) x) (by simp only [List.length_append, List.length_singleton, List.length_replicate]; exact hst _ ho)) ?_
    simp
  · have eb : pre ++ ([((2 * N : Nat) : Int)] ++ List.replicate ((w + 7) / 8) x ++ R) ++ suf = (pre ++ [((2 * N : Nat) : Int)] ++ List.replicate ((w + 7) / 8) x) ++ R ++ suf := by simp
    have hl2 : (pre ++ [((2 * N : Nat) : Int)] ++ List.replicate ((w + 7) / 8) x).length = pre.length + 1 + (w + 7) / 8 := by simp only [List.length_append, List.length_singleton, List.length_replicate, List.length_take]
    simp only [List.length_append, List.length_singleton, List.length_replicate] at hlen
    have hgo := hQ (pre ++ [((2 * N : Nat) : Int)] ++ List.replicate ((w + 7) / 8) x) suf (by
      intro y hy
      simp only [List.mem_append, List.mem_singleton] at hy
      rcases hy with (h | h) | h
      · exact hpre y h
      · omega
      · rw [List.eq_of_mem_replicate h]; omega) hsuf (by omega)
    rw [eb]
    rw [hl2] at hgo
    obtain ⟨b, hb⟩ : ∃ b, b = (pre ++ [((2 * N : Nat) : Int)] ++ List.replicate ((w + 7) / 8) x) ++ R ++ suf := ⟨_, rfl⟩
    have hbl : b.length = pre.length + (1 + (w + 7) / 8 + R.length) + suf.length := by rw [hb]; simp only [List.length_append, List.length_singleton, List.length_replicate]; omega
    have r0 : rd b ((pre.length : Nat) : Int) = ((2 * N : Nat) : Int) := by
      rw [hb, rd_eq (by simp only [List.length_append, List.length_singleton, List.length_replicate, Int.toNat_natCast]; omega)]
      simp [List.getElem_append]
    have r1 : 0 < w → pre.length + 1 < b.length ∧ rd b ((pre.length + 1 : Nat) : Int) = x := by
      intro h
      have e1 : (w + 7) / 8 = 1 := by omega
      refine ⟨by omega, ?_⟩
      rw [hb, rd_eq (by simp only [List.length_append, List.length_singleton, List.length_replicate, Int.toNat_natCast]; omega)]
      simp [List.getElem_append, e1]
    rw [← hb] at hgo ⊢
    refine Ev.step (fun k => by rw [impl_RunRead.l0]) ?_
    have hta : (l.take a).length = a := by simp only [List.length_append, List.length_singleton, List.length_replicate, List.length_take]; omega
    refine Ev.pos (by rw [hta]; omega) (Ev.bind (impl_UvarGet_small b (by omega) pre.length (2 * N) (by omega) (by omega) r0) (Ev.pos rfl ?_))
    dsimp only
    have e3 : Go.bits .and .i64 ((2 * N : Nat) : Int) 1 = 0 := by rw [and_one_i]; omega
    refine Ev.pos e3 ?_
    have e4 : (pre.length : Int) + 1 = ((pre.length + 1 : Nat) : Int) := by omega
    rw [e4]
    refine Ev.bind (runNumber_back b (by omega) w (pre.length + 1) x hw hxa.1 hxa.2 r1) (Ev.pos rfl ?_)
    dsimp only
    rw [show wrap64 ((IntKind.u64.wrap ((2 * N : Nat) : Int)) / 2) = (N : Int) from (by rw [u64_id (by omega) (by omega), wrap64_id (by omega) (by omega)]; omega), show wrap64 ((l.length : Int) - ((l.take a).length : Int)) = l.length - a from (by rw [hta, wrap64_id (by omega) (by omega)]), mn_nat _ _ N (by omega)]
    refine impl_fill b _ _ _ x (l.take a) N (by omega) (by omega) _ ?_
    rw [take_rep l a N x (by omega) hsame]
    have e7 : (((pre.length + 1 : Nat) : Int) + (((w + 7) / 8 : Nat) : Int)) = ((pre.length + 1 + (w + 7) / 8 : Nat) : Int) := by omega
    rw [e7]
    refine Ev.cast hgo ?_
    simp only [List.length_append, List.length_singleton, List.length_replicate, Prod.mk.injEq, true_and, and_true]; omega
set_option maxHeartbeats 4000000 in
theorem rb_odd (l : List Int) (hl : l.length ≤ 21) (w : Nat) (hw : w ≤ 8) (hx : ∀ i : Nat, 0 ≤ rd l (i : Int) ∧ rd l (i : Int) < 2 ^ w) (a : Nat) (hlt : a < l.length) (h8 : ¬ 8 ≤ alk l a) (G : Nat) (hG : G = grpF l a (l.length - (a + 8 * 1)) 1) (hgl : 1 ≤ G ∧ a + 8 * (G - 1) < l.length) (R : List Int) (h : RB l w (min (a + 8 * G) l.length) R) : RB l w a ([((2 * G + 1 : Nat) : Int)] ++ bitsR (numsAt l a (8 * G)) w ++ R) := by
  obtain ⟨hR, hRl, hP, hQ⟩ := h
  have hnl := numsAt_length l a (8 * G)
  have bl := bitsR_le (numsAt l a (8 * G)) w
  rw [hnl] at bl
  have hGw : 8 * G * w = 8 * (G * w) := Nat.mul_assoc _ _ _
  have hbl : (bitsR (numsAt l a (8 * G)) w).length = G * w := by omega
  have hgw2 : G * w ≤ G * 8 := Nat.mul_le_mul_left _ hw
  have hBB := (bitsR_ok (numsAt l a (8 * G)) w).2
  refine ⟨?_, ?_, fun out ho => ?_, fun pre suf hpre hsuf hlen => ?_⟩
  · intro y hy
    simp only [List.mem_append, List.mem_singleton] at hy
    rcases hy with (h | h) | h
    · omega
    · exact hBB y h
    · exact hR y h
  · simp only [List.length_append, List.length_singleton, hbl]; omega
  · refine Ev.step (fun k => by rw [impl_RunPack.l0]) ?_
    refine Ev.pos (by omega) (Ev.bind (impl_alike_ev l (by omega) a hlt) (Ev.neg (by omega) ?_))
    have hg := impl_groups_ev l (by omega) a (l.length - (a + 8 * 1)) 1 (by omega) (by omega) (by omega)
    rw [← hG] at hg
    refine Ev.bind (a := (G : Int)) (by unfold impl_groupsFrom.f; simpa using hg) ?_
    rw [show wrap64 (wrap64 (2 * (G : Int)) + 1) = ((2 * G + 1 : Nat) : Int) from (by rw [wrap64_id (x := 2 * (G : Int)) (by omega) (by omega), wrap64_id (by omega) (by omega)]; omega), wrap64_id (x := 8 * (G : Int)) (by omega) (by omega), wrap64_id (x := (a : Int) + 8 * (G : Int)) (by omega) (by omega)]
    have e1 : (8 * (G : Int)).toNat = 8 * G := by omega
    have e2 : mn ((a : Int) + 8 * (G : Int)) (l.length : Int) = ((min (a + 8 * G) l.length : Nat) : Int) := by unfold mn; split <;> omega
    rw [e1, e2, Int.toNat_natCast, numsAt_copy]
    refine Ev.pos (by omega) (Ev.pos (by omega) (Ev.pos (by omega) (Ev.pos (by omega) (Ev.bind (impl_UvarPut_small (2 * G + 1) (by omega)) (Ev.pos (by simp only [List.length_append, List.length_singleton, List.length_replicate, List.length_map, List.length_range, List.length_take]; omega) (Ev.here rfl (Ev.bind (impl_packed_ev (numsAt l a (8 * G)) (by omega) w (by omega)) (Ev.pos (by simp only [List.length_append, List.length_singleton, hbl]; omega) ?_))))))))
    refine Ev.cast (hP (out ++ [((2 * G + 1 : Nat) : Int)] ++ bitsR (numsAt l a (8 * G)) w) (by simp only [List.length_append, List.length_singleton, hbl]; omega)) ?_
    simp
  · have eb : pre ++ ([((2 * G + 1 : Nat) : Int)] ++ bitsR (numsAt l a (8 * G)) w ++ R) ++ suf = (pre ++ [((2 * G + 1 : Nat) : Int)] ++ bitsR (numsAt l a (8 * G)) w) ++ R ++ suf := by simp
    have eb2 : (pre ++ [((2 * G + 1 : Nat) : Int)] ++ bitsR (numsAt l a (8 * G)) w) ++ R ++ suf = (pre ++ [((2 * G + 1 : Nat) : Int)]) ++ bitsR (numsAt l a (8 * G)) w ++ (R ++ suf) := by simp
    have hl2 : (pre ++ [((2 * G + 1 : Nat) : Int)] ++ bitsR (numsAt l a (8 * G)) w).length = pre.length + 1 + G * w := by simp only [List.length_append, List.length_singleton, hbl]
    simp only [List.length_append, List.length_singleton, hbl] at hlen
    have hgo := hQ (pre ++ [((2 * G + 1 : Nat) : Int)] ++ bitsR (numsAt l a (8 * G)) w) suf (by
      intro y hy
      simp only [List.mem_append, List.mem_singleton] at hy
      rcases hy with (h | h) | h
      · exact hpre y h
      · omega
      · exact hBB y h) hsuf (by rw [hl2]; omega)
    rw [eb]
    rw [hl2] at hgo
    obtain ⟨b, hb⟩ : ∃ b, b = (pre ++ [((2 * G + 1 : Nat) : Int)] ++ bitsR (numsAt l a (8 * G)) w) ++ R ++ suf := ⟨_, rfl⟩
    have hbb : b = (pre ++ [((2 * G + 1 : Nat) : Int)]) ++ bitsR (numsAt l a (8 * G)) w ++ (R ++ suf) := hb.trans eb2
    have hbl2 : b.length = pre.length + (1 + G * w + R.length) + suf.length := by rw [hb]; simp only [List.length_append, List.length_singleton, hbl]; omega
    have r0 : rd b ((pre.length : Nat) : Int) = ((2 * G + 1 : Nat) : Int) := by
      rw [hb, rd_eq (by rw [← hb]; omega)]
      simp [List.getElem_append]
    have hbytes : ∀ y ∈ b, 0 ≤ y ∧ y ≤ 255 := by
      intro y hy
      rw [hb] at hy
      simp only [List.mem_append, List.mem_singleton] at hy
      rcases hy with (((h | h) | h) | h) | h
      · exact hpre y h
      · omega
      · exact hBB y h
      · exact hR y h
      · exact hsuf y h
    have hun : ∀ i, i < 8 * G → unum b (pre.length + 1) w i = padAt l a i := by
      intro i hi
      have h1 := bits_back (pre ++ [((2 * G + 1 : Nat) : Int)]) (R ++ suf) (numsAt l a (8 * G)) w (by omega) (numsAt_range l w hx a (8 * G)) i (by omega)
      rw [← hbb, numsAt_rd l a (8 * G) i hi] at h1
      simpa using h1
    rw [← hb] at hgo ⊢
    refine Ev.step (fun k => by rw [impl_RunRead.l0]) ?_
    have hta : (l.take a).length = a := by simp only [List.length_append, List.length_singleton, List.length_replicate, List.length_take]; omega
    refine Ev.pos (by rw [hta]; omega) (Ev.bind (impl_UvarGet_small b (by omega) pre.length (2 * G + 1) (by omega) (by omega) r0) (Ev.pos rfl ?_))
    dsimp only
    have e3 : ¬ Go.bits .and .i64 ((2 * G + 1 : Nat) : Int) 1 = 0 := by rw [and_one_i]; omega
    have ecw : (G : Int) * (w : Int) = ((G * w : Nat) : Int) := by push_cast; rfl
    rw [show wrap64 ((IntKind.u64.wrap ((2 * G + 1 : Nat) : Int)) / 2) = (G : Int) from (by rw [u64_id (by omega) (by omega), wrap64_id (by omega) (by omega)]; omega), ecw, wrap64_id (x := ((G * w : Nat) : Int)) (by omega) (by omega), show wrap64 ((b.length : Int) - ((pre.length : Int) + 1)) = b.length - (pre.length + 1) from (wrap64_id (by omega) (by omega)), wrap64_id (x := 8 * (G : Int)) (by omega) (by omega)]
    refine Ev.neg e3 (Ev.neg (by omega) (Ev.neg (by omega) ?_))
    obtain ⟨M, hM⟩ : ∃ M, M = min (8 * G) (l.length - a) := ⟨_, rfl⟩
    have e4 : (pre.length : Int) + 1 = ((pre.length + 1 : Nat) : Int) := by omega
    rw [show wrap64 ((l.length : Int) - ((l.take a).length : Int)) = l.length - a from (by rw [hta, wrap64_id (by omega) (by omega)]), mn_nat _ _ M (by omega), e4]
    refine Ev.bind (impl_unpacked_ev b hbytes (by omega) (pre.length + 1) w G M (by omega) (by omega) (by omega) (by omega)) (Ev.pos (by simp only [List.length_append, List.length_singleton, List.length_replicate, List.length_map, List.length_range, List.length_take]; omega) ?_)
    rw [take_map l a M _ (by omega) (fun j hj => by
      rw [hun j (by omega)]; unfold padAt; rw [if_pos (by omega)])]
    have e9 : a + M = min (a + 8 * G) l.length := by omega
    rw [show wrap64 (((pre.length + 1 : Nat) : Int) + ((G * w : Nat) : Int)) = ((pre.length + 1 + G * w : Nat) : Int) from (by rw [wrap64_id (by omega) (by omega)]; omega), e9]
    refine Ev.cast hgo ?_
    simp only [List.length_append, List.length_singleton, hbl, Prod.mk.injEq, true_and, and_true]; omega
theorem rb_all (l : List Int) (hl : l.length ≤ 21) (w : Nat) (hw : w ≤ 8) (hx : ∀ i : Nat, 0 ≤ rd l (i : Int) ∧ rd l (i : Int) < 2 ^ w) : ∀ (n a : Nat), l.length - a ≤ n → a ≤ l.length → ∃ R : List Int, RB l w a R := by
  have done : RB l w l.length [] := by
    refine ⟨fun _ h => (List.not_mem_nil h).elim, by simp, fun out _ => ?_, fun pre suf _ _ _ => ?_⟩
    · exact Ev.step (fun k => by rw [impl_RunPack.l0]) (by exact Ev.neg (by omega) (Ev.const (by simp)))
    · rw [List.take_length]
      exact Ev.step (fun k => by rw [impl_RunRead.l0]) (by exact Ev.neg (by omega) (Ev.const (by simp)))
  intro n
  induction n with
  | zero =>
    intro a hn ha
    obtain rfl : a = l.length := by omega
    exact ⟨[], done⟩
  | succ n ih =>
    intro a hn ha
    by_cases hlt : a < l.length
    case neg =>
      obtain rfl : a = l.length := by omega
      exact ⟨[], done⟩
    have hk := alk_le l a hlt
    by_cases h8 : 8 ≤ alk l a
    · obtain ⟨R, hR⟩ := ih (a + alk l a) (by omega) (by omega)
      exact ⟨_, rb_even l hl w hw hx a hlt _ rfl h8 R hR⟩
    · have hgl := grpF_le l a (l.length - (a + 8 * 1)) 1 (by omega) (by omega)
      obtain ⟨R, hR⟩ := ih (min (a + 8 * grpF l a (l.length - (a + 8 * 1)) 1) l.length) (by omega) (by omega)
      exact ⟨_, rb_odd l hl w hw hx a hlt h8 _ rfl hgl R hR⟩
def noText (s : ByteArray) : Bool := s.toList == ([] : List UInt8)
def vOk (t : Int) (v : S31) : Bool :=
  if t = 0 then decide (0 ≤ v.f0 ∧ v.f0 ≤ 1) && noText v.f1
  else if t = 1 then decide (-2147483648 ≤ v.f0 ∧ v.f0 ≤ 2147483647) && noText v.f1
  else if t = 2 ∨ t = 5 then noText v.f1
  else if t = 6 then decide (v.f0 = 0) && decide ((v.f1.size : Int) ≤ 40) else false
theorem l1In_some (x lo hi : Int) : spec_l1In.f x lo hi = some (decide (lo ≤ x ∧ x ≤ hi)) := by unfold spec_l1In.f; exact l1In_same x lo hi
theorem impl_ValOk_some (t : Int) (v : S31) : impl_ValOk.f t v.f0 v.f1 = some (vOk t v) := by
  unfold impl_ValOk.f impl_isInt32.f vOk noText
  simp only [within_some, Option.bind_some]
  by_cases h0 : t = 0
  · rw [if_pos h0, if_pos h0]; by_cases h : 0 ≤ v.f0 ∧ v.f0 ≤ 1 <;> simp [h]
  rw [if_neg h0, if_neg h0]
  by_cases h1 : t = 1
  · rw [if_pos h1, if_pos h1]; by_cases h : -2147483648 ≤ v.f0 ∧ v.f0 ≤ 2147483647 <;> simp [h]
  rw [if_neg h1, if_neg h1]
  by_cases h2 : t = 2
  · rw [if_pos h2, if_pos (show t = 2 ∨ t = 5 from .inl h2)]
  rw [if_neg h2]
  by_cases h5 : t = 5
  · rw [if_pos h5, if_pos (show t = 2 ∨ t = 5 from .inr h5)]
  rw [if_neg h5, if_neg (show ¬ (t = 2 ∨ t = 5) by omega)]
  by_cases h6 : t = 6
  · rw [if_pos h6, if_pos h6]; by_cases h : v.f0 = 0 <;> simp [h]
  · rw [if_neg h6, if_neg h6]
theorem spec_ValOk_ev (t : Int) (v : S31) : Ev (fun k => spec_ValOk.f k t v.f0 v.f1) (vOk t v) := by
  refine ⟨2, fun k hk => ?_⟩
  obtain ⟨m, rfl⟩ : ∃ m, k = m + 2 := ⟨k - 2, by omega⟩
  unfold spec_ValOk.f spec_l4Int.f vOk noText
  simp only [l1In_some, Option.bind_some, spec_ValOk.j0]
  by_cases h0 : t = 0
  · rw [if_pos h0, if_pos h0]; by_cases h : 0 ≤ v.f0 ∧ v.f0 ≤ 1 <;> simp [h]
  rw [if_neg h0, if_neg h0]
  by_cases h1 : t = 1
  · rw [if_pos h1, if_pos h1]; by_cases h : -2147483648 ≤ v.f0 ∧ v.f0 ≤ 2147483647 <;> simp [h]
  rw [if_neg h1, if_neg h1]
  by_cases h2 : t = 2
  · rw [if_pos (show t = 2 ∨ t = 5 from .inl h2)]; simp [h2]
  rw [if_neg h2]
  by_cases h5 : t = 5
  · rw [if_pos (show t = 2 ∨ t = 5 from .inr h5)]; simp [h5]
  rw [if_neg (show ¬ (t = 2 ∨ t = 5) by omega)]
  by_cases h6 : t = 6
  · rw [if_pos h6]; by_cases h : v.f0 = 0 <;> simp [h, h6]
  · rw [if_neg h6]; simp [h5, h6]
def vsOk (t : Int) (l : List S31) : Bool := decide ((l.length : Int) ≤ 2000) && tOk t && l.all (vOk t)
theorem impl_valsOk_ev (t : Int) (l : List S31) (hl : l.length ≤ 1048576) : Ev (fun k => impl_valsOk.f k t l) (vsOk t l) := by
  unfold impl_valsOk.f
  have key := all_loop (fun k i => impl_valsOk.l0 k t l l (l.length : Int) i) (fun i => vOk t (l.getD i z31)) l.length false (decide ((l.length : Int) ≤ 2000) && tOk t)
    (fun i r hi hp hr => by
      have e : rd_T31 l (i : Int) = l.getD i z31 := rfl
      refine Ev.step (fun k => by rw [impl_valsOk.l0]) ?_
      refine Ev.pos (by omega) (Ev.pos (by omega) (Ev.pos (by omega) (Ev.here (impl_ValOk_some t _) ?_)))
      rw [e, hp]
      refine Ev.pos rfl ?_
      rw [wrap64_id (by omega) (by omega)]
      simpa using hr)
    (fun i hi hp => by
      have e : rd_T31 l (i : Int) = l.getD i z31 := rfl
      refine Ev.step (fun k => by rw [impl_valsOk.l0]) ?_
      refine Ev.pos (by omega) (Ev.pos (by omega) (Ev.pos (by omega) (Ev.here (impl_ValOk_some t _) ?_)))
      rw [e, hp]
      exact Ev.neg (by decide) (Ev.now _))
    (by
      refine Ev.step (fun k => by rw [impl_valsOk.l0]) ?_
      refine Ev.neg (by omega) ?_
      by_cases h : (l.length : Int) ≤ 2000
      · refine Ev.pos h (Ev.here (typeOk_some t) (Ev.const ?_))
        simp [h]
      · refine Ev.neg h (Ev.const ?_)
        simp [h])
  refine Ev.cast key ?_
  rw [all_range]
  unfold vsOk
  cases l.all (vOk t) <;> simp
theorem spec_l6Vals_ev (t : Int) (l : List S31) (hl : l.length ≤ 1048576) : Ev (fun k => spec_l6Vals.f k t l) (vsOk t l) := by
  have bad : vsOk t l = false → Ev (fun k => spec_l6Vals.j0 k t l true) (vsOk t l) := fun h => by
    rw [h]
    exact Ev.step (fun k => by rw [spec_l6Vals.j0]) (by exact Ev.pos rfl (Ev.now _))
  unfold spec_l6Vals.f
  by_cases h : (l.length : Int) > 2000
  · exact Ev.pos h (bad (by simp [vsOk]; omega))
  refine Ev.neg h (Ev.here (l5Type_some t) ?_)
  cases ht : tOk t with
  | false => exact bad (by simp [vsOk, ht])
  | true =>
    refine Ev.step (fun k => by rw [spec_l6Vals.j0]) ?_
    refine Ev.neg (by decide) ?_
    have key := all_loop (fun k i => spec_l6Vals.l0 k t l i) (fun i => vOk t (l.getD i z31)) l.length false true
      (fun i r hi hp hr => by
        have e : rd_T31 l (i : Int) = l.getD i z31 := rfl
        refine Ev.step (fun k => by rw [spec_l6Vals.l0]) ?_
        refine Ev.pos (by omega) (Ev.pos (by omega) (Ev.bind (spec_ValOk_ev t _) ?_))
        rw [e, hp]
        refine Ev.pos rfl ?_
        rw [wrap64_id (by omega) (by omega)]
        simpa using hr)
      (fun i hi hp => by
        have e : rd_T31 l (i : Int) = l.getD i z31 := rfl
        refine Ev.step (fun k => by rw [spec_l6Vals.l0]) ?_
        refine Ev.pos (by omega) (Ev.pos (by omega) (Ev.bind (spec_ValOk_ev t _) ?_))
        rw [e, hp]
        exact Ev.neg (by decide) (Ev.now _))
      (by exact Ev.step (fun k => by rw [spec_l6Vals.l0]) (by exact Ev.neg (by omega) (Ev.now _)))
    refine Ev.cast key ?_
    rw [all_range]
    have h2 : (l.length : Int) ≤ 2000 := by omega
    cases ha : l.all (vOk t) <;> simp [vsOk, ht, ha, h2]
theorem ba_inj {a b : ByteArray} (h : a.toList = b.toList) : a = b := by
  rw [ByteArray.toList_eq, ByteArray.toList_eq] at h
  cases a; cases b; simpa using h
theorem spec_eq_iff {x y : S31} : ((x.f0 == y.f0 && (x.f1.toList == y.f1.toList)) = true) ↔ x = y := by
  cases x; cases y
  simp only [Bool.and_eq_true, beq_iff_eq]
  constructor
  · rintro ⟨rfl, h⟩; rw [ba_inj h]
  · intro h; injection h with h1 h2; subst h1; subst h2; exact ⟨rfl, rfl⟩
theorem vk_in_nat {n : Nat} (h : n ≤ 1048576) : vk_in (n : Int) = true := by
  simp [vk_in, Lit.wf, IntKind.min, IntKind.max, IntKind.signed, IntKind.bits]; omega
def dGet (l : List (S31)) (i : Nat) : S31 := l.getD i z31
abbrev DSt := List (S31) × List Int × List (S31 × Int)
def dStep (l : List (S31)) (i : Nat) (s : DSt) : DSt :=
  if vk_mem (dGet l i) s.2.2 = true then (s.1, s.2.1 ++ [vk_at (dGet l i) s.2.2], s.2.2) else (s.1 ++ [dGet l i], s.2.1 ++ [(s.1.length : Int)], (dGet l i, (s.1.length : Int)) :: s.2.2)
def dRes (l : List (S31)) : DSt := (List.range l.length).foldl (fun s i => dStep l i s) ([], [], [])
/-- The map tells of each value of the dictionary where it stands; no value stands twice. -/
structure DInv (l : List (S31)) (i : Nat) (s : DSt) : Prop where
  le : s.1.length ≤ i
  len : s.2.1.length = i
  mlen : s.2.2.length = s.1.length
  sub : ∀ x ∈ s.1, x ∈ l
  mem : ∀ x, vk_mem x s.2.2 = true ↔ x ∈ s.1
  at_ : ∀ x, x ∈ s.1 → ∃ j : Nat, j < s.1.length ∧ vk_at x s.2.2 = j ∧ dGet s.1 j = x
  one : ∀ j k : Nat, j < s.1.length → k < s.1.length → dGet s.1 j = dGet s.1 k → j = k
theorem dGet_app {l : List (S31)} {x : S31} {j : Nat} : dGet (l ++ [x]) j = if j < l.length then dGet l j else if j = l.length then x else z31 := by
  unfold dGet
  split
  · rename_i h; rw [getD_eq (by simp; omega), getD_eq h, List.getElem_append_left h]
  · rename_i h
    split
    · rename_i h2; subst h2; simp [List.getD]
    · rename_i h2
      rw [List.getD_eq_getElem?_getD, List.getElem?_eq_none (by simp; omega)]; rfl
theorem dGet_mem {l : List (S31)} {j : Nat} (h : j < l.length) : dGet l j ∈ l := by
  unfold dGet; rw [getD_eq h]; exact List.getElem_mem h
theorem DInv.first (l : List (S31)) : DInv l 0 ([], [], []) :=
  ⟨Nat.le_refl _, rfl, rfl, fun _ h => (List.not_mem_nil h).elim, fun x => (by simp [vk_mem]), fun _ h => (List.not_mem_nil h).elim, fun _ _ h => (Nat.not_lt_zero _ h).elim⟩
theorem DInv.next {l : List (S31)} {i : Nat} {s : DSt} (hi : i < l.length) (h : DInv l i s) : DInv l (i + 1) (dStep l i s) := by
  unfold dStep
  have hx := dGet_mem hi
  obtain ⟨x, hxe⟩ : ∃ x, x = dGet l i := ⟨_, rfl⟩
  rw [← hxe] at hx ⊢
  by_cases hm : vk_mem x s.2.2 = true
  · rw [if_pos hm]
    exact ⟨Nat.le_succ_of_le h.le, by simp [h.len], h.mlen, h.sub, h.mem, h.at_, h.one⟩
  · rw [if_neg hm]
    have hn : x ∉ s.1 := fun hc => hm ((h.mem x).2 hc)
    have hl := h.le
    refine ⟨by simp; exact hl, by simp [h.len], by simp [h.mlen], fun y hy => ?_, fun y => ?_, fun y hy => ?_, fun j k hj hk he => ?_⟩
    · rcases List.mem_append.1 hy with hy | hy
      · exact h.sub y hy
      · rw [List.mem_singleton.1 hy]; exact hx
    · have e : vk_mem y ((x, (s.1.length : Int)) :: s.2.2) = (vk_eq y x || vk_mem y s.2.2) := by simp [vk_mem]
      rw [e, Bool.or_eq_true, vk_eq_iff, h.mem, List.mem_append, List.mem_singleton]
      exact Or.comm
    · by_cases hyx : y = x
      · subst hyx
        refine ⟨s.1.length, by simp, by simp [vk_at, vk_eq_iff.2 rfl], ?_⟩
        rw [dGet_app, if_neg (by omega), if_pos rfl]
      · have hy2 : y ∈ s.1 := by
          rcases List.mem_append.1 hy with hy | hy
          · exact hy
          · exact absurd (List.mem_singleton.1 hy) hyx
        obtain ⟨j, h1, h2, h3⟩ := h.at_ y hy2
        refine ⟨j, by simp; omega, ?_, ?_⟩
        · have : ¬ vk_eq y x = true := fun hc => hyx (vk_eq_iff.1 hc)
          simp only [vk_at, if_neg this]; exact h2
        · rw [dGet_app, if_pos h1]; exact h3
    · simp only [List.length_append, List.length_cons, List.length_nil] at hj hk
      rw [dGet_app, dGet_app] at he
      by_cases hj1 : j < s.1.length
      · rw [if_pos hj1] at he
        by_cases hk1 : k < s.1.length
        · rw [if_pos hk1] at he; exact h.one j k hj1 hk1 he
        · rw [if_neg hk1, if_pos (by omega)] at he
          exact absurd (he ▸ dGet_mem hj1) hn
      · rw [if_neg hj1, if_pos (by omega)] at he
        by_cases hk1 : k < s.1.length
        · rw [if_pos hk1] at he
          exact absurd (he ▸ dGet_mem hk1) hn
        · omega
theorem dRes_inv (l : List (S31)) : DInv l l.length (dRes l) := by
  have key : ∀ i, i ≤ l.length → DInv l i ((List.range i).foldl (fun s i => dStep l i s) ([], [], [])) := by
    intro i
    induction i with
    | zero => intro _; exact DInv.first l
    | succ i ih => intro h; rw [List.range_succ, List.foldl_append]; exact DInv.next (by omega) (ih (by omega))
  exact key _ (Nat.le_refl _)
theorem impl_DictOf_l0 (l : List (S31)) (hl : l.length ≤ 2000) (hw : ∀ x ∈ l, vk_ok x = true) : Ev (fun k => impl_DictOf.l0 k [] [] [] l (l.length : Int) 0) ((dRes l).1, (dRes l).2.1, true) := by
  refine loop_inv (fun k (s : DSt) i => impl_DictOf.l0 k s.1 s.2.1 s.2.2 l (l.length : Int) i) (dStep l) l.length ((dRes l).1, (dRes l).2.1, true) (DInv l) ([], [], []) (DInv.first l) (fun i s hi h => DInv.next hi h) (fun i s hi hI h => ?_) (fun s hI hs => ?_)
  · have e : rd_T31 l (i : Int) = dGet l i := rfl
    have hle := hI.le; have hlen := hI.len; have hml := hI.mlen
    refine Ev.step (fun k => by rw [impl_DictOf.l0]) ?_
    refine Ev.pos (by omega) (Ev.pos (by omega) (Ev.pos (by omega) ?_))
    rw [e, show (⟨(dGet l i).f0, (dGet l i).f1⟩ : S31) = dGet l i from rfl, wrap64_id (x := (i : Int) + 1) (by omega) (by omega)]
    refine Ev.pos (hw _ (dGet_mem hi)) ?_
    unfold dStep at h
    by_cases hm : vk_mem (dGet l i) s.2.2 = true
    · rw [if_pos hm] at h
      exact Ev.pos hm (Ev.pos (by omega) h)
    · rw [if_neg hm] at h
      exact Ev.neg hm (Ev.pos (vk_in_nat (by omega)) (Ev.pos (by omega) (Ev.pos (by omega) (Ev.pos (by omega) h))))
  · refine Ev.step (fun k => by rw [impl_DictOf.l0]) ?_
    refine Ev.neg (by omega) (Ev.const ?_)
    rw [hs]; rfl
theorem spec_scan (l d : List (S31)) (ps : List Int) (i : Nat) (hi : i < l.length) (hl : l.length ≤ 2000) (hd : d.length ≤ 2000) {γ : List (S31) × List Int × Bool} (fin : Int)
    (one : ∀ j k : Nat, j < d.length → k < d.length → dGet d j = dGet d k → j = k) (hin : ∀ j : Nat, j < d.length → dGet d j = dGet l i → fin = j) (hout : (∀ j : Nat, j < d.length → dGet d j ≠ dGet l i) → fin = -1)
    (h : Ev (fun k => spec_DictOf.l1 k l d ps (i : Int) fin (d.length : Int)) γ) : Ev (fun k => spec_DictOf.l1 k l d ps (i : Int) (-1) 0) γ := by
  refine loop_inv (fun k (s : Int) j => spec_DictOf.l1 k l d ps (i : Int) s j) (fun j s => if vk_eq (dGet d j) (dGet l i) = true then (j : Int) else s) d.length γ (fun n s => (∀ j : Nat, j < n → dGet d j = dGet l i → s = j) ∧ ((∀ j : Nat, j < n → dGet d j ≠ dGet l i) → s = -1)) (-1) ⟨fun _ h => by omega, fun _ => rfl⟩ (fun j s hj hI => ?_) (fun j s hj hI h => ?_) (fun s hI _ => ?_)
  · by_cases hq : dGet d j = dGet l i
    · rw [if_pos (vk_eq_iff.2 hq)]
      exact ⟨fun j' hj' he => by rw [one j' j (by omega) hj (he.trans hq.symm)], fun hc => absurd hq (hc j (by omega))⟩
    · rw [if_neg (fun hc => hq (vk_eq_iff.1 hc))]
      refine ⟨fun j' hj' he => ?_, fun hc => hI.2 (fun j' hj' => hc j' (by omega))⟩
      by_cases hjj : j' = j
      · subst hjj; exact absurd he hq
      · exact hI.1 j' (by omega) he
  · have e1 : rd_T31 d (j : Int) = dGet d j := rfl
    have e2 : rd_T31 l (i : Int) = dGet l i := rfl
    refine Ev.step (fun k => by rw [spec_DictOf.l1]) ?_
    refine Ev.pos (by omega) (Ev.pos (by omega) (Ev.pos (by omega) (Ev.pos (by omega) ?_)))
    rw [e1, e2, wrap64_id (x := (j : Int) + 1) (by omega) (by omega)]
    by_cases hq : dGet d j = dGet l i
    · rw [if_pos (vk_eq_iff.2 hq)] at h
      exact Ev.pos (spec_eq_iff.2 hq) h
    · rw [if_neg (fun hc => hq (vk_eq_iff.1 hc))] at h
      exact Ev.neg (fun hc => hq (spec_eq_iff.1 hc)) h
  · have : s = fin := by
      by_cases hex : ∃ j : Nat, j < d.length ∧ dGet d j = dGet l i
      · obtain ⟨j, h1, h2⟩ := hex
        rw [hI.1 j h1 h2, hin j h1 h2]
      · have hno : ∀ j : Nat, j < d.length → dGet d j ≠ dGet l i := fun j h1 h2 => hex ⟨j, h1, h2⟩
        rw [hI.2 hno, hout hno]
    rw [this]; exact h
theorem spec_DictOf_l0 (l : List (S31)) (hl : l.length ≤ 2000) : Ev (fun k => spec_DictOf.l0 k l [] [] 0) ((dRes l).1, (dRes l).2.1, true) := by
  refine loop_inv (fun k (s : DSt) i => spec_DictOf.l0 k l s.1 s.2.1 i) (dStep l) l.length ((dRes l).1, (dRes l).2.1, true) (DInv l) ([], [], []) (DInv.first l) (fun i s hi h => DInv.next hi h) (fun i s hi hI h => ?_) (fun s hI hs => ?_)
  · have e : rd_T31 l (i : Int) = dGet l i := rfl
    have hle := hI.le; have hlen := hI.len
    refine Ev.step (fun k => by rw [spec_DictOf.l0]) ?_
    refine Ev.pos (by omega) ?_
    unfold dStep at h
    by_cases hm : vk_mem (dGet l i) s.2.2 = true
    · rw [if_pos hm] at h
      obtain ⟨j, h1, h2, h3⟩ := hI.at_ _ ((hI.mem _).1 hm)
      refine spec_scan l s.1 s.2.1 i hi hl (by omega) (vk_at (dGet l i) s.2.2) hI.one (fun j' hj' he => ?_) (fun hc => absurd h3 (hc j h1)) ?_
      · rw [h2, hI.one j' j hj' h1 (he.trans h3.symm)]
      · refine Ev.step (fun k => by rw [spec_DictOf.l1]) ?_
        refine Ev.neg (by omega) (Ev.neg (by omega) (Ev.pos (by omega) ?_))
        rw [wrap64_id (x := (i : Int) + 1) (by omega) (by omega)]
        exact h
    · rw [if_neg hm] at h
      have hno : ∀ j : Nat, j < s.1.length → dGet s.1 j ≠ dGet l i := fun j hj he => hm ((hI.mem _).2 (he ▸ dGet_mem hj))
      refine spec_scan l s.1 s.2.1 i hi hl (by omega) (-1) hI.one (fun j' hj' he => absurd he (hno j' hj')) (fun _ => rfl) ?_
      refine Ev.step (fun k => by rw [spec_DictOf.l1]) ?_
      refine Ev.neg (by omega) (Ev.pos (by decide) (Ev.pos (by omega) (Ev.pos (by omega) (Ev.pos (by omega) (Ev.pos (by omega) ?_)))))
      rw [e, show (⟨(dGet l i).f0, (dGet l i).f1⟩ : S31) = dGet l i from rfl, wrap64_id (x := (i : Int) + 1) (by omega) (by omega)]
      exact h
  · refine Ev.step (fun k => by rw [spec_DictOf.l0]) ?_
    refine Ev.neg (by omega) (Ev.const ?_)
    rw [hs]; rfl
/-- What both say of a list. -/
def dOf (t : Int) (l : List (S31)) : List (S31) × List Int × Bool := if vsOk t l = true then ((dRes l).1, (dRes l).2.1, true) else ([], [], false)
theorem vsOk_len {t : Int} {l : List (S31)} (h : vsOk t l = true) : l.length ≤ 2000 := by
  simp only [vsOk, Bool.and_eq_true, decide_eq_true_eq] at h; omega
theorem impl_DictOf_ev (t : Int) (l : List (S31)) (hl : l.length ≤ 1048576) (hw : ∀ x ∈ l, vk_ok x = true) : Ev (fun k => impl_DictOf.f k t l) (dOf t l) := by
  unfold impl_DictOf.f dOf
  refine Ev.bind (impl_valsOk_ev t l hl) ?_
  by_cases h : vsOk t l = true
  · rw [if_pos h]; exact Ev.pos h (impl_DictOf_l0 l (vsOk_len h) hw)
  · rw [if_neg h]; exact Ev.neg h (Ev.now _)
theorem spec_DictOf_ev (t : Int) (l : List (S31)) (hl : l.length ≤ 1048576) : Ev (fun k => spec_DictOf.f k t l) (dOf t l) := by
  unfold spec_DictOf.f dOf
  refine Ev.here rfl (Ev.here rfl (Ev.bind (spec_l6Vals_ev t l hl) ?_))
  by_cases h : vsOk t l = true
  · rw [if_pos h]; exact Ev.pos h (spec_DictOf_l0 l (vsOk_len h))
  · rw [if_neg h]; exact Ev.neg h (Ev.now _)
theorem dOf_len (t : Int) (l : List (S31)) : (dOf t l).1.length ≤ 2000 ∧ (dOf t l).2.1.length ≤ 2000 := by
  unfold dOf
  by_cases h : vsOk t l = true
  · rw [if_pos h]
    have hI := dRes_inv l
    have h1 := hI.le; have h2 := hI.len; have h3 := vsOk_len h
    exact ⟨by show (dRes l).1.length ≤ 2000; omega, by show (dRes l).2.1.length ≤ 2000; omega⟩
  · rw [if_neg h]; simp
theorem rd_out (l : List Int) (i : Nat) (h : l.length ≤ i) : rd l (i : Int) = 0 := by
  unfold rd
  rw [List.getD_eq_getElem?_getD, List.getElem?_eq_none (by rw [Int.toNat_natCast]; omega)]; rfl
theorem rd_range {l : List Int} {w : Nat} (h : ∀ i : Nat, i < l.length → 0 ≤ rd l (i : Int) ∧ rd l (i : Int) < 2 ^ w) (i : Nat) : 0 ≤ rd l (i : Int) ∧ rd l (i : Int) < 2 ^ w := by
  by_cases hi : i < l.length
  · exact h i hi
  · have h2 : (0 : Int) < 2 ^ w := Int.pow_pos (by omega)
    rw [rd_out l i (by omega)]; exact ⟨Int.le_refl _, h2⟩
theorem width_fits (x : Int) (w : Nat) (hw : w ≤ 8) (h0 : 0 ≤ x) (h1 : x < 2 ^ w) : widB x ≤ (w : Int) := by
  have hx8 : x < 256 := by
    have : (2 : Int) ^ w ≤ 2 ^ 8 := by
      have h := Nat.pow_le_pow_right (show 0 < 2 by omega) hw
      exact_mod_cast h
    omega
  have hz : shr .i64 x (w : Int) = 0 := by
    obtain ⟨X, rfl⟩ := Int.eq_ofNat_of_zero_le h0
    unfold shr
    have e2 : min ((w : Int).toNat) IntKind.i64.bits = w := by
      have : IntKind.i64.bits = 64 := rfl
      rw [this, Int.toNat_natCast]; omega
    rw [e2]
    exact Int.ediv_eq_zero_of_lt h0 h1
  exact (widB_le x h0 (by omega) w (by omega)).2 hz
theorem BitsPack_fine (l : List Int) (hl : l.length ≤ 21) (w : Nat) (hw : w ≤ 8) (hx : ∀ i : Nat, 0 ≤ rd l (i : Int) ∧ rd l (i : Int) < 2 ^ w) : Ev (fun k => impl_BitsPack.f k l (w : Int)) (bitsR l w, true) := by
  unfold impl_BitsPack.f
  refine Ev.neg (by omega) (Ev.here (within_some _ _ _) ?_)
  rw [decide_eq_true (show 0 ≤ (w : Int) ∧ (w : Int) ≤ 62 by omega)]
  refine Ev.step (fun k => by rw [impl_BitsPack.j0]) ?_
  refine Ev.neg (by decide) ?_
  refine loop_cps (fun k (_ : Unit) i => impl_BitsPack.l0 k l (w : Int) l (l.length : Int) i) (fun _ u => u) l.length _ (fun i _ hi hr => ?_) () ?_
  · obtain ⟨h0, h1⟩ := hx i
    have hf := width_fits _ w hw h0 h1
    refine Ev.step (fun k => by rw [impl_BitsPack.l0]) ?_
    refine Ev.pos (by omega) (Ev.pos (by omega) (Ev.pos (by omega) (Ev.neg (by omega) (Ev.bind (impl_widthOf_ev _) (Ev.neg (by omega) ?_)))))
    rw [wrap64_id (x := (i : Int) + 1) (by omega) (by omega)]
    simpa using hr
  · refine Ev.step (fun k => by rw [impl_BitsPack.l0]) ?_
    exact Ev.neg (by omega) (Ev.bind (impl_packed_ev l (by omega) w (by omega)) (Ev.now _))
theorem RunPack_fine (l : List Int) (hl : l.length ≤ 21) (w : Nat) (hw : w ≤ 8) (hx : ∀ i : Nat, 0 ≤ rd l (i : Int) ∧ rd l (i : Int) < 2 ^ w) : ∃ R : List Int, RB l w 0 R ∧ Ev (fun k => impl_RunPack.f k l (w : Int)) (R, true) := by
  obtain ⟨R, hR⟩ := rb_all l hl w hw hx l.length 0 (by omega) (by omega)
  refine ⟨R, hR, ?_⟩
  unfold impl_RunPack.f
  refine Ev.bind (BitsPack_fine l hl w hw hx) (Ev.pos rfl ?_)
  rw [decide_eq_false (show ¬ (w : Int) > 24 by omega)]
  refine Ev.step (fun k => by rw [impl_RunPack.j0]) ?_
  refine Ev.neg (by decide) ?_
  have h := hR.2.2.1 [] (by simp only [List.length_nil]; omega)
  simpa using h
theorem BitsWidth_small (x : Nat) (hx : x ≤ 20) : ∃ w : Nat, w ≤ 8 ∧ x < 2 ^ w ∧ Ev (fun k => impl_BitsWidth.f k (x : Int)) (w : Int) := by
  have e : ((x : Int) % 18446744073709551616).toNat = x := by omega
  have h1 := (blF_le_iff 64 x (blF 64 x) (by omega)).1 (Nat.le_refl _)
  have h2 := (blF_le_iff 64 x 8 (by omega)).2 (by omega)
  have hw : widB (x : Int) = (blF 64 x : Int) := by unfold widB; rw [e]
  refine ⟨blF 64 x, h2, h1, ?_⟩
  unfold impl_BitsWidth.f
  have h3 := impl_widthOf_ev (x : Int)
  rw [hw] at h3
  exact Ev.neg (by omega) (Ev.bind h3 (Ev.neg (by omega) (Ev.bind h3 (Ev.now _))))
theorem PlacesPack_fine (ps : List Int) (hn : ps.length ≤ 21) (many : Nat) (hm : many ≤ 21) (hps : ∀ i : Nat, i < ps.length → 0 ≤ rd ps (i : Int) ∧ rd ps (i : Int) < (many : Int)) :
    ∃ (w : Nat) (R : List Int), w ≤ 8 ∧ RB ps w 0 R ∧ Ev (fun k => impl_PlacesPack.f k ps (many : Int)) ([(w : Int)] ++ R, true) := by
  obtain ⟨w, hw, hxw, hW⟩ := BitsWidth_small (many - 1) (by omega)
  have hr : ∀ i : Nat, 0 ≤ rd ps (i : Int) ∧ rd ps (i : Int) < 2 ^ w := rd_range (fun i hi => by
    obtain ⟨h0, h1⟩ := hps i hi
    refine ⟨h0, ?_⟩
    have e : (2 : Int) ^ w = ((2 ^ w : Nat) : Int) := by push_cast; rfl
    rw [e]; omega)
  obtain ⟨R, hR, hRP⟩ := RunPack_fine ps hn w hw hr
  refine ⟨w, R, hw, hR, ?_⟩
  have hRl := hR.2.1
  unfold impl_PlacesPack.f
  refine Ev.here (within_some _ _ _) (Ev.pos (decide_eq_true (by omega)) ?_)
  refine loop_cps (fun k (_ : Unit) i => impl_PlacesPack.l0 k ps (many : Int) ps (ps.length : Int) i) (fun _ u => u) ps.length _ (fun i _ hi hgo => ?_) () ?_
  · obtain ⟨h0, h1⟩ := hps i hi
    refine Ev.step (fun k => by rw [impl_PlacesPack.l0]) ?_
    rw [wrap64_id (x := (many : Int) - 1) (by omega) (by omega), wrap64_id (x := (i : Int) + 1) (by omega) (by omega)]
    refine Ev.pos (by omega) (Ev.pos (by omega) (Ev.pos (by omega) (Ev.here (within_some _ _ _) (Ev.pos (decide_eq_true (by omega)) ?_))))
    simpa using hgo
  · refine Ev.step (fun k => by rw [impl_PlacesPack.l0]) ?_
    have em : mx (wrap64 ((many : Int) - 1)) 0 = ((many - 1 : Nat) : Int) := by
      rw [wrap64_id (by omega) (by omega)]; unfold mx; split <;> omega
    rw [em]
    refine Ev.neg (by omega) (Ev.bind hW (Ev.bind hRP (Ev.pos rfl (Ev.here rfl (Ev.pos (by simp only [List.length_singleton]; omega) (Ev.const ?_))))))
    have : ((w : Int)) % 256 = w := by omega
    rw [this]
theorem PlacesRead_back (ps : List Int) (hn : ps.length ≤ 21) (many : Nat) (hm : many ≤ 21) (hps : ∀ i : Nat, i < ps.length → 0 ≤ rd ps (i : Int) ∧ rd ps (i : Int) < (many : Int)) (w : Nat) (hw : w ≤ 8) (R : List Int) (hR : RB ps w 0 R) :
    Ev (fun k => impl_PlacesRead.f k ([(w : Int)] ++ R ++ [1]) 0 (ps.length : Int) (many : Int)) (ps, ((1 + R.length : Nat) : Int), true) := by
  have hRl := hR.2.1
  have hQ := hR.2.2.2 [(w : Int)] [1] (fun x hx => by rw [List.mem_singleton.1 hx]; omega) (fun x hx => by rw [List.mem_singleton.1 hx]; omega) (by simp only [List.length_singleton]; omega)
  have hlen : ([(w : Int)] ++ R ++ [1]).length = R.length + 2 := by simp only [List.length_append, List.length_singleton]; omega
  have r0 : rd ([(w : Int)] ++ R ++ [1]) 0 = (w : Int) := rfl
  generalize [(w : Int)] ++ R ++ [1] = b at *
  have hRR : Ev (fun k => impl_RunRead.f k b 1 (ps.length : Int) (w : Int)) (ps, ((1 + R.length : Nat) : Int), true) := by
    unfold impl_RunRead.f
    refine Ev.here (within_some _ _ _) (Ev.pos (decide_eq_true (by omega)) (Ev.here (within_some _ _ _) (Ev.pos (decide_eq_true (by omega)) (Ev.here (within_some _ _ _) ?_))))
    rw [decide_eq_true (show 0 ≤ (1 : Int) ∧ (1 : Int) ≤ (b.length : Int) by omega)]
    refine Ev.step (fun k => by rw [impl_RunRead.j0]) ?_
    refine Ev.neg (by decide) ?_
    simpa using hQ
  unfold impl_PlacesRead.f
  rw [wrap64_id (x := (b.length : Int) - 1) (by omega) (by omega), r0, wrap64_id (x := (w : Int)) (by omega) (by omega), wrap64_id (x := (0 : Int) + 1) (by omega) (by omega)]
  refine Ev.here (within_some _ _ _) (Ev.pos (decide_eq_true (by omega)) (Ev.pos (by omega) (Ev.pos (by omega) (Ev.bind hRR (Ev.pos rfl ?_)))))
  dsimp only
  refine loop_cps (fun k (_ : Unit) i => impl_PlacesRead.l0 k (many : Int) ps ((1 + R.length : Nat) : Int) (ps.length : Int) i) (fun _ u => u) ps.length _ (fun i _ hi hgo => ?_) () ?_
  · obtain ⟨h0, h1⟩ := hps i hi
    refine Ev.step (fun k => by rw [impl_PlacesRead.l0]) ?_
    rw [wrap64_id (x := (i : Int) + 1) (by omega) (by omega)]
    refine Ev.pos (by omega) (Ev.pos (by omega) (Ev.pos (by omega) (Ev.neg (by omega) ?_)))
    simpa using hgo
  · refine Ev.step (fun k => by rw [impl_PlacesRead.l0]) ?_
    exact Ev.neg (by omega) (Ev.now _)
/-- What the dictionary has where the places tell. -/
def atPlaces (d : List (S31)) (ps : List Int) : List (S31) := (List.range ps.length).map fun (i : Nat) => (⟨(rd_T31 d (rd ps (i : Int))).f0, (rd_T31 d (rd ps (i : Int))).f1⟩ : S31)
theorem DictAt_fine (d : List (S31)) (ps : List Int) (hn : ps.length ≤ 21) (hd : d.length ≤ 21) (hps : ∀ i : Nat, i < ps.length → 0 ≤ rd ps (i : Int) ∧ rd ps (i : Int) < (d.length : Int)) : Ev (fun k => impl_DictAt.f k d ps) (atPlaces d ps, true) := by
  unfold impl_DictAt.f
  refine Ev.neg (by omega) ?_
  refine append_loop (fun k out i => impl_DictAt.l0 k d out ps (ps.length : Int) i) (fun (i : Nat) => (⟨(rd_T31 d (rd ps (i : Int))).f0, (rd_T31 d (rd ps (i : Int))).f1⟩ : S31)) ps.length _ (fun i s hi hs hgo => ?_) ?_
  · obtain ⟨h0, h1⟩ := hps i hi
    refine Ev.step (fun k => by rw [impl_DictAt.l0]) ?_
    rw [wrap64_id (x := (d.length : Int) - 1) (by omega) (by omega), wrap64_id (x := (i : Int) + 1) (by omega) (by omega)]
    refine Ev.pos (by omega) (Ev.pos (by omega) (Ev.pos (by omega) (Ev.here (within_some _ _ _) (Ev.pos (decide_eq_true (by omega)) (Ev.pos h0 (Ev.pos h1 (Ev.pos (by omega) ?_)))))))
    simpa using hgo
  · exact Ev.step (fun k => by rw [impl_DictAt.l0]) (by exact Ev.neg (by omega) (Ev.now _))
theorem rd_snoc (l : List Int) (x : Int) (q : Nat) : rd (l ++ [x]) (q : Int) = if q < l.length then rd l (q : Int) else if q = l.length then x else 0 := by
  by_cases h : q < l.length
  · rw [if_pos h, rd_eq (by simp; omega), rd_eq (by simpa using h), List.getElem_append_left (by simpa using h)]
  · rw [if_neg h]
    by_cases h2 : q = l.length
    · subst h2
      rw [if_pos rfl, rd_eq (by simp)]
      simp
    · rw [if_neg h2, rd_out _ _ (by simp; omega)]
theorem dRes_back (l : List (S31)) : ∀ q, q < l.length → ∃ j : Nat, j < (dRes l).1.length ∧ rd (dRes l).2.1 (q : Int) = j ∧ dGet (dRes l).1 j = dGet l q := by
  have key : ∀ i, i ≤ l.length → DInv l i ((List.range i).foldl (fun s i => dStep l i s) ([], [], [])) ∧ ∀ q, q < i → ∃ j : Nat, j < ((List.range i).foldl (fun s i => dStep l i s) ([], [], [])).1.length ∧ rd ((List.range i).foldl (fun s i => dStep l i s) ([], [], [])).2.1 (q : Int) = j ∧ dGet ((List.range i).foldl (fun s i => dStep l i s) ([], [], [])).1 j = dGet l q := by
    intro i
    induction i with
    | zero => intro _; exact ⟨DInv.first l, fun q h => by omega⟩
    | succ i ih =>
      intro h
      obtain ⟨hI, hB⟩ := ih (by omega)
      rw [List.range_succ, List.foldl_append]
      show DInv l (i + 1) (dStep l i _) ∧ ∀ q, q < i + 1 → ∃ j : Nat, j < (dStep l i _).1.length ∧ rd (dStep l i _).2.1 (q : Int) = j ∧ dGet (dStep l i _).1 j = dGet l q
      generalize (List.range i).foldl (fun s i => dStep l i s) ([], [], []) = s at hI hB
      refine ⟨DInv.next (by omega) hI, fun q hq => ?_⟩
      have hlen := hI.len
      unfold dStep
      by_cases hm : vk_mem (dGet l i) s.2.2 = true
      · rw [if_pos hm]
        by_cases hqi : q < i
        · obtain ⟨j, h1, h2, h3⟩ := hB q hqi
          exact ⟨j, h1, by show rd (s.2.1 ++ [_]) (q : Int) = _; rw [rd_snoc, if_pos (by omega)]; exact h2, h3⟩
        · obtain rfl : q = i := by omega
          obtain ⟨j, h1, h2, h3⟩ := hI.at_ _ ((hI.mem _).1 hm)
          exact ⟨j, h1, by show rd (s.2.1 ++ [_]) (q : Int) = _; rw [rd_snoc, if_neg (by omega), if_pos (by omega)]; exact h2, h3⟩
      · rw [if_neg hm]
        by_cases hqi : q < i
        · obtain ⟨j, h1, h2, h3⟩ := hB q hqi
          refine ⟨j, by show j < (s.1 ++ [_]).length; simp; omega, by show rd (s.2.1 ++ [_]) (q : Int) = _; rw [rd_snoc, if_pos (by omega)]; exact h2, ?_⟩
          show dGet (s.1 ++ [_]) j = _
          rw [dGet_app, if_pos h1]; exact h3
        · obtain rfl : q = i := by omega
          refine ⟨s.1.length, by show s.1.length < (s.1 ++ [_]).length; simp, by show rd (s.2.1 ++ [_]) (q : Int) = _; rw [rd_snoc, if_neg (by omega), if_pos (by omega)], ?_⟩
          show dGet (s.1 ++ [_]) s.1.length = _
          rw [dGet_app, if_neg (by omega), if_pos rfl]
  exact (key l.length (Nat.le_refl _)).2
theorem sameVals_ev (a b : List S31) (hl : a.length = b.length) (hb : b.length ≤ 1048576) (h : ∀ i : Nat, i < a.length → (rd_T31 a (i : Int)).f0 = (rd_T31 b (i : Int)).f0 ∧ (rd_T31 a (i : Int)).f1.toList = (rd_T31 b (i : Int)).f1.toList) : Ev (fun k => laws_sameVals.f k a b) true := by
  unfold laws_sameVals.f
  refine Ev.pos (by omega) ?_
  refine same_loop (fun k i => laws_sameVals.l0 k a b i) a.length (fun i r hi hr => ?_) ?_
  · obtain ⟨e0, e1⟩ := h i hi
    refine Ev.step (fun k => by rw [laws_sameVals.l0]) ?_
    refine Ev.pos (by omega) (Ev.pos (by omega) (Ev.pos (by omega) (Ev.neg (by simp [e0, e1]) ?_)))
    rw [wrap64_id (by omega) (by omega)]
    simpa using hr
  · exact Ev.step (fun k => by rw [laws_sameVals.l0]) (by exact Ev.neg (by omega) (Ev.now _))
theorem drawDict_ev (l : List Int) (hl : l.length ≤ 1048576) : ∃ (t : Int) (v : List S31), Ev (fun k => spec_DrawDictOf.f k l) (t, v) ∧ v.length ≤ 21 ∧ DrawnL v := by
  unfold spec_DrawDictOf.f
  obtain ⟨h0, e0⟩ := l1New_ev l hl
  have c0 : Cur l 0 := ⟨by omega, by omega, hl⟩
  obtain ⟨t, i1, h1, e1, _, _, c1⟩ := l6DrawType_some l 0 h0 c0
  obtain ⟨v, i2, h2, e2, s2, d2, c2⟩ := l6DrawList_ev l i1 h1 t 20 c1 (by omega) (by omega)
  exact ⟨t, v, Ev.bind e0 (Ev.here e1 (Ev.bind e2 (Ev.now _))), by omega, d2⟩
theorem drawn_key {v : List S31} (h : DrawnL v) : ∀ x ∈ v, vk_ok x = true := by
  intro x hx
  obtain ⟨h1, h2⟩ := h x hx
  have hw : (Lit.int .i64 x.f0).wf = true := by
    obtain ⟨a, b⟩ := h1
    simp [Lit.wf, IntKind.min, IntKind.max, IntKind.signed, IntKind.bits]; omega
  have hs : x.f1.size ≤ maxLen := by unfold maxLen; omega
  simp only [vk_ok, Bool.and_eq_true]
  exact ⟨hw, decide_eq_true hs⟩
theorem FnDict : ∀ (x0 : List (Int)), (x0.length ≤ maxLen ∧ ∀ y ∈ x0, (Lit.int .u8 y).wf = true) → ∃ k, laws_FnDict.f k x0 = some true := by
  intro l hx
  refine Ev.rounds ?_
  unfold laws_FnDict.f
  by_cases hb : (l.length : Int) > 1048576
  · exact Ev.here (a := true) (by unfold laws_big.f; simp [hb]) (Ev.pos rfl (Ev.now _))
  refine Ev.here (a := false) (by unfold laws_big.f; simp [hb]) (Ev.neg (by decide) ?_)
  obtain ⟨t, v, e, hv, hd⟩ := drawDict_ev l (by omega)
  refine Ev.bind e (Ev.bind (impl_DictOf_ev t v (by omega) (drawn_key hd)) (Ev.bind (spec_DictOf_ev t v (by omega)) (Ev.neg (by simp) ?_)))
  unfold dOf
  by_cases h : vsOk t v = true
  case neg =>
    rw [if_neg h]
    exact Ev.neg (by decide) (Ev.pos rfl (Ev.now _))
  rw [if_pos h]
  have hI := dRes_inv v
  have hB := dRes_back v
  obtain ⟨d, ps, m, hds⟩ : ∃ d ps m, dRes v = (d, ps, m) := ⟨_, _, _, rfl⟩
  rw [hds] at hI hB ⊢
  have hle : d.length ≤ v.length := hI.le
  have hlen : ps.length = v.length := hI.len
  have hone : ∀ j k : Nat, j < d.length → k < d.length → dGet d j = dGet d k → j = k := hI.one
  have hB2 : ∀ q, q < v.length → ∃ j : Nat, j < d.length ∧ rd ps (q : Int) = j ∧ dGet d j = dGet v q := hB
  clear hI hB hds
  have hps : ∀ i : Nat, i < ps.length → 0 ≤ rd ps (i : Int) ∧ rd ps (i : Int) < (d.length : Int) := by
    intro i hi
    obtain ⟨j, h1, h2, _⟩ := hB2 i (by omega)
    rw [h2]; omega
  obtain ⟨w, R, hw, hR, hPP⟩ := PlacesPack_fine ps (by omega) d.length (by omega) hps
  have hPR := PlacesRead_back ps (by omega) d.length (by omega) hps w hw R hR
  have hDA := DictAt_fine d ps (by omega) (by omega) hps
  have hRl := hR.2.1
  refine Ev.pos rfl ?_
  dsimp only
  refine loop_cps (fun k (_ : Unit) i => laws_FnDict.l0 k v d ps i) (fun _ u => u) d.length _ (fun i _ hi hgo => ?_) () ?_
  · refine Ev.step (fun k => by rw [laws_FnDict.l0]) ?_
    refine Ev.pos (by omega) ?_
    refine loop_cps (fun k (_ : Unit) j => laws_FnDict.l1 k v d ps (i : Int) j) (fun _ u => u) i _ (fun j _ hj hgo2 => ?_) () ?_
    · refine Ev.step (fun k => by rw [laws_FnDict.l1]) ?_
      have e1 : rd_T31 d (i : Int) = dGet d i := rfl
      have e2 : rd_T31 d (j : Int) = dGet d j := rfl
      rw [wrap64_id (x := (j : Int) + 1) (by omega) (by omega), e1, e2]
      refine Ev.pos (by omega) (Ev.pos (by omega) (Ev.pos (by omega) (Ev.pos (by omega) (Ev.pos (by omega) (Ev.neg (fun hc => ?_) ?_)))))
      · have := hone i j hi (by omega) (spec_eq_iff.1 hc)
        omega
      · simpa using hgo2
    · refine Ev.step (fun k => by rw [laws_FnDict.l1]) ?_
      rw [wrap64_id (x := (i : Int) + 1) (by omega) (by omega)]
      refine Ev.neg (by omega) ?_
      simpa using hgo
  · refine Ev.step (fun k => by rw [laws_FnDict.l0]) ?_
    have hll : ([] ++ ([(w : Int)] ++ R) : List Int).length = R.length + 1 := by simp only [List.nil_append, List.length_append, List.length_singleton]; omega
    refine Ev.neg (by omega) (Ev.bind hPP (Ev.here rfl (Ev.pos (by simp only [List.length_append, List.length_singleton, List.length_nil]; omega) (Ev.here rfl (Ev.pos (by dsimp only; rw [hll]; omega) (Ev.bind (a := (ps, ((1 + R.length : Nat) : Int), true)) (by simpa using hPR) (Ev.bind hDA (Ev.pos rfl (Ev.pos rfl (Ev.pos ?_ (Ev.pos rfl (Ev.bind (a := true) ?_ (Ev.now _)))))))))))))
    · simp only [List.length_append, List.length_singleton]
    · refine sameVals_ev _ _ (by simp [atPlaces, hlen]) (by omega) (fun i hi => ?_)
      have hi2 : i < ps.length := by simpa [atPlaces] using hi
      obtain ⟨j, h1, h2, h3⟩ := hB2 i (by omega)
      have ea : rd_T31 (atPlaces d ps) (i : Int) = (atPlaces d ps).getD i z31 := rfl
      have eb : rd_T31 v (i : Int) = dGet v i := rfl
      have ec : rd_T31 d ((j : Nat) : Int) = dGet d j := rfl
      rw [ea, getD_eq hi, eb]
      simp only [atPlaces, List.getElem_map, List.getElem_range]
      rw [h2, ec, h3]
      exact ⟨rfl, rfl⟩
end Go.Proofs.Ytgbhjjhnkiagfaa.Pure
