/- The pure statement of FnSplit: the printed functions answer as the law says, for all arguments. No condition. -/
import Derived.Test.YtlohdhkgcfebnaaCore
import Derived.Test.YtlohdhkgcfebnaaPFnSplitx
import Derived.Test.YtlohdhkgcfebnaaArgFnSplit
namespace Go.Proofs.Ytlohdhkgcfebnaa.Pure
open Go.RowKit Go.Proofs.Ytlohdhkgcfebnaa.PFnSplit Go.Proofs.Ytlohdhkgcfebnaa.Core Go.Proofs.YtlohdhkgcfebnaaW.PrintWords Go.Proofs.YtlohdhkgcfebnaaW.PrintLast Go.Proofs.YtlohdhkgcfebnaaW.PrintMore Go.Proofs.Ytlohdhkgcfebnaa.AFnSplit
set_option linter.unusedVariables false
set_option linter.unusedSimpArgs false
theorem bv_ofInt_wrap (x : Int) : BitVec.ofInt 64 (wrap64 x) = BitVec.ofInt 64 x := by
  apply BitVec.eq_of_toNat_eq
  rw [BitVec.toNat_ofInt, BitVec.toNat_ofInt]
  congr 1
  unfold wrap64; omega
theorem or_wrap (a c : Nat) (ha : a < 2 ^ 64) (hc : c < 2 ^ 64) : Go.bits .or .i64 (wrap64 (a : Int)) (wrap64 (c : Int)) = wrap64 ((a ||| c : Nat) : Int) := by
  have e : Go.bits .or .i64 (wrap64 (a : Int)) (wrap64 (c : Int)) = IntKind.i64.wrap (((BitVec.ofInt 64 (wrap64 (a : Int)) ||| BitVec.ofInt 64 (wrap64 (c : Int))).toNat : Nat) : Int) := rfl
  rw [e, bv_ofInt_wrap, bv_ofInt_wrap, BitVec.ofInt_natCast, BitVec.ofInt_natCast, BitVec.toNat_or, BitVec.toNat_ofNat, BitVec.toNat_ofNat, Nat.mod_eq_of_lt ha, Nat.mod_eq_of_lt hc, IntKind.wrap_i64]
  unfold wrap64; omega
theorem or_digit (m a d : Nat) (ha : a < 2 ^ m) : a ||| d * 2 ^ m = a + d * 2 ^ m := by
  have := Nat.shiftLeft_add_eq_or_of_lt ha d
  rw [Nat.shiftLeft_eq] at this
  rw [Nat.or_comm, ← this, Nat.add_comm]
theorem emod_digit (x p : Int) (hp : 0 < p) : x % (p * 256) = x % p + (x / p) % 256 * p := by
  have h1 := Int.mul_ediv_add_emod x p
  have h2 := Int.mul_ediv_add_emod (x / p) 256
  have a0 := Int.emod_nonneg x (show p ≠ 0 by omega)
  have a1 := Int.emod_lt_of_pos x hp
  have b0 := Int.emod_nonneg (x / p) (show (256 : Int) ≠ 0 by omega)
  have b1 := Int.emod_lt_of_pos (x / p) (show (0 : Int) < 256 by omega)
  have e : x = (x % p + (x / p) % 256 * p) + (p * 256) * (x / p / 256) := by
    have e3 : p * (x / p) = p * (256 * (x / p / 256) + x / p % 256) := by rw [h2]
    rw [Int.mul_add] at e3
    have e4 : p * (256 * (x / p / 256)) = (p * 256) * (x / p / 256) := by rw [Int.mul_assoc]
    have e5 : p * (x / p % 256) = x / p % 256 * p := Int.mul_comm _ _
    omega
  have m0 : 0 ≤ (x / p) % 256 * p := Int.mul_nonneg b0 (by omega)
  have m1 : (x / p) % 256 * p ≤ 255 * p := Int.mul_le_mul_of_nonneg_right (by omega) (by omega)
  generalize hr : x % p + (x / p) % 256 * p = r at *
  conv => lhs; rw [e]
  rw [Int.add_mul_emod_self_left, Int.emod_eq_of_lt (by omega) (by omega)]
/-- A reader of draws that is within its bytes. -/
def Cur (s : List Int) (i : Int) : Prop := 0 ≤ i ∧ i ≤ s.length ∧ s.length ≤ 1048576
theorem l1New_ev (l : List Int) (hl : l.length ≤ 1048576) : ∃ h, Ev (fun k => spec_l1New.f k l) (l, 0, h) := by
  unfold spec_l1New.f
  have key : ∀ (d : Nat) (i h : Int), 0 ≤ i → i + d = l.length → ∃ h', Ev (fun k => spec_l1New.l0 k l h i) (l, 0, h') := by
    intro d
    induction d with
    | zero =>
      intro i h h0 hi
      exact ⟨_, Ev.step (fun k => by rw [spec_l1New.l0]) (by exact Ev.neg (by omega) (Ev.now _))⟩
    | succ d ih =>
      intro i h h0 hi
      by_cases h4 : i < 4000
      · obtain ⟨h', hr⟩ := ih (i + 1) (Go.bits .and .i64 (wrap64 ((wrap64 ((wrap64 (h * 131)) + (wrap64 (rd l i)))) + 7)) 1073741823) (by omega) (by omega)
        refine ⟨h', Ev.step (fun k => by rw [spec_l1New.l0]) (Ev.pos (by omega) (Ev.pos h4 (Ev.pos h0 ?_)))⟩
        rw [wrap64_id (x := i + 1) (by omega) (by omega)]
        exact hr
      · exact ⟨_, Ev.step (fun k => by rw [spec_l1New.l0]) (by exact Ev.pos (by omega) (Ev.neg h4 (Ev.now _)))⟩
  exact key l.length 0 _ (by omega) (by omega)
theorem l1Byte_some (s : List Int) (i h : Int) (hc : Cur s i) : ∃ v i' h', spec_l1Byte.f s i h = some (v, i', h') ∧ 0 ≤ v ∧ v ≤ 255 ∧ Cur s i' := by
  obtain ⟨h0, h1, h2⟩ := hc
  unfold spec_l1Byte.f
  by_cases hlt : i < (s.length : Int)
  · rw [if_pos hlt, if_pos h0]
    refine ⟨_, _, _, rfl, (and_255 _).1, (and_255 _).2, ?_⟩
    rw [wrap64_id (by omega) (by omega)]
    exact ⟨by omega, by omega, h2⟩
  · rw [if_neg hlt]
    exact ⟨_, _, _, rfl, (and_255 _).1, (and_255 _).2, h0, h1, h2⟩
theorem l1Below_some (s : List Int) (i h n : Int) (hc : Cur s i) : ∃ v i' h', spec_l1Below.f s i h n = some (v, i', h') ∧ 0 ≤ v ∧ (0 < n → v < n) ∧ (n ≤ 0 → v = 0) ∧ Cur s i' := by
  unfold spec_l1Below.f
  by_cases hn : n ≤ 0
  · rw [if_pos hn]
    exact ⟨0, i, h, rfl, by omega, by omega, fun _ => rfl, hc⟩
  rw [if_neg hn]
  have hm : ∀ x : Int, 0 ≤ x → 0 ≤ Int.tmod x n ∧ Int.tmod x n < n := fun x hx => by
    rw [Int.tmod_eq_emod_of_nonneg hx]
    exact ⟨Int.emod_nonneg _ (by omega), Int.emod_lt_of_pos _ (by omega)⟩
  by_cases h256 : n ≤ 256
  · rw [if_pos h256]
    obtain ⟨v, i', h', e, v0, v1, hc'⟩ := l1Byte_some s i h hc
    rw [e]
    simp only [Option.bind_some]
    rw [if_neg (by omega)]
    exact ⟨_, _, _, rfl, (hm v v0).1, fun _ => (hm v v0).2, by omega, hc'⟩
  · rw [if_neg h256]
    obtain ⟨a, i1, h1, e1, a0, a1, c1⟩ := l1Byte_some s i h hc
    obtain ⟨b, i2, h2, e2, b0, b1, c2⟩ := l1Byte_some s i1 h1 c1
    obtain ⟨c, i3, h3, e3, c0, c1', c3⟩ := l1Byte_some s i2 h2 c2
    obtain ⟨d, i4, h4, e4, d0, d1, c4⟩ := l1Byte_some s i3 h3 c3
    rw [e1]; simp only [Option.bind_some]; rw [e2]; simp only [Option.bind_some]; rw [e3]; simp only [Option.bind_some]; rw [e4]; simp only [Option.bind_some]
    rw [if_neg (by omega)]
    have hx : 0 ≤ wrap64 ((wrap64 ((wrap64 ((wrap64 (a * 16777216)) + (wrap64 (b * 65536)))) + (wrap64 (c * 256)))) + d) := by
      rw [wrap64_id (x := a * 16777216) (by omega) (by omega), wrap64_id (x := b * 65536) (by omega) (by omega), wrap64_id (x := c * 256) (by omega) (by omega)]
      rw [wrap64_id (x := a * 16777216 + b * 65536) (by omega) (by omega), wrap64_id (x := a * 16777216 + b * 65536 + c * 256) (by omega) (by omega), wrap64_id (by omega) (by omega)]
      omega
    exact ⟨_, _, _, rfl, (hm _ hx).1, fun _ => (hm _ hx).2, by omega, c4⟩
theorem l1Once_some (s : List Int) (i h n : Int) (hc : Cur s i) : ∃ v i' h', spec_l1Once.f s i h n = some (v, i', h') ∧ Cur s i' := by
  unfold spec_l1Once.f
  obtain ⟨v, i', h', e, _, _, _, c⟩ := l1Below_some s i h n hc
  rw [e]
  exact ⟨_, _, _, rfl, c⟩
theorem l1DrawBytes_ev (s : List Int) (i h most : Int) (hc : Cur s i) (hm0 : 0 ≤ most) (hm : most ≤ 1000000) : ∃ (l : List Int) (i' h' : Int), Ev (fun k => spec_l1DrawBytes.f k s i h most) (l, i', h') ∧ (l.length : Int) ≤ most ∧ (∀ x ∈ l, 0 ≤ x ∧ x ≤ 255) ∧ Cur s i' := by
  unfold spec_l1DrawBytes.f
  rw [wrap64_id (by omega) (by omega)]
  obtain ⟨n, i1, h1, e1, n0, n1, _, c1⟩ := l1Below_some s i h (most + 1) hc
  have key : ∀ (d : Nat) (out : List Int) (j i h : Int), 0 ≤ j → j + d = n → out.length = j → (∀ x ∈ out, 0 ≤ x ∧ x ≤ 255) → Cur s i →
      ∃ (l : List Int) (i' h' : Int), Ev (fun k => spec_l1DrawBytes.l0 k out n j s i h) (l, i', h') ∧ (l.length : Int) = n ∧ (∀ x ∈ l, 0 ≤ x ∧ x ≤ 255) ∧ Cur s i' := by
    intro d
    induction d with
    | zero =>
      intro out j i h j0 hj ho hx hc
      exact ⟨out, i, h, Ev.step (fun k => by rw [spec_l1DrawBytes.l0]) (by exact Ev.neg (by omega) (Ev.now _)), by omega, hx, hc⟩
    | succ d ih =>
      intro out j i h j0 hj ho hx hc
      obtain ⟨v, i2, h2, e2, v0, v1, c2⟩ := l1Byte_some s i h hc
      obtain ⟨l, i3, h3, hr, hl, hx3, c3⟩ := ih (out ++ [v % 256]) (j + 1) i2 h2 (by omega) (by omega) (by simp; omega) (by
        intro x hx'
        rcases List.mem_append.1 hx' with h | h
        · exact hx x h
        · obtain rfl := List.mem_singleton.1 h
          omega) c2
      refine ⟨l, i3, h3, ?_, hl, hx3, c3⟩
      refine Ev.step (fun k => by rw [spec_l1DrawBytes.l0]) ?_
      refine Ev.pos (by omega) (Ev.here e2 (Ev.pos (by omega) ?_))
      rw [wrap64_id (x := j + 1) (by omega) (by omega)]
      exact hr
  obtain ⟨l, i', h', hr, hl, hx, c⟩ := key n.toNat [] 0 i1 h1 (by omega) (by omega) (by simp) (by simp) c1
  exact ⟨l, i', h', Ev.here e1 hr, by omega, hx, c⟩
theorem l4DrawText_ev (s : List Int) (i h most : Int) (hc : Cur s i) (hm0 : 0 ≤ most) (hm : most ≤ 1000000) : ∃ (t : ByteArray) (i' h' : Int), Ev (fun k => spec_l4DrawText.f k s i h most) (t, i', h') ∧ (t.size : Int) ≤ most ∧ Cur s i' := by
  unfold spec_l4DrawText.f
  obtain ⟨l, i', h', hr, hl, _, c⟩ := l1DrawBytes_ev s i h most hc hm0 hm
  exact ⟨_, _, _, Ev.bind hr (Ev.now _), by rw [strOfNums_size]; exact hl, c⟩
theorem l1PickInt_some (s : List Int) (i h : Int) (l : List Int) (hc : Cur s i) (hl : 0 < l.length) : ∃ v i' h', spec_l1PickInt.f s i h l = some (v, i', h') ∧ v ∈ l ∧ Cur s i' := by
  unfold spec_l1PickInt.f
  obtain ⟨v, i', h', e, v0, v1, _, c⟩ := l1Below_some s i h (l.length : Int) hc
  rw [e]; simp only [Option.bind_some]
  have := v1 (by omega)
  rw [if_pos v0, if_pos this, rd_eq (by omega)]
  exact ⟨_, _, _, rfl, List.getElem_mem _, c⟩
theorem l1Pick_some (s : List Int) (i h : Int) (l : List ByteArray) (hc : Cur s i) (hl : 0 < l.length) : ∃ v i' h', spec_l1Pick.f s i h l = some (v, i', h') ∧ v ∈ l ∧ Cur s i' := by
  unfold spec_l1Pick.f
  obtain ⟨v, i', h', e, v0, v1, _, c⟩ := l1Below_some s i h (l.length : Int) hc
  rw [e]; simp only [Option.bind_some]
  have := v1 (by omega)
  rw [if_pos v0, if_pos this, rdOf_eq (by omega)]
  exact ⟨_, _, _, rfl, List.getElem_mem _, c⟩
def I64 (x : Int) : Prop := -9223372036854775808 ≤ x ∧ x ≤ 9223372036854775807
theorem I64_wrap (x : Int) : I64 (wrap64 x) := ⟨wrap64_lo x, wrap64_hi x⟩
theorem l2DrawNum_some (s : List Int) (i h : Int) (hc : Cur s i) : ∃ v i' h', spec_l2DrawNum.f s i h = some (v, i', h') ∧ I64 v ∧ Cur s i' := by
  unfold spec_l2DrawNum.f
  obtain ⟨a, i1, h1, e1, a0, a1, _, c1⟩ := l1Below_some s i h 1000000 hc
  obtain ⟨b, i2, h2, e2, b0, b1, _, c2⟩ := l1Below_some s i1 h1 1000000 c1
  obtain ⟨c, i3, h3, e3, c0, c1', _, c3⟩ := l1Below_some s i2 h2 300 c2
  have := a1 (by omega); have := b1 (by omega); have := c1' (by omega)
  obtain ⟨v, i4, h4, e4, hv, c4⟩ := l1PickInt_some s i3 h3 ([0, 1, (-1), 63, 64, (-64), (-65), 127, 128, 16383, 16384, 2147483647, (-2147483648), 9223372036854775807, (-9223372036854775808), 4611686018427387904, a, wrap64 (-b), c] : List Int) c3 (by simp)
  refine ⟨v, i4, h4, ?_, ?_, c4⟩
  · rw [e1]; simp only [Option.bind_some]; rw [e2]; simp only [Option.bind_some]; rw [e3]; simp only [Option.bind_some]; rw [e4]; rfl
  · have w0 := wrap64_lo (-b); have w1 := wrap64_hi (-b)
    simp only [List.mem_cons, List.not_mem_nil, or_false] at hv
    unfold I64; omega
theorem l6DrawType_some (s : List Int) (i h : Int) (hc : Cur s i) : ∃ t i' h', spec_l6DrawType.f s i h = some (t, i', h') ∧ -1 ≤ t ∧ t ≤ 7 ∧ Cur s i' := by
  unfold spec_l6DrawType.f
  obtain ⟨o, i1, h1, e1, c1⟩ := l1Once_some s i h 25 hc
  rw [e1]; simp only [Option.bind_some]
  by_cases ho : o = true
  · rw [if_pos ho]
    obtain ⟨v, i2, h2, e2, hv, c2⟩ := l1PickInt_some s i1 h1 ([3, 4, 7, (-1)] : List Int) c1 (by simp)
    rw [e2]
    simp only [List.mem_cons, List.not_mem_nil, or_false] at hv
    exact ⟨_, _, _, rfl, by dsimp only; omega, by dsimp only; omega, c2⟩
  · rw [if_neg ho]
    obtain ⟨v, i2, h2, e2, hv, c2⟩ := l1PickInt_some s i1 h1 ([0, 1, 2, 5, 6] : List Int) c1 (by simp)
    rw [e2]
    simp only [List.mem_cons, List.not_mem_nil, or_false] at hv
    exact ⟨_, _, _, rfl, by dsimp only; omega, by dsimp only; omega, c2⟩
/-- A drawn value: a number of 64 bits, a text of at most 41 bytes. -/
def DrawnV (v : Int) (x : ByteArray) : Prop := I64 v ∧ x.size ≤ 41
theorem DrawnV.num {v : Int} (h : I64 v) : DrawnV v (⟨#[]⟩ : ByteArray) := ⟨h, by decide⟩
theorem l6DrawRight_ev (s : List Int) (i h : Int) (t : Int) (hc : Cur s i) : ∃ v x i' h', Ev (fun k => spec_l6DrawRight.f k s i h t) (v, x, i', h') ∧ DrawnV v x ∧ Cur s i' := by
  unfold spec_l6DrawRight.f
  by_cases h0 : t = 0
  · obtain ⟨v, i1, h1, e1, v0, v1, _, c1⟩ := l1Below_some s i h 2 hc
    have := v1 (by omega)
    exact ⟨_, _, _, _, Ev.pos h0 (Ev.here e1 (Ev.now _)), DrawnV.num (by unfold I64; (try dsimp only); omega), c1⟩
  by_cases h1 : t = 1
  · obtain ⟨o, i1, h1', e1, c1⟩ := l1Once_some s i h 6 hc
    by_cases ho : o = true
    · obtain ⟨v, i2, h2, e2, hv, c2⟩ := l1PickInt_some s i1 h1' ([2147483647, (-2147483648), 0] : List Int) c1 (by simp)
      simp only [List.mem_cons, List.not_mem_nil, or_false] at hv
      exact ⟨_, _, _, _, Ev.neg h0 (Ev.pos h1 (Ev.here e1 (Ev.pos ho (Ev.here e2 (Ev.now _))))), DrawnV.num (by unfold I64; (try dsimp only); omega), c2⟩
    · obtain ⟨v, i2, h2, e2, v0, v1, _, c2⟩ := l1Below_some s i1 h1' 40 c1
      exact ⟨_, _, _, _, Ev.neg h0 (Ev.pos h1 (Ev.here e1 (Ev.neg ho (Ev.here e2 (Ev.now _))))), DrawnV.num (I64_wrap _), c2⟩
  by_cases h6 : t = 6
  · obtain ⟨o, i1, h1', e1, c1⟩ := l1Once_some s i h 3 hc
    by_cases ho : o = true
    · obtain ⟨v, i2, h2, e2, hv, c2⟩ := l1Pick_some s i1 h1' ([(⟨#[]⟩ : ByteArray), (⟨#[97]⟩ : ByteArray), (⟨#[97, 98]⟩ : ByteArray), (⟨#[97, 98, 99]⟩ : ByteArray), (⟨#[97, 98, 100]⟩ : ByteArray), (⟨#[98]⟩ : ByteArray), (⟨#[97, 97]⟩ : ByteArray)] : List ByteArray) c1 (by simp)
      refine ⟨_, _, _, _, Ev.neg h0 (Ev.neg h1 (Ev.pos h6 (Ev.here e1 (Ev.pos ho (Ev.here e2 (Ev.now _)))))), ⟨by unfold I64; (try dsimp only); omega, ?_⟩, c2⟩
      simp only [List.mem_cons, List.not_mem_nil, or_false] at hv
      rcases hv with rfl | rfl | rfl | rfl | rfl | rfl | rfl <;> (dsimp only; decide)
    · obtain ⟨x, i2, h2, e2, hs, c2⟩ := l4DrawText_ev s i1 h1' 6 c1 (by omega) (by omega)
      exact ⟨_, _, _, _, Ev.neg h0 (Ev.neg h1 (Ev.pos h6 (Ev.here e1 (Ev.neg ho (Ev.bind e2 (Ev.now _)))))), ⟨by unfold I64; (try dsimp only); omega, by dsimp only; omega⟩, c2⟩
  by_cases h5 : t = 5
  · obtain ⟨a, i1, h1', e1, a0, a1, _, c1⟩ := l1Below_some s i h 9 hc
    have := a1 (by omega)
    obtain ⟨b, i2, h2, e2, hb, c2⟩ := l2DrawNum_some s i1 h1' c1
    obtain ⟨v, i3, h3, e3, hv, c3⟩ := l1PickInt_some s i2 h2 ([0, (-9223372036854775808), 4607182418800017408, (-4616189618054758400), 9221120237041090560, (-2251799813685248), a, b] : List Int) c2 (by simp)
    simp only [List.mem_cons, List.not_mem_nil, or_false] at hv
    refine ⟨_, _, _, _, Ev.neg h0 (Ev.neg h1 (Ev.neg h6 (Ev.pos h5 (Ev.here e1 (Ev.here e2 (Ev.here e3 (Ev.now _))))))), DrawnV.num ?_, c3⟩
    unfold I64 at *; dsimp only; omega
  · obtain ⟨o, i1, h1', e1, c1⟩ := l1Once_some s i h 2 hc
    by_cases ho : o = true
    · obtain ⟨v, i2, h2, e2, v0, v1, _, c2⟩ := l1Below_some s i1 h1' 30 c1
      exact ⟨_, _, _, _, Ev.neg h0 (Ev.neg h1 (Ev.neg h6 (Ev.neg h5 (Ev.here e1 (Ev.pos ho (Ev.here e2 (Ev.now _))))))), DrawnV.num (I64_wrap _), c2⟩
    · obtain ⟨v, i2, h2, e2, hv, c2⟩ := l2DrawNum_some s i1 h1' c1
      exact ⟨_, _, _, _, Ev.neg h0 (Ev.neg h1 (Ev.neg h6 (Ev.neg h5 (Ev.here e1 (Ev.neg ho (Ev.here e2 (Ev.now _))))))), DrawnV.num hv, c2⟩
theorem l6DrawVal_ev (s : List Int) (i h : Int) (t : Int) (hc : Cur s i) : ∃ v x i' h', Ev (fun k => spec_l6DrawVal.f k s i h t) (v, x, i', h') ∧ DrawnV v x ∧ Cur s i' := by
  unfold spec_l6DrawVal.f
  obtain ⟨v, x, i1, h1, e1, d1, c1⟩ := l6DrawRight_ev s i h t hc
  obtain ⟨n, i2, h2, e2, n0, n1, _, c2⟩ := l1Below_some s i1 h1 25 c1
  by_cases z : n = 0
  · obtain ⟨w, i3, h3, e3, hw, c3⟩ := l1PickInt_some s i2 h2 ([2, (-1), 2147483648, (-2147483649)] : List Int) c2 (by simp)
    simp only [List.mem_cons, List.not_mem_nil, or_false] at hw
    exact ⟨_, _, _, _, Ev.bind e1 (Ev.here e2 (Ev.pos z (Ev.here e3 (Ev.now _)))), ⟨by unfold I64; (try dsimp only); omega, d1.2⟩, c3⟩
  by_cases o : n = 1
  · obtain ⟨m, i3, h3, e3, m0, m1, _, c3⟩ := l1Below_some s i2 h2 2 c2
    have := m1 (by omega)
    refine ⟨_, _, _, _, Ev.bind e1 (Ev.here e2 (Ev.neg z (Ev.pos o (Ev.here e3 (Ev.pos ?_ (Ev.pos ?_ (Ev.now _))))))), ⟨d1.1, ?_⟩, c3⟩
    · rw [wrap64_id (by dsimp only; omega) (by dsimp only; omega)]; dsimp only; omega
    · rw [wrap64_id (by dsimp only; omega) (by dsimp only; omega)]; dsimp only; omega
    · rw [wrap64_id (by dsimp only; omega) (by dsimp only; omega)]
      rw [strOfNums_size, List.length_replicate]; dsimp only; omega
  · exact ⟨_, _, _, _, Ev.bind e1 (Ev.here e2 (Ev.neg z (Ev.neg o (Ev.now _)))), d1, c2⟩
def DrawnL (l : List S83) : Prop := ∀ v ∈ l, DrawnV v.f0 v.f1
theorem DrawnL.snoc {l : List S83} {v : S83} (h : DrawnL l) (hv : DrawnV v.f0 v.f1) : DrawnL (l ++ [v]) := fun x hx => by
  rcases List.mem_append.1 hx with h' | h'
  · exact h x h'
  · obtain rfl := List.mem_singleton.1 h'; exact hv
theorem l6DrawList_ev (s : List Int) (i h : Int) (t most : Int) (hc : Cur s i) (hm0 : 0 ≤ most) (hm : most ≤ 100000) : ∃ (l : List S83) (i' h' : Int), Ev (fun k => spec_l6DrawList.f k s i h t most) (l, i', h') ∧ (l.length : Int) ≤ most + 1 ∧ DrawnL l ∧ Cur s i' := by
  unfold spec_l6DrawList.f
  rw [wrap64_id (x := most + 1) (by omega) (by omega)]
  obtain ⟨n, i1, h1, e1, n0, n1, _, c1⟩ := l1Below_some s i h (most + 1) hc
  have hn := n1 (by omega)
  have key : ∀ (d : Nat) (out : List S83) (j i h : Int), 0 ≤ j → j + d = n → out.length = j → DrawnL out → Cur s i →
      ∃ (l : List S83) (i' h' : Int), Ev (fun k => spec_l6DrawList.l0 k t out n j s i h) (l, i', h') ∧ (l.length : Int) ≤ n + 1 ∧ DrawnL l ∧ Cur s i' := by
    intro d
    induction d with
    | zero =>
      intro out j i h j0 hj ho hd hc
      obtain ⟨o, i2, h2, e2, c2⟩ := l1Once_some s i h 20 hc
      by_cases hb : o = true
      · obtain ⟨v, x, i3, h3, e3, d3, c3⟩ := l6DrawVal_ev s i2 h2 t c2
        refine ⟨out ++ [⟨v, x⟩], i3, h3, ?_, by simp; omega, hd.snoc d3, c3⟩
        refine Ev.step (fun k => by rw [spec_l6DrawList.l0]) ?_
        exact Ev.neg (by omega) (Ev.here e2 (Ev.pos hb (Ev.bind e3 (Ev.pos (by omega) (Ev.now _)))))
      · refine ⟨out, i2, h2, ?_, by omega, hd, c2⟩
        refine Ev.step (fun k => by rw [spec_l6DrawList.l0]) ?_
        exact Ev.neg (by omega) (Ev.here e2 (Ev.neg hb (Ev.now _)))
    | succ d ih =>
      intro out j i h j0 hj ho hd hc
      have hr : ∀ i h, Cur s i → ∃ (l : List S83) (i' h' : Int), Ev (fun k => spec_l6DrawList.j1 k t out n j false s i h) (l, i', h') ∧ (l.length : Int) ≤ n + 1 ∧ DrawnL l ∧ Cur s i' := by
        intro i h hc
        obtain ⟨v, x, i3, h3, e3, d3, c3⟩ := l6DrawRight_ev s i h t hc
        obtain ⟨l, i4, h4, e4, hl, hd4, c4⟩ := ih (out ++ [⟨v, x⟩]) (j + 1) i3 h3 (by omega) (by omega) (by simp; omega) (hd.snoc d3) c3
        refine ⟨l, i4, h4, ?_, hl, hd4, c4⟩
        refine Ev.step (fun k => by rw [spec_l6DrawList.j1]) ?_
        refine Ev.neg (by decide) (Ev.bind e3 (Ev.pos (by omega) ?_))
        rw [wrap64_id (x := j + 1) (by omega) (by omega)]
        exact e4
      by_cases hj0 : j > 0
      · obtain ⟨o, i2, h2, e2, c2⟩ := l1Once_some s i h 3 hc
        by_cases hb : o = true
        · obtain ⟨m, i3, h3, e3, m0, m1, _, c3⟩ := l1Below_some s i2 h2 j c2
          have hm1 := m1 (by omega)
          have hmem : rd_T83 out m ∈ out := by
            have e : rd_T83 out m = out.getD m.toNat z83 := rfl
            rw [e, getD_eq (by omega)]; exact List.getElem_mem _
          obtain ⟨l, i4, h4, e4, hl, hd4, c4⟩ := ih (out ++ [rd_T83 out m]) (j + 1) i3 h3 (by omega) (by omega) (by simp; omega) (hd.snoc (hd _ hmem)) c3
          refine ⟨l, i4, h4, ?_, hl, hd4, c4⟩
          refine Ev.step (fun k => by rw [spec_l6DrawList.l0]) ?_
          refine Ev.pos (by omega) (Ev.pos hj0 (Ev.here e2 ?_))
          refine Ev.step (fun k => by rw [spec_l6DrawList.j1]) ?_
          refine Ev.pos hb (Ev.here e3 (Ev.pos m0 (Ev.pos (by dsimp only; omega) (Ev.pos (by omega) ?_))))
          rw [wrap64_id (x := j + 1) (by omega) (by omega)]
          exact e4
        · obtain ⟨l, i4, h4, e4, hl, hd4, c4⟩ := hr i2 h2 c2
          refine ⟨l, i4, h4, ?_, hl, hd4, c4⟩
          refine Ev.step (fun k => by rw [spec_l6DrawList.l0]) ?_
          refine Ev.pos (by omega) (Ev.pos hj0 (Ev.here e2 ?_))
          have : o = false := by simpa using hb
          rw [this]; exact e4
      · obtain ⟨l, i4, h4, e4, hl, hd4, c4⟩ := hr i h hc
        refine ⟨l, i4, h4, ?_, hl, hd4, c4⟩
        refine Ev.step (fun k => by rw [spec_l6DrawList.l0]) ?_
        exact Ev.pos (by omega) (Ev.neg hj0 e4)
  obtain ⟨l, i', h', e, hl, hd, c⟩ := key n.toNat [] 0 i1 h1 (by omega) (by omega) (by simp) (by intro x hx; cases hx) c1
  exact ⟨l, i', h', Ev.here e1 e, by omega, hd, c⟩
def tOk (t : Int) : Bool := decide (t = 0 ∨ t = 1 ∨ t = 2 ∨ t = 5 ∨ t = 6)
theorem l5Type_some (t : Int) : spec_l5Type.f t = some (tOk t) := by
  unfold spec_l5Type.f
  (repeat' split) <;> simp_all [tOk]
theorem l1In_same (x lo hi : Int) : (if x ≥ lo then some (decide (x ≤ hi)) else some false) = some (decide (lo ≤ x ∧ x ≤ hi)) := by
  by_cases h : x ≥ lo
  · rw [if_pos h]; congr 1; simp; omega
  · rw [if_neg h]; congr 1; symm; simp; omega
theorem within_some (x lo hi : Int) : impl_within.f x lo hi = some (decide (lo ≤ x ∧ x ≤ hi)) := by unfold impl_within.f; exact l1In_same x lo hi
theorem typeOk_some (t : Int) : impl_TypeOk.f t = some (tOk t) := by
  unfold impl_TypeOk.f
  rw [within_some]
  simp only [Option.bind_some]
  by_cases h : 0 ≤ t ∧ t ≤ 2
  · rw [if_pos (by simpa using h)]
    have : t = 0 ∨ t = 1 ∨ t = 2 := by omega
    rcases this with rfl | rfl | rfl <;> rfl
  · rw [if_neg (by simpa using h)]
    by_cases h5 : t = 5
    · subst h5; rfl
    · rw [if_neg h5]
      by_cases h6 : t = 6
      · subst h6; rfl
      · have h0 : t ≠ 0 := by omega
        have h1 : t ≠ 1 := by omega
        have h2 : t ≠ 2 := by omega
        simp [tOk, h0, h1, h2, h5, h6]
def wideB (t : Int) : Int := if t = 1 then 4 else if t = 2 then 8 else if t = 5 then 8 else 0
theorem wideOf_some (t : Int) : impl_wideOf.f t = some (wideB t) := by unfold impl_wideOf.f wideB; (repeat' split) <;> rfl
theorem splitWide_some (t : Int) : spec_SplitWide.f t = some (wideB t) := wideOf_some t
def noText (s : ByteArray) : Bool := s.toList == ([] : List UInt8)
def vOk (t : Int) (v : S83) : Bool :=
  if t = 0 then decide (0 ≤ v.f0 ∧ v.f0 ≤ 1) && noText v.f1
  else if t = 1 then decide (-2147483648 ≤ v.f0 ∧ v.f0 ≤ 2147483647) && noText v.f1
  else if t = 2 ∨ t = 5 then noText v.f1
  else if t = 6 then decide (v.f0 = 0) && decide ((v.f1.size : Int) ≤ 40) else false
theorem l1In_some (x lo hi : Int) : spec_l1In.f x lo hi = some (decide (lo ≤ x ∧ x ≤ hi)) := by unfold spec_l1In.f; exact l1In_same x lo hi
theorem impl_ValOk_some (t : Int) (v : S83) : impl_ValOk.f t v.f0 v.f1 = some (vOk t v) := by
  unfold impl_ValOk.f impl_isInt32.f vOk noText
  simp only [within_some, Option.bind_some]
  by_cases h0 : t = 0
  · rw [if_pos h0, if_pos h0]; by_cases h : 0 ≤ v.f0 ∧ v.f0 ≤ 1 <;> simp [h]
  rw [if_neg h0, if_neg h0]
  by_cases h1 : t = 1
  · rw [if_pos h1, if_pos h1]; by_cases h : -2147483648 ≤ v.f0 ∧ v.f0 ≤ 2147483647 <;> simp [h]
  rw [if_neg h1, if_neg h1]
  by_cases h2 : t = 2
  · rw [if_pos h2, if_pos (show t = 2 ∨ t = 5 from .inl h2)]
  rw [if_neg h2]
  by_cases h5 : t = 5
  · rw [if_pos h5, if_pos (show t = 2 ∨ t = 5 from .inr h5)]
  rw [if_neg h5, if_neg (show ¬ (t = 2 ∨ t = 5) by omega)]
  by_cases h6 : t = 6
  · rw [if_pos h6, if_pos h6]; by_cases h : v.f0 = 0 <;> simp [h]
  · rw [if_neg h6, if_neg h6]
theorem spec_ValOk_ev (t : Int) (v : S83) : Ev (fun k => spec_ValOk.f k t v.f0 v.f1) (vOk t v) := by
  refine ⟨2, fun k hk => ?_⟩
  obtain ⟨m, rfl⟩ : ∃ m, k = m + 2 := ⟨k - 2, by omega⟩
  unfold spec_ValOk.f spec_l4Int.f vOk noText
  simp only [l1In_some, Option.bind_some, spec_ValOk.j0]
  by_cases h0 : t = 0
  · rw [if_pos h0, if_pos h0]; by_cases h : 0 ≤ v.f0 ∧ v.f0 ≤ 1 <;> simp [h]
  rw [if_neg h0, if_neg h0]
  by_cases h1 : t = 1
  · rw [if_pos h1, if_pos h1]; by_cases h : -2147483648 ≤ v.f0 ∧ v.f0 ≤ 2147483647 <;> simp [h]
  rw [if_neg h1, if_neg h1]
  by_cases h2 : t = 2
  · rw [if_pos (show t = 2 ∨ t = 5 from .inl h2)]; simp [h2]
  rw [if_neg h2]
  by_cases h5 : t = 5
  · rw [if_pos (show t = 2 ∨ t = 5 from .inr h5)]; simp [h5]
  rw [if_neg (show ¬ (t = 2 ∨ t = 5) by omega)]
  by_cases h6 : t = 6
  · rw [if_pos h6]; by_cases h : v.f0 = 0 <;> simp [h, h6]
  · rw [if_neg h6]; simp [h5, h6]
def vsOk (t : Int) (l : List S83) : Bool := decide ((l.length : Int) ≤ 2000) && tOk t && l.all (vOk t)
theorem impl_valsOk_ev (t : Int) (l : List S83) (hl : l.length ≤ 1048576) : Ev (fun k => impl_valsOk.f k t l) (vsOk t l) := by
  unfold impl_valsOk.f
  have key := all_loop (fun k i => impl_valsOk.l0 k t l l (l.length : Int) i) (fun i => vOk t (l.getD i z83)) l.length false (decide ((l.length : Int) ≤ 2000) && tOk t)
    (fun i r hi hp hr => by
      have e : rd_T83 l (i : Int) = l.getD i z83 := rfl
      refine Ev.step (fun k => by rw [impl_valsOk.l0]) ?_
      refine Ev.pos (by omega) (Ev.pos (by omega) (Ev.pos (by omega) (Ev.here (impl_ValOk_some t _) ?_)))
      rw [e, hp]
      refine Ev.pos rfl ?_
      rw [wrap64_id (by omega) (by omega)]
      simpa using hr)
    (fun i hi hp => by
      have e : rd_T83 l (i : Int) = l.getD i z83 := rfl
      refine Ev.step (fun k => by rw [impl_valsOk.l0]) ?_
      refine Ev.pos (by omega) (Ev.pos (by omega) (Ev.pos (by omega) (Ev.here (impl_ValOk_some t _) ?_)))
      rw [e, hp]
      exact Ev.neg (by decide) (Ev.now _))
    (by
      refine Ev.step (fun k => by rw [impl_valsOk.l0]) ?_
      refine Ev.neg (by omega) ?_
      by_cases h : (l.length : Int) ≤ 2000
      · refine Ev.pos h (Ev.here (typeOk_some t) (Ev.const ?_))
        simp [h]
      · refine Ev.neg h (Ev.const ?_)
        simp [h])
  refine Ev.cast key ?_
  rw [all_range]
  unfold vsOk
  cases l.all (vOk t) <;> simp
theorem spec_l6Vals_ev (t : Int) (l : List S83) (hl : l.length ≤ 1048576) : Ev (fun k => spec_l6Vals.f k t l) (vsOk t l) := by
  have bad : vsOk t l = false → Ev (fun k => spec_l6Vals.j0 k t l true) (vsOk t l) := fun h => by
    rw [h]
    exact Ev.step (fun k => by rw [spec_l6Vals.j0]) (by exact Ev.pos rfl (Ev.now _))
  unfold spec_l6Vals.f
  by_cases h : (l.length : Int) > 2000
  · exact Ev.pos h (bad (by simp [vsOk]; omega))
  refine Ev.neg h (Ev.here (l5Type_some t) ?_)
  cases ht : tOk t with
  | false => exact bad (by simp [vsOk, ht])
  | true =>
    refine Ev.step (fun k => by rw [spec_l6Vals.j0]) ?_
    refine Ev.neg (by decide) ?_
    have key := all_loop (fun k i => spec_l6Vals.l0 k t l i) (fun i => vOk t (l.getD i z83)) l.length false true
      (fun i r hi hp hr => by
        have e : rd_T83 l (i : Int) = l.getD i z83 := rfl
        refine Ev.step (fun k => by rw [spec_l6Vals.l0]) ?_
        refine Ev.pos (by omega) (Ev.pos (by omega) (Ev.bind (spec_ValOk_ev t _) ?_))
        rw [e, hp]
        refine Ev.pos rfl ?_
        rw [wrap64_id (by omega) (by omega)]
        simpa using hr)
      (fun i hi hp => by
        have e : rd_T83 l (i : Int) = l.getD i z83 := rfl
        refine Ev.step (fun k => by rw [spec_l6Vals.l0]) ?_
        refine Ev.pos (by omega) (Ev.pos (by omega) (Ev.bind (spec_ValOk_ev t _) ?_))
        rw [e, hp]
        exact Ev.neg (by decide) (Ev.now _))
      (by exact Ev.step (fun k => by rw [spec_l6Vals.l0]) (by exact Ev.neg (by omega) (Ev.now _)))
    refine Ev.cast key ?_
    rw [all_range]
    have h2 : (l.length : Int) ≤ 2000 := by omega
    cases ha : l.all (vOk t) <;> simp [vsOk, ht, ha, h2]
/-- Byte number k of value number i. -/
def sb (l : List S83) (k i : Nat) : Int := (shr .i64 ((rd_T83 l (i : Int)).f0) (wrap64 (8 * (k : Int)))) % 256
def splitBytes (l : List S83) (w : Nat) : List Int := (List.range (w * l.length)).map fun (j : Nat) => sb l (j / l.length) (j % l.length)
theorem splitBytes_length (l : List S83) (w : Nat) : (splitBytes l w).length = w * l.length := by simp [splitBytes]
theorem impl_split_row (l : List S83) (hl : l.length ≤ 2000) (w k : Nat) (hk : k < w) (hw : w ≤ 8) (r)
    (h : Ev (fun n => impl_SplitPack.l0 n l (splitBytes l (k + 1)) (w : Int) (k + 1 : Nat)) r) : Ev (fun n => impl_SplitPack.l1 n l (splitBytes l k) (k : Int) (w : Int) (k : Int) l (l.length : Int) 0) r := by
  have e : splitBytes l (k + 1) = splitBytes l k ++ (List.range l.length).map (fun (i : Nat) => sb l k i) := by
    unfold splitBytes
    rw [Nat.add_mul, Nat.one_mul, List.range_add, List.map_append, List.map_map]
    congr 1
    apply List.map_congr_left
    intro i hi
    have hlt := List.mem_range.1 hi
    simp only [Function.comp]
    rw [Nat.add_comm, Nat.add_mul_div_right _ _ (by omega), Nat.div_eq_of_lt hlt, Nat.add_mul_mod_self_right, Nat.mod_eq_of_lt hlt, Nat.zero_add]
  have hb := splitBytes_length l k
  have hkl : k * l.length ≤ 8 * 2000 := Nat.mul_le_mul (by omega) hl
  refine append_from (fun n out i => impl_SplitPack.l1 n l out (k : Int) (w : Int) (k : Int) l (l.length : Int) i) (fun (i : Nat) => sb l k i) l.length r (splitBytes l k) (fun i s hi hs hr => ?_) ?_
  · refine Ev.step (fun k => by rw [impl_SplitPack.l1]) ?_
    refine Ev.pos (by omega) (Ev.pos (by omega) (Ev.pos (by omega) (Ev.pos (by rw [wrap64_id (by omega) (by omega)]; omega) (Ev.pos (by omega) ?_))))
    rw [wrap64_id (x := (i : Int) + 1) (by omega) (by omega)]
    simpa [sb] using hr
  · refine Ev.step (fun k => by rw [impl_SplitPack.l1]) ?_
    refine Ev.neg (by omega) ?_
    rw [wrap64_id (x := (k : Int) + 1) (by omega) (by omega), ← e]
    simpa using h
theorem impl_split_all (l : List S83) (hl : l.length ≤ 2000) (w : Nat) (hw : w ≤ 8) : Ev (fun n => impl_SplitPack.l0 n l [] (w : Int) 0) (splitBytes l w, true) := by
  have key : ∀ (d k : Nat), k + d = w → Ev (fun n => impl_SplitPack.l0 n l (splitBytes l k) (w : Int) (k : Int)) (splitBytes l w, true) := by
    intro d
    induction d with
    | zero =>
      intro k hk
      obtain rfl : k = w := by omega
      exact Ev.step (fun k => by rw [impl_SplitPack.l0]) (by exact Ev.neg (by omega) (Ev.now _))
    | succ d ih =>
      intro k hk
      exact Ev.step (fun k => by rw [impl_SplitPack.l0]) (by exact Ev.pos (by omega) (impl_split_row l hl w k (by omega) hw _ (ih (k + 1) (by omega))))
  have := key w 0 (by omega)
  simpa [splitBytes] using this
theorem spec_split_all (l : List S83) (hl : l.length ≤ 2000) (w : Nat) (hw : w ≤ 8) : Ev (fun n => spec_SplitPack.l0 n l (w : Int) (l.length : Int) (List.replicate (w * l.length) 0) 0) (splitBytes l w, true) := by
  have hwl : w * l.length ≤ 8 * 2000 := Nat.mul_le_mul hw hl
  refine loop_inv (fun n out i => spec_SplitPack.l0 n l (w : Int) (l.length : Int) out i) (fun i out => (List.range w).foldl (fun (out : List Int) (k : Nat) => out.set (k * l.length + i) (sb l k i)) out) l.length _
    (fun i out => out.length = w * l.length ∧ ∀ k i', k < w → i' < i → out[k * l.length + i']? = some (sb l k i')) _ ⟨by simp, fun k i' _ h => absurd h (by omega)⟩ (fun i out hi ⟨ho, hp⟩ => ?_) (fun i out hi ⟨ho, hp⟩ hr => ?_) (fun out ⟨ho, hp⟩ _ => ?_)
  · have inner : ∀ m, m ≤ w → ((List.range m).foldl (fun (out : List Int) (k : Nat) => out.set (k * l.length + i) (sb l k i)) out).length = w * l.length ∧ ∀ k i', k < w → i' ≤ i → (i' < i ∨ k < m) → ((List.range m).foldl (fun (out : List Int) (k : Nat) => out.set (k * l.length + i) (sb l k i)) out)[k * l.length + i']? = some (sb l k i') := by
      intro m
      induction m with
      | zero => intro _; exact ⟨ho, fun k i' hk _ h => hp k i' hk (by omega)⟩
      | succ m ih =>
        intro hm
        obtain ⟨h1, h2⟩ := ih (by omega)
        rw [List.range_succ, List.foldl_append]
        simp only [List.foldl_cons, List.foldl_nil]
        refine ⟨by simpa using h1, fun k i' hk hle h => ?_⟩
        have hmw : (m + 1) * l.length ≤ w * l.length := Nat.mul_le_mul_right _ (by omega)
        rw [Nat.add_mul, Nat.one_mul] at hmw
        by_cases e : k = m ∧ i' = i
        · obtain ⟨rfl, rfl⟩ := e
          rw [List.getElem?_set_self (by omega)]
        · rw [List.getElem?_set_ne ?_]
          · exact h2 k i' hk hle (by omega)
          · intro he
            apply e
            rcases Nat.lt_trichotomy k m with hlt | heq | hgt
            · have : (k + 1) * l.length ≤ m * l.length := Nat.mul_le_mul_right _ hlt
              rw [Nat.add_mul, Nat.one_mul] at this; omega
            · subst heq; omega
            · have : (m + 1) * l.length ≤ k * l.length := Nat.mul_le_mul_right _ hgt
              rw [Nat.add_mul, Nat.one_mul] at this; omega
    obtain ⟨h1, h2⟩ := inner w (Nat.le_refl _)
    exact ⟨h1, fun k i' hk hi' => h2 k i' hk (by omega) (.inr hk)⟩
  · refine Ev.step (fun k => by rw [spec_SplitPack.l0]) ?_
    refine Ev.pos (by omega) ?_
    refine loop_inv (fun n out k => spec_SplitPack.l1 n l (w : Int) (l.length : Int) out (i : Int) k) (fun k out => out.set (k * l.length + i) (sb l k i)) w _ (fun _ out => out.length = w * l.length) out ho (fun k s _ h => by simpa using h) (fun k s hk hs hr2 => ?_) (fun s hs he => ?_)
    · have hmw : (k + 1) * l.length ≤ w * l.length := Nat.mul_le_mul_right _ (by omega)
      rw [Nat.add_mul, Nat.one_mul] at hmw
      have hc : ((k : Int) * (l.length : Int)) = ((k * l.length : Nat) : Int) := by push_cast; rfl
      refine Ev.step (fun k => by rw [spec_SplitPack.l1]) ?_
      rw [wrap64_id (x := (k : Int) * (l.length : Int)) (by omega) (by omega), hc, wrap64_id (x := ((k * l.length : Nat) : Int) + i) (by omega) (by omega)]
      refine Ev.pos (by omega) (Ev.pos (by omega) (Ev.pos (by omega) (Ev.pos (by rw [wrap64_id (by omega) (by omega)]; omega) (Ev.pos (by omega) (Ev.pos (by omega) ?_)))))
      rw [wrap64_id (x := (k : Int) + 1) (by omega) (by omega)]
      have e : (((k * l.length : Nat) : Int) + (i : Int)).toNat = k * l.length + i := by omega
      rw [e]
      simpa [sb] using hr2
    · refine Ev.step (fun k => by rw [spec_SplitPack.l1]) ?_
      refine Ev.neg (by omega) ?_
      rw [wrap64_id (x := (i : Int) + 1) (by omega) (by omega), he]
      simpa using hr
  · refine Ev.step (fun k => by rw [spec_SplitPack.l0]) ?_
    refine Ev.neg (by omega) (Ev.const ?_)
    congr 2
    apply List.ext_getElem?
    intro j
    by_cases hj : j < w * l.length
    · have hpos : 0 < l.length := by
        rcases Nat.eq_zero_or_pos l.length with h | h
        · rw [h] at hj; omega
        · exact h
      have h1 := hp (j / l.length) (j % l.length) (Nat.div_lt_of_lt_mul (by rw [Nat.mul_comm]; exact hj)) (Nat.mod_lt _ hpos)
      rw [Nat.mul_comm, Nat.div_add_mod] at h1
      rw [h1]
      unfold splitBytes
      rw [List.getElem?_map, List.getElem?_range hj]
      rfl
    · rw [List.getElem?_eq_none (by omega), List.getElem?_eq_none (by rw [splitBytes_length]; omega)]
def splitR (t : Int) (l : List S83) : List Int × Bool := if wideB t ≠ 0 ∧ vsOk t l = true then (splitBytes l (wideB t).toNat, true) else ([], false)
theorem wideB_range (t : Int) : wideB t = 0 ∨ wideB t = 4 ∨ wideB t = 8 := by
  unfold wideB; split
  · simp
  · split
    · simp
    · split <;> simp
theorem vsOk_length {t : Int} {l : List S83} (h : vsOk t l = true) : l.length ≤ 2000 := by
  simp [vsOk] at h; omega
theorem spec_SplitPack_ev (t : Int) (l : List S83) (hl : l.length ≤ 1048576) : Ev (fun k => spec_SplitPack.f k t l) (splitR t l) := by
  unfold spec_SplitPack.f splitR
  refine Ev.here (splitWide_some t) ?_
  by_cases h0 : wideB t = 0
  · refine Ev.pos h0 ?_
    rw [if_neg (by simp [h0])]
    exact Ev.step (fun k => by rw [spec_SplitPack.j0]) (by exact Ev.pos rfl (Ev.now _))
  refine Ev.neg h0 (Ev.bind (spec_l6Vals_ev t l hl) ?_)
  cases hv : vsOk t l with
  | false =>
    rw [if_neg (by simp)]
    exact Ev.step (fun k => by rw [spec_SplitPack.j0]) (by exact Ev.pos rfl (Ev.now _))
  | true =>
    rw [if_pos ⟨h0, rfl⟩]
    have hl2 := vsOk_length hv
    obtain ⟨w, hw, hw8⟩ : ∃ w : Nat, wideB t = (w : Int) ∧ w ≤ 8 := ⟨(wideB t).toNat, by have := wideB_range t; omega, by have := wideB_range t; omega⟩
    have hwl : w * l.length ≤ 8 * 2000 := Nat.mul_le_mul hw8 hl2
    have hc : ((w : Int) * (l.length : Int)) = ((w * l.length : Nat) : Int) := by push_cast; rfl
    rw [hw]
    refine Ev.step (fun k => by rw [spec_SplitPack.j0]) ?_
    rw [hc, wrap64_id (x := ((w * l.length : Nat) : Int)) (by omega) (by omega)]
    refine Ev.neg (by decide) (Ev.pos (by omega) (Ev.pos (by omega) ?_))
    rw [Int.toNat_natCast]; exact spec_split_all l hl2 w hw8
theorem impl_SplitPack_ev (t : Int) (l : List S83) (hl : l.length ≤ 1048576) : Ev (fun k => impl_SplitPack.f k t l) (splitR t l) := by
  unfold impl_SplitPack.f impl_SplitWide.f splitR
  rw [wideOf_some]
  refine Ev.here rfl ?_
  by_cases h0 : wideB t = 0
  · refine Ev.pos h0 ?_
    rw [if_neg (by simp [h0])]
    exact Ev.step (fun k => by rw [impl_SplitPack.j0]) (by exact Ev.pos rfl (Ev.now _))
  refine Ev.neg h0 (Ev.bind (impl_valsOk_ev t l hl) ?_)
  cases hv : vsOk t l with
  | false =>
    rw [if_neg (by simp)]
    exact Ev.step (fun k => by rw [impl_SplitPack.j0]) (by exact Ev.pos rfl (Ev.now _))
  | true =>
    rw [if_pos ⟨h0, rfl⟩]
    have hl2 := vsOk_length hv
    obtain ⟨w, hw, hw8⟩ : ∃ w : Nat, wideB t = (w : Int) ∧ w ≤ 8 := ⟨(wideB t).toNat, by have := wideB_range t; omega, by have := wideB_range t; omega⟩
    rw [hw]
    refine Ev.step (fun k => by rw [impl_SplitPack.j0]) ?_
    refine Ev.neg (by decide) ?_
    simpa using impl_split_all l hl2 w hw8
theorem splitR_length (t : Int) (l : List S83) : (splitR t l).1.length ≤ 16000 := by
  unfold splitR
  split
  · rename_i h
    have hl2 := vsOk_length h.2
    rw [splitBytes_length]
    have := wideB_range t
    calc (wideB t).toNat * l.length ≤ 8 * 2000 := Nat.mul_le_mul (by omega) hl2
      _ = 16000 := rfl
  · simp
/-- Byte number kk of value number i, put into x. -/
def sstep (b : List Int) (at_ many i : Int) (x : Int) (kk : Nat) : Int :=
  Go.bits .or .i64 x (shl .i64 (wrap64 (rd b (wrap64 ((wrap64 (at_ + (wrap64 ((kk : Int) * many)))) + i)))) (wrap64 (8 * (kk : Int))))
def sval (b : List Int) (at_ many : Int) (wide : Nat) (i : Int) : Int := (List.range wide).foldl (fun x kk => sstep b at_ many i x kk) 0
def sgn (wide : Nat) (x : Int) : Int := if (wide : Int) = 4 then wrap64 (wrap32 x) else x
theorem rd_byte (b : List Int) (hb : ∀ x ∈ b, 0 ≤ x ∧ x ≤ 255) (j : Int) : 0 ≤ rd b j ∧ rd b j ≤ 255 := by
  by_cases h : j.toNat < b.length
  · rw [rd_eq h]; exact hb _ (List.getElem_mem h)
  · unfold rd; rw [List.getD_eq_getElem?_getD, List.getElem?_eq_none (by omega)]; simp
theorem shl_at (d : Int) (kk : Nat) (hk : kk ≤ 6) (h0 : 0 ≤ d) (h1 : d ≤ 255) : shl .i64 d (wrap64 (8 * (kk : Int))) = d * 2 ^ (8 * kk) := by
  have e : wrap64 (8 * (kk : Int)) = 8 * (kk : Int) := wrap64_id (by omega) (by omega)
  unfold shl
  rw [e]
  have e2 : min (8 * (kk : Int)).toNat IntKind.i64.bits = 8 * kk := by
    have : IntKind.i64.bits = 64 := rfl
    omega
  rw [e2, IntKind.wrap_i64]
  have h2 : (2 : Int) ^ (8 * kk) ≤ 2 ^ 48 := by
    have : (2 : Nat) ^ (8 * kk) ≤ 2 ^ 48 := Nat.pow_le_pow_right (by omega) (by omega)
    exact_mod_cast this
  have h3 : (0 : Int) < 2 ^ (8 * kk) := Int.pow_pos (by omega)
  have h4 : d * 2 ^ (8 * kk) ≤ 255 * 2 ^ 48 := Int.mul_le_mul h1 h2 (by omega) (by omega)
  have h5 : 0 ≤ d * 2 ^ (8 * kk) := Int.mul_nonneg h0 (by omega)
  omega
theorem sstep_range (b : List Int) (hb : ∀ x ∈ b, 0 ≤ x ∧ x ≤ 255) (at_ many i x : Int) (kk : Nat) (hk : kk ≤ 3) (hx0 : 0 ≤ x) (hx1 : x < 2 ^ (8 * kk)) :
    0 ≤ sstep b at_ many i x kk ∧ sstep b at_ many i x kk < 2 ^ (8 * (kk + 1)) := by
  have hd := rd_byte b hb (wrap64 ((wrap64 (at_ + (wrap64 ((kk : Int) * many)))) + i))
  unfold sstep
  rw [wrap64_id (x := rd b _) (by omega) (by omega), shl_at _ kk (by omega) hd.1 hd.2]
  have h3 : (0 : Int) < 2 ^ (8 * kk) := Int.pow_pos (by omega)
  have e : (2 : Int) ^ (8 * (kk + 1)) = 2 ^ (8 * kk) * 256 := by
    rw [Nat.mul_add, Int.pow_add]; rfl
  have h5 : 0 ≤ rd b (wrap64 ((wrap64 (at_ + (wrap64 ((kk : Int) * many)))) + i)) * 2 ^ (8 * kk) := Int.mul_nonneg hd.1 (by omega)
  have h4 : rd b (wrap64 ((wrap64 (at_ + (wrap64 ((kk : Int) * many)))) + i)) * 2 ^ (8 * kk) ≤ 255 * 2 ^ (8 * kk) := Int.mul_le_mul_of_nonneg_right hd.2 (by omega)
  exact or_range (8 * (kk + 1)) (by omega) hx0 (by rw [e]; omega) h5 (by rw [e]; omega)
theorem split_idx (at_ many i len : Int) (wide kk : Nat) (ha : 0 ≤ at_) (hm : 0 ≤ many) (hle : at_ + wide * many ≤ len) (hl : len ≤ 1048576) (hk : kk < wide) (hi0 : 0 ≤ i) (hi1 : i < many) :
    0 ≤ wrap64 ((wrap64 (at_ + (wrap64 ((kk : Int) * many)))) + i) ∧ wrap64 ((wrap64 (at_ + (wrap64 ((kk : Int) * many)))) + i) < len := by
  have h1 : ((kk : Int) + 1) * many ≤ (wide : Int) * many := Int.mul_le_mul_of_nonneg_right (by omega) hm
  rw [Int.add_mul, Int.one_mul] at h1
  have h2 : 0 ≤ (kk : Int) * many := Int.mul_nonneg (by omega) hm
  rw [wrap64_id (x := (kk : Int) * many) (by omega) (by omega), wrap64_id (x := at_ + (kk : Int) * many) (by omega) (by omega), wrap64_id (by omega) (by omega)]
  omega
theorem sgn_spec (wide : Nat) (x : Int) (h : (wide : Int) = 4 → 0 ≤ x ∧ x < 4294967296) : sgn wide x = if (wide : Int) = 4 then (if x > 2147483647 then wrap64 (x - 4294967296) else x) else x := by
  unfold sgn
  by_cases h4 : (wide : Int) = 4
  · rw [if_pos h4, if_pos h4]
    have := h h4
    by_cases h5 : x > 2147483647
    · rw [if_pos h5]; unfold wrap64 wrap32; omega
    · rw [if_neg h5]; unfold wrap64 wrap32; omega
  · rw [if_neg h4, if_neg h4]
theorem sval_range (b : List Int) (hb : ∀ x ∈ b, 0 ≤ x ∧ x ≤ 255) (at_ many : Int) (wide : Nat) (i : Int) (h4 : (wide : Int) = 4) : 0 ≤ sval b at_ many wide i ∧ sval b at_ many wide i < 4294967296 := by
  have : ∀ n : Nat, n ≤ 4 → 0 ≤ (List.range n).foldl (fun x kk => sstep b at_ many i x kk) 0 ∧ (List.range n).foldl (fun x kk => sstep b at_ many i x kk) 0 < 2 ^ (8 * n) := by
    intro n
    induction n with
    | zero => intro _; simp
    | succ n ih =>
      intro hn
      obtain ⟨h0, h1⟩ := ih (by omega)
      rw [List.range_succ, List.foldl_append]
      exact sstep_range b hb at_ many i _ n (by omega) h0 h1
  obtain rfl : wide = 4 := by omega
  exact this 4 (by omega)
theorem impl_split_inner (b : List Int) (hb : ∀ x ∈ b, 0 ≤ x ∧ x ≤ 255) (hl : b.length ≤ 1048576) (at_ many : Int) (wide : Nat) (ha : 0 ≤ at_) (hm : 0 ≤ many) (hm2 : many ≤ 2000) (hw : wide = 4 ∨ wide = 8) (hle : at_ + wide * many ≤ b.length) (i : Nat) (out : List S83) (r) (hi : (i : Int) < many) (ho : out.length = i)
    (h : Ev (fun k => impl_SplitRead.l0 k b at_ many (wide : Int) (out ++ [(⟨sgn wide (sval b at_ many wide i), (⟨#[]⟩ : ByteArray)⟩ : S83)]) many (i + 1 : Nat)) r) :
    Ev (fun k => impl_SplitRead.l1 k b at_ many (wide : Int) out (i : Int) 0 many (i : Int) (wide : Int) 0) r := by
  refine loop_cps (fun k x kk => impl_SplitRead.l1 k b at_ many (wide : Int) out (i : Int) x many (i : Int) (wide : Int) kk) (fun kk x => sstep b at_ many i x kk) wide r (fun kk x hk hr => ?_) 0 ?_
  · obtain ⟨g0, g1⟩ := split_idx at_ many i b.length wide kk ha hm hle (by omega) hk (by omega) hi
    refine Ev.step (fun k => by rw [impl_SplitRead.l1]) ?_
    refine Ev.pos (by omega) (Ev.pos g0 (Ev.pos g1 (Ev.pos (by rw [wrap64_id (by omega) (by omega)]; omega) ?_)))
    rw [wrap64_id (x := (kk : Int) + 1) (by omega) (by omega)]
    simpa [sstep] using hr
  · have hs : (List.range wide).foldl (fun x kk => sstep b at_ many i x kk) 0 = sval b at_ many wide i := rfl
    rw [hs]
    refine Ev.step (fun k => by rw [impl_SplitRead.l1]) ?_
    refine Ev.neg (by omega) ?_
    refine Ev.here (a := sgn wide (sval b at_ many wide i)) ?_ ?_
    · unfold impl_signed.f sgn
      by_cases h4 : (wide : Int) = 4
      · rw [if_pos h4, if_pos h4]
      · rw [if_neg h4, if_neg h4]
    · refine Ev.pos (by omega) ?_
      rw [wrap64_id (x := (i : Int) + 1) (by omega) (by omega)]
      simpa using h
def svals (b : List Int) (at_ many : Int) (wide : Nat) : List S83 := (List.range many.toNat).map fun (i : Nat) => (⟨sgn wide (sval b at_ many wide i), (⟨#[]⟩ : ByteArray)⟩ : S83)
theorem sval_back (b : List Int) (at_ many i x : Int) (w : Nat) (hw : w ≤ 8) (hd : ∀ kk : Nat, kk < w → rd b (wrap64 ((wrap64 (at_ + (wrap64 ((kk : Int) * many)))) + i)) = (x / 2 ^ (8 * kk)) % 256) :
    sval b at_ many w i = wrap64 (x % 2 ^ (8 * w)) := by
  unfold sval
  have key : ∀ m : Nat, m ≤ w → (List.range m).foldl (fun x kk => sstep b at_ many i x kk) 0 = wrap64 (x % 2 ^ (8 * m)) := by
    intro m
    induction m with
    | zero =>
      intro _
      have : x % 2 ^ (8 * 0) = 0 := by simp [Int.emod_one]
      rw [this, List.range_zero, List.foldl_nil, wrap64_id (by omega) (by omega)]
    | succ m ih =>
      intro hm
      rw [List.range_succ, List.foldl_append]
      simp only [List.foldl_cons, List.foldl_nil]
      rw [ih (by omega)]
      unfold sstep
      rw [hd m (by omega)]
      have p0 : (0 : Int) < 2 ^ (8 * m) := Int.pow_pos (by omega)
      have d0 := Int.emod_nonneg (x / 2 ^ (8 * m)) (show (256 : Int) ≠ 0 by omega)
      have d1 := Int.emod_lt_of_pos (x / 2 ^ (8 * m)) (show (0 : Int) < 256 by omega)
      have a0 := Int.emod_nonneg x (show (2 : Int) ^ (8 * m) ≠ 0 by omega)
      have a1 := Int.emod_lt_of_pos x p0
      have es : (2 : Int) ^ (8 * (m + 1)) = 2 ^ (8 * m) * 256 := by rw [Nat.mul_add, Int.pow_add]; rfl
      rw [es, emod_digit x _ p0]
      obtain ⟨D, hD⟩ := Int.eq_ofNat_of_zero_le d0
      obtain ⟨A, hA⟩ := Int.eq_ofNat_of_zero_le a0
      rw [hD, hA]
      rw [hD] at d1
      rw [hA] at a1
      have eP : (2 : Int) ^ (8 * m) = ((2 ^ (8 * m) : Nat) : Int) := by push_cast; rfl
      have hAn : A < 2 ^ (8 * m) := by rw [eP] at a1; exact_mod_cast a1
      have h56 : 2 ^ (8 * m) ≤ 2 ^ 56 := Nat.pow_le_pow_right (by omega) (by omega)
      have hDn : D * 2 ^ (8 * m) ≤ 255 * 2 ^ (8 * m) := Nat.mul_le_mul_right _ (by omega)
      rw [wrap64_id (x := (D : Int)) (by omega) (by omega)]
      have esh : shl .i64 (D : Int) (wrap64 (8 * (m : Int))) = wrap64 ((D * 2 ^ (8 * m) : Nat) : Int) := by
        unfold shl
        rw [wrap64_id (x := 8 * (m : Int)) (by omega) (by omega)]
        have e2 : min (8 * (m : Int)).toNat IntKind.i64.bits = 8 * m := by
          have : IntKind.i64.bits = 64 := rfl
          omega
        rw [e2, IntKind.wrap_i64, eP]
        push_cast
        unfold wrap64; rfl
      rw [esh, or_wrap A (D * 2 ^ (8 * m)) (by omega) (by omega), or_digit (8 * m) A D hAn]
      rw [eP]; push_cast; rfl
  exact key w (Nat.le_refl _)
theorem sameVals_ev (a b : List S83) (hl : a.length = b.length) (hb : b.length ≤ 1048576) (h : ∀ i : Nat, i < a.length → (rd_T83 a (i : Int)).f0 = (rd_T83 b (i : Int)).f0 ∧ (rd_T83 a (i : Int)).f1.toList = (rd_T83 b (i : Int)).f1.toList) : Ev (fun k => laws_sameVals.f k a b) true := by
  unfold laws_sameVals.f
  refine Ev.pos (by omega) ?_
  refine same_loop (fun k i => laws_sameVals.l0 k a b i) a.length (fun i r hi hr => ?_) ?_
  · obtain ⟨e0, e1⟩ := h i hi
    refine Ev.step (fun k => by rw [laws_sameVals.l0]) ?_
    refine Ev.pos (by omega) (Ev.pos (by omega) (Ev.pos (by omega) (Ev.neg (by simp [e0, e1]) ?_)))
    rw [wrap64_id (by omega) (by omega)]
    simpa using hr
  · exact Ev.step (fun k => by rw [laws_sameVals.l0]) (by exact Ev.neg (by omega) (Ev.now _))
theorem drawSplit_ev (l : List Int) (hl : l.length ≤ 1048576) : ∃ (t : Int) (v : List S83), Ev (fun k => spec_DrawSplitPack.f k l) (t, v) ∧ v.length ≤ 13 ∧ DrawnL v := by
  unfold spec_DrawSplitPack.f
  obtain ⟨h0, e0⟩ := l1New_ev l hl
  have c0 : Cur l 0 := ⟨by omega, by omega, hl⟩
  obtain ⟨t, i1, h1, e1, _, _, c1⟩ := l6DrawType_some l 0 h0 c0
  obtain ⟨v, i2, h2, e2, s2, d2, c2⟩ := l6DrawList_ev l i1 h1 t 12 c1 (by omega) (by omega)
  exact ⟨t, v, Ev.bind e0 (Ev.here e1 (Ev.bind e2 (Ev.now _))), by omega, d2⟩
theorem i32_back (x : Int) (h0 : -2147483648 ≤ x) (h1 : x ≤ 2147483647) : wrap64 (wrap32 (wrap64 (x % 2 ^ (8 * 4)))) = x := by
  have : (2 : Int) ^ (8 * 4) = 4294967296 := by decide
  rw [this]; unfold wrap64 wrap32; omega
theorem i64_back (x : Int) (h0 : -9223372036854775808 ≤ x) (h1 : x ≤ 9223372036854775807) : wrap64 (x % 2 ^ (8 * 8)) = x := by
  have : (2 : Int) ^ (8 * 8) = 18446744073709551616 := by decide
  rw [this]; unfold wrap64; omega
theorem vOk_wide {t : Int} {v : S83} (h : vOk t v = true) (hd : DrawnV v.f0 v.f1) : (wideB t = 4 ∧ -2147483648 ≤ v.f0 ∧ v.f0 ≤ 2147483647 ∧ v.f1.toList = []) ∨ (wideB t = 8 ∧ v.f1.toList = []) ∨ wideB t = 0 := by
  unfold vOk noText at h
  unfold wideB
  by_cases h1 : t = 1
  · subst h1
    simp at h
    left; exact ⟨by simp, h.1.1, h.1.2, h.2⟩
  by_cases h2 : t = 2
  · subst h2
    simp at h
    right; left; exact ⟨by simp, h⟩
  by_cases h5 : t = 5
  · subst h5
    simp at h
    right; left; exact ⟨by simp, h⟩
  · right; right; simp [h1, h2, h5]
theorem sb_range (l : List S83) (k i : Nat) : 0 ≤ sb l k i ∧ sb l k i ≤ 255 := by
  unfold sb; omega
theorem split_back (t : Int) (l : List S83) (w : Nat) (hw : wideB t = (w : Int)) (hw2 : w = 4 ∨ w = 8) (hl : l.length ≤ 13) (hd : DrawnL l) (hv : vsOk t l = true) :
    ∃ r : List S83, Ev (fun k => impl_SplitRead.f k t ([1] ++ splitBytes l w ++ [2]) 1 (l.length : Int)) (r, 1 + (w : Int) * (l.length : Int), true) ∧ Ev (fun k => laws_sameVals.f k r l) true := by
  have hwl : w * l.length ≤ 8 * 13 := Nat.mul_le_mul (by omega) hl
  have hc : ((w : Int) * (l.length : Int)) = ((w * l.length : Nat) : Int) := by push_cast; rfl
  have hbl : ([1] ++ splitBytes l w ++ [2]).length = w * l.length + 2 := by simp [splitBytes_length]
  generalize hb : ([1] ++ splitBytes l w ++ [2] : List Int) = b at *
  have hr : ∀ x ∈ b, 0 ≤ x ∧ x ≤ 255 := by
    intro x hx
    rw [← hb] at hx
    simp only [List.mem_append, List.mem_singleton] at hx
    rcases hx with (h | h) | h
    · omega
    · unfold splitBytes at h
      obtain ⟨j, _, rfl⟩ := List.mem_map.1 h
      exact sb_range _ _ _
    · omega
  have hall : ∀ i, i < l.length → vOk t (rd_T83 l (i : Int)) = true ∧ DrawnV (rd_T83 l (i : Int)).f0 (rd_T83 l (i : Int)).f1 := by
    intro i hi
    have e : rd_T83 l (i : Int) = l.getD i z83 := rfl
    rw [e, getD_eq hi]
    have := hv
    simp only [vsOk, Bool.and_eq_true, List.all_eq_true] at this
    exact ⟨this.2 _ (List.getElem_mem _), hd _ (List.getElem_mem _)⟩
  have hrd : ∀ (i kk : Nat), i < l.length → kk < w → rd b (wrap64 ((wrap64 (1 + (wrap64 ((kk : Int) * (l.length : Int))))) + i)) = ((rd_T83 l (i : Int)).f0 / 2 ^ (8 * kk)) % 256 := by
    intro i kk hi hk
    have hkl : (kk + 1) * l.length ≤ w * l.length := Nat.mul_le_mul_right _ (by omega)
    rw [Nat.add_mul, Nat.one_mul] at hkl
    have hc2 : ((kk : Int) * (l.length : Int)) = ((kk * l.length : Nat) : Int) := by push_cast; rfl
    rw [hc2, wrap64_id (x := ((kk * l.length : Nat) : Int)) (by omega) (by omega), wrap64_id (x := 1 + ((kk * l.length : Nat) : Int)) (by omega) (by omega), wrap64_id (by omega) (by omega)]
    have ei : (1 + ((kk * l.length : Nat) : Int) + (i : Int)).toNat = kk * l.length + i + 1 := by omega
    rw [rd_eq (by omega)]
    have hsl := splitBytes_length l w
    have hs2 : kk * l.length + i < (splitBytes l w).length := by omega
    have e1 : b[(1 + ((kk * l.length : Nat) : Int) + (i : Int)).toNat]? = some ((splitBytes l w)[kk * l.length + i]) := by
      rw [ei, ← hb, List.append_assoc, List.singleton_append, List.getElem?_cons_succ, List.getElem?_append_left hs2, List.getElem?_eq_getElem hs2]
    have e2 : b[(1 + ((kk * l.length : Nat) : Int) + (i : Int)).toNat]? = some (b[(1 + ((kk * l.length : Nat) : Int) + (i : Int)).toNat]'(by omega)) := List.getElem?_eq_getElem _
    rw [e1] at e2
    rw [← Option.some.inj e2]
    have e4 : (splitBytes l w)[kk * l.length + i]'hs2 = sb l ((kk * l.length + i) / l.length) ((kk * l.length + i) % l.length) := by simp [splitBytes]
    rw [e4]
    have hpos : 0 < l.length := by omega
    rw [Nat.mul_comm kk, Nat.mul_add_div hpos, Nat.div_eq_of_lt hi, Nat.mul_add_mod, Nat.mod_eq_of_lt hi, Nat.add_zero]
    unfold sb shr
    rw [wrap64_id (x := 8 * (kk : Int)) (by omega) (by omega)]
    have e3 : min (8 * (kk : Int)).toNat IntKind.i64.bits = 8 * kk := by
      have : IntKind.i64.bits = 64 := rfl
      omega
    rw [e3]
  refine ⟨svals b 1 (l.length : Int) w, ?_, ?_⟩
  · unfold impl_SplitRead.f impl_SplitWide.f
    rw [wideOf_some, hw]
    have e1 : wrap64 ((b.length : Int) - 1) = b.length - 1 := wrap64_id (by omega) (by omega)
    have e3 : wrap64 ((l.length : Int) * (w : Int)) = w * l.length := by rw [Int.mul_comm]; exact wrap64_id (by omega) (by omega)
    have e2 : wrap64 (1 + (w : Int) * (l.length : Int)) = 1 + w * l.length := wrap64_id (by omega) (by omega)
    refine Ev.here rfl (Ev.neg (by omega) (Ev.here (within_some _ _ _) (Ev.pos (by simp; omega) (Ev.here (within_some _ _ _) (Ev.pos (by simp; omega) ?_)))))
    have : (decide ((wrap64 ((l.length : Int) * (w : Int))) > (wrap64 ((b.length : Int) - 1)))) = false := by rw [e1, e3]; simp; omega
    rw [this]
    refine Ev.step (fun k => by rw [impl_SplitRead.j0]) ?_
    refine Ev.neg (by decide) ?_
    refine append_loop (fun k out i => impl_SplitRead.l0 k b 1 (l.length : Int) (w : Int) out (l.length : Int) i) (fun i => (⟨sgn w (sval b 1 (l.length : Int) w i), (⟨#[]⟩ : ByteArray)⟩ : S83)) l.length _ (fun i out hi ho hr' => ?_) ?_
    · exact Ev.step (fun k => by rw [impl_SplitRead.l0]) (by exact Ev.pos (by omega) (impl_split_inner b hr (by omega) 1 (l.length : Int) w (by omega) (by omega) (by omega) hw2 (by omega) i out _ (by omega) ho hr'))
    · refine Ev.step (fun k => by rw [impl_SplitRead.l0]) ?_
      refine Ev.neg (by omega) (Ev.const ?_)
      rw [e3, e2]; rfl
  · refine sameVals_ev _ _ (by simp [svals]) (by omega) (fun i hi => ?_)
    have hi' : i < l.length := by simpa [svals] using hi
    have e : rd_T83 (svals b 1 (l.length : Int) w) (i : Int) = (svals b 1 (l.length : Int) w).getD i z83 := rfl
    have e2 : (svals b 1 (l.length : Int) w).getD i z83 = (⟨sgn w (sval b 1 (l.length : Int) w i), (⟨#[]⟩ : ByteArray)⟩ : S83) := by
      rw [getD_eq hi]; simp [svals]
    rw [e, e2]
    dsimp only
    obtain ⟨ho, hdv⟩ := hall i hi'
    have hs := sval_back b 1 (l.length : Int) (i : Int) (rd_T83 l (i : Int)).f0 w (by omega) (fun kk hk => hrd i kk hi' hk)
    rw [hs]
    have hem : (⟨#[]⟩ : ByteArray).toList = ([] : List UInt8) := by unfold ByteArray.toList; unfold ByteArray.toList.loop; rfl
    rcases vOk_wide ho hdv with ⟨q0, q1, q2, q3⟩ | ⟨q0, q3⟩ | q0
    · obtain rfl : w = 4 := by omega
      exact ⟨by unfold sgn; rw [if_pos (by decide)]; exact i32_back _ q1 q2, by rw [q3, hem]⟩
    · obtain rfl : w = 8 := by omega
      exact ⟨by unfold sgn; rw [if_neg (by decide)]; exact i64_back _ hdv.1.1 hdv.1.2, by rw [q3, hem]⟩
    · omega
theorem FnSplit : ∀ (x0 : List (Int)), (x0.length ≤ maxLen ∧ ∀ y ∈ x0, (Lit.int .u8 y).wf = true) → ∃ k, laws_FnSplit.f k x0 = some true := by
  intro l hx
  refine Ev.rounds ?_
  unfold laws_FnSplit.f
  by_cases hb : (l.length : Int) > 1048576
  · exact Ev.here (a := true) (by unfold laws_big.f; simp [hb]) (Ev.pos rfl (Ev.now _))
  refine Ev.here (a := false) (by unfold laws_big.f; simp [hb]) (Ev.neg (by decide) ?_)
  obtain ⟨t, v, e, hv, hd⟩ := drawSplit_ev l (by omega)
  refine Ev.bind e (Ev.bind (impl_SplitPack_ev t v (by omega)) (Ev.bind (spec_SplitPack_ev t v (by omega)) (Ev.neg (by simp) ?_)))
  unfold splitR
  by_cases h : wideB t ≠ 0 ∧ vsOk t v = true
  · rw [if_pos h]
    obtain ⟨w, hw, hw2⟩ : ∃ w : Nat, wideB t = (w : Int) ∧ (w = 4 ∨ w = 8) := by
      have := wideB_range t
      exact ⟨(wideB t).toNat, by omega, by omega⟩
    have hwn : (wideB t).toNat = w := by omega
    rw [hwn]
    obtain ⟨r, r1, r2⟩ := split_back t v w hw hw2 hv hd h.2
    have hsl := splitBytes_length v w
    have hwl : w * v.length ≤ 8 * 13 := Nat.mul_le_mul (by omega) hv
    have hc : ((w : Int) * (v.length : Int)) = ((w * v.length : Nat) : Int) := by push_cast; rfl
    refine Ev.pos rfl (Ev.here rfl (Ev.pos (by simp [hsl]; omega) (Ev.here rfl (Ev.pos (by simp [hsl]; omega) (Ev.bind r1 (Ev.pos rfl (Ev.pos ?_ (Ev.bind r2 (Ev.pos rfl ?_)))))))))
    · dsimp only
      rw [hsl, wrap64_id (by omega) (by omega)]; omega
    · unfold impl_SplitWide.f
      rw [wideOf_some, hw]
      refine Ev.const ?_
      simp only [Option.bind_some]
      rw [hsl, wrap64_id (by omega) (by omega), hc]
      simp
  · rw [if_neg h]
    exact Ev.neg (by decide) (Ev.now _)
end Go.Proofs.Ytlohdhkgcfebnaa.Pure
