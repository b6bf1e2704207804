/- The pure statement of FnTreeParts: the printed functions answer as the law says, for all arguments. No condition. -/
import Derived.Test.YtnfamhegbfjggaaVFnTreeParts
import Derived.Test.YtnfamhegbfjggaaPFnTreePartsx
import Derived.Test.YtnfamhegbfjggaaArgFnTreeParts
namespace Go.Proofs.Ytnfamhegbfjggaa.Pure
open Go.RowKit Go.Proofs.Ytnfamhegbfjggaa.PFnTreeParts Go.Proofs.Ytnfamhegbfjggaa.Core Go.Proofs.YtnfamhegbfjggaaW.PrintWords Go.Proofs.YtnfamhegbfjggaaW.PrintLast Go.Proofs.YtnfamhegbfjggaaW.PrintMore Go.Proofs.YtnfamhegbfjggaaW.PrintMore2 Go.Proofs.Ytnfamhegbfjggaa.AFnTreeParts
set_option linter.unusedVariables false
set_option linter.unusedSimpArgs false
theorem l1In_same (x lo hi : Int) : (if x ≥ lo then some (decide (x ≤ hi)) else some false) = some (decide (lo ≤ x ∧ x ≤ hi)) := by
  by_cases h : x ≥ lo
  · rw [if_pos h]; congr 1; simp; omega
  · rw [if_neg h]; congr 1; symm; simp; omega
theorem within_some (x lo hi : Int) : impl_within.f x lo hi = some (decide (lo ≤ x ∧ x ≤ hi)) := by unfold impl_within.f; exact l1In_same x lo hi
theorem l1In_some (x lo hi : Int) : spec_l1In.f x lo hi = some (decide (lo ≤ x ∧ x ≤ hi)) := by unfold spec_l1In.f; exact l1In_same x lo hi
theorem bv_ofInt_wrap (x : Int) : BitVec.ofInt 64 (wrap64 x) = BitVec.ofInt 64 x := by
  apply BitVec.eq_of_toNat_eq
  rw [BitVec.toNat_ofInt, BitVec.toNat_ofInt]
  congr 1
  unfold wrap64; omega
theorem or_wrap (a c : Nat) (ha : a < 2 ^ 64) (hc : c < 2 ^ 64) : Go.bits .or .i64 (wrap64 (a : Int)) (wrap64 (c : Int)) = wrap64 ((a ||| c : Nat) : Int) := by
  have e : Go.bits .or .i64 (wrap64 (a : Int)) (wrap64 (c : Int)) = IntKind.i64.wrap (((BitVec.ofInt 64 (wrap64 (a : Int)) ||| BitVec.ofInt 64 (wrap64 (c : Int))).toNat : Nat) : Int) := rfl
  rw [e, bv_ofInt_wrap, bv_ofInt_wrap, BitVec.ofInt_natCast, BitVec.ofInt_natCast, BitVec.toNat_or, BitVec.toNat_ofNat, BitVec.toNat_ofNat, Nat.mod_eq_of_lt ha, Nat.mod_eq_of_lt hc, IntKind.wrap_i64]
  unfold wrap64; omega
theorem or_digit (m a d : Nat) (ha : a < 2 ^ m) : a ||| d * 2 ^ m = a + d * 2 ^ m := by
  have := Nat.shiftLeft_add_eq_or_of_lt ha d
  rw [Nat.shiftLeft_eq] at this
  rw [Nat.or_comm, ← this, Nat.add_comm]
theorem emod_digit (x p : Int) (hp : 0 < p) : x % (p * 256) = x % p + (x / p) % 256 * p := by
  have h1 := Int.mul_ediv_add_emod x p
  have h2 := Int.mul_ediv_add_emod (x / p) 256
  have a0 := Int.emod_nonneg x (show p ≠ 0 by omega)
  have a1 := Int.emod_lt_of_pos x hp
  have b0 := Int.emod_nonneg (x / p) (show (256 : Int) ≠ 0 by omega)
  have b1 := Int.emod_lt_of_pos (x / p) (show (0 : Int) < 256 by omega)
  have e : x = (x % p + (x / p) % 256 * p) + (p * 256) * (x / p / 256) := by
    have e3 : p * (x / p) = p * (256 * (x / p / 256) + x / p % 256) := by rw [h2]
    rw [Int.mul_add] at e3
    have e4 : p * (256 * (x / p / 256)) = (p * 256) * (x / p / 256) := by rw [Int.mul_assoc]
    have e5 : p * (x / p % 256) = x / p % 256 * p := Int.mul_comm _ _
    omega
  have m0 : 0 ≤ (x / p) % 256 * p := Int.mul_nonneg b0 (by omega)
  have m1 : (x / p) % 256 * p ≤ 255 * p := Int.mul_le_mul_of_nonneg_right (by omega) (by omega)
  generalize hr : x % p + (x / p) % 256 * p = r at *
  conv => lhs; rw [e]
  rw [Int.add_mul_emod_self_left, Int.emod_eq_of_lt (by omega) (by omega)]
/-- A reader of draws that is within its bytes. -/
def Cur (s : List Int) (i : Int) : Prop := 0 ≤ i ∧ i ≤ s.length ∧ s.length ≤ 1048576
theorem l1New_ev (l : List Int) (hl : l.length ≤ 1048576) : ∃ h, Ev (fun k => spec_l1New.f k l) (l, 0, h) := by
  unfold spec_l1New.f
  have key : ∀ (d : Nat) (i h : Int), 0 ≤ i → i + d = l.length → ∃ h', Ev (fun k => spec_l1New.l0 k l h i) (l, 0, h') := by
    intro d
    induction d with
    | zero =>
      intro i h h0 hi
      exact ⟨_, Ev.step (fun k => by rw [spec_l1New.l0]) (by exact Ev.neg (by omega) (Ev.now _))⟩
    | succ d ih =>
      intro i h h0 hi
      by_cases h4 : i < 4000
      · obtain ⟨h', hr⟩ := ih (i + 1) (Go.bits .and .i64 (wrap64 ((wrap64 ((wrap64 (h * 131)) + (wrap64 (rd l i)))) + 7)) 1073741823) (by omega) (by omega)
        refine ⟨h', Ev.step (fun k => by rw [spec_l1New.l0]) (Ev.pos (by omega) (Ev.pos h4 (Ev.pos h0 ?_)))⟩
        rw [wrap64_id (x := i + 1) (by omega) (by omega)]
        exact hr
      · exact ⟨_, Ev.step (fun k => by rw [spec_l1New.l0]) (by exact Ev.pos (by omega) (Ev.neg h4 (Ev.now _)))⟩
  exact key l.length 0 _ (by omega) (by omega)
theorem l1Byte_some (s : List Int) (i h : Int) (hc : Cur s i) : ∃ v i' h', spec_l1Byte.f s i h = some (v, i', h') ∧ 0 ≤ v ∧ v ≤ 255 ∧ Cur s i' := by
  obtain ⟨h0, h1, h2⟩ := hc
  unfold spec_l1Byte.f
  by_cases hlt : i < (s.length : Int)
  · rw [if_pos hlt, if_pos h0]
    refine ⟨_, _, _, rfl, (and_255 _).1, (and_255 _).2, ?_⟩
    rw [wrap64_id (by omega) (by omega)]
    exact ⟨by omega, by omega, h2⟩
  · rw [if_neg hlt]
    exact ⟨_, _, _, rfl, (and_255 _).1, (and_255 _).2, h0, h1, h2⟩
theorem l1Below_some (s : List Int) (i h n : Int) (hc : Cur s i) : ∃ v i' h', spec_l1Below.f s i h n = some (v, i', h') ∧ 0 ≤ v ∧ (0 < n → v < n) ∧ (n ≤ 0 → v = 0) ∧ Cur s i' := by
  unfold spec_l1Below.f
  by_cases hn : n ≤ 0
  · rw [if_pos hn]
    exact ⟨0, i, h, rfl, by omega, by omega, fun _ => rfl, hc⟩
  rw [if_neg hn]
  have hm : ∀ x : Int, 0 ≤ x → 0 ≤ Int.tmod x n ∧ Int.tmod x n < n := fun x hx => by
    rw [Int.tmod_eq_emod_of_nonneg hx]
    exact ⟨Int.emod_nonneg _ (by omega), Int.emod_lt_of_pos _ (by omega)⟩
  by_cases h256 : n ≤ 256
  · rw [if_pos h256]
    obtain ⟨v, i', h', e, v0, v1, hc'⟩ := l1Byte_some s i h hc
    rw [e]
    simp only [Option.bind_some]
    rw [if_neg (by omega)]
    exact ⟨_, _, _, rfl, (hm v v0).1, fun _ => (hm v v0).2, by omega, hc'⟩
  · rw [if_neg h256]
    obtain ⟨a, i1, h1, e1, a0, a1, c1⟩ := l1Byte_some s i h hc
    obtain ⟨b, i2, h2, e2, b0, b1, c2⟩ := l1Byte_some s i1 h1 c1
    obtain ⟨c, i3, h3, e3, c0, c1', c3⟩ := l1Byte_some s i2 h2 c2
    obtain ⟨d, i4, h4, e4, d0, d1, c4⟩ := l1Byte_some s i3 h3 c3
    rw [e1]; simp only [Option.bind_some]; rw [e2]; simp only [Option.bind_some]; rw [e3]; simp only [Option.bind_some]; rw [e4]; simp only [Option.bind_some]
    rw [if_neg (by omega)]
    have hx : 0 ≤ wrap64 ((wrap64 ((wrap64 ((wrap64 (a * 16777216)) + (wrap64 (b * 65536)))) + (wrap64 (c * 256)))) + d) := by
      rw [wrap64_id (x := a * 16777216) (by omega) (by omega), wrap64_id (x := b * 65536) (by omega) (by omega), wrap64_id (x := c * 256) (by omega) (by omega)]
      rw [wrap64_id (x := a * 16777216 + b * 65536) (by omega) (by omega), wrap64_id (x := a * 16777216 + b * 65536 + c * 256) (by omega) (by omega), wrap64_id (by omega) (by omega)]
      omega
    exact ⟨_, _, _, rfl, (hm _ hx).1, fun _ => (hm _ hx).2, by omega, c4⟩
theorem l1Once_some (s : List Int) (i h n : Int) (hc : Cur s i) : ∃ v i' h', spec_l1Once.f s i h n = some (v, i', h') ∧ Cur s i' := by
  unfold spec_l1Once.f
  obtain ⟨v, i', h', e, _, _, _, c⟩ := l1Below_some s i h n hc
  rw [e]
  exact ⟨_, _, _, rfl, c⟩
theorem l1DrawBytes_ev (s : List Int) (i h most : Int) (hc : Cur s i) (hm0 : 0 ≤ most) (hm : most ≤ 1000000) : ∃ (l : List Int) (i' h' : Int), Ev (fun k => spec_l1DrawBytes.f k s i h most) (l, i', h') ∧ (l.length : Int) ≤ most ∧ (∀ x ∈ l, 0 ≤ x ∧ x ≤ 255) ∧ Cur s i' := by
  unfold spec_l1DrawBytes.f
  rw [wrap64_id (by omega) (by omega)]
  obtain ⟨n, i1, h1, e1, n0, n1, _, c1⟩ := l1Below_some s i h (most + 1) hc
  have key : ∀ (d : Nat) (out : List Int) (j i h : Int), 0 ≤ j → j + d = n → out.length = j → (∀ x ∈ out, 0 ≤ x ∧ x ≤ 255) → Cur s i →
      ∃ (l : List Int) (i' h' : Int), Ev (fun k => spec_l1DrawBytes.l0 k out n j s i h) (l, i', h') ∧ (l.length : Int) = n ∧ (∀ x ∈ l, 0 ≤ x ∧ x ≤ 255) ∧ Cur s i' := by
    intro d
    induction d with
    | zero =>
      intro out j i h j0 hj ho hx hc
      exact ⟨out, i, h, Ev.step (fun k => by rw [spec_l1DrawBytes.l0]) (by exact Ev.neg (by omega) (Ev.now _)), by omega, hx, hc⟩
    | succ d ih =>
      intro out j i h j0 hj ho hx hc
      obtain ⟨v, i2, h2, e2, v0, v1, c2⟩ := l1Byte_some s i h hc
      obtain ⟨l, i3, h3, hr, hl, hx3, c3⟩ := ih (out ++ [v % 256]) (j + 1) i2 h2 (by omega) (by omega) (by simp; omega) (by
        intro x hx'
        rcases List.mem_append.1 hx' with h | h
        · exact hx x h
        · obtain rfl := List.mem_singleton.1 h
          omega) c2
      refine ⟨l, i3, h3, ?_, hl, hx3, c3⟩
      refine Ev.step (fun k => by rw [spec_l1DrawBytes.l0]) ?_
      refine Ev.pos (by omega) (Ev.here e2 (Ev.pos (by omega) ?_))
      rw [wrap64_id (x := j + 1) (by omega) (by omega)]
      exact hr
  obtain ⟨l, i', h', hr, hl, hx, c⟩ := key n.toNat [] 0 i1 h1 (by omega) (by omega) (by simp) (by simp) c1
  exact ⟨l, i', h', Ev.here e1 hr, by omega, hx, c⟩
theorem l4DrawText_ev (s : List Int) (i h most : Int) (hc : Cur s i) (hm0 : 0 ≤ most) (hm : most ≤ 1000000) : ∃ (t : ByteArray) (i' h' : Int), Ev (fun k => spec_l4DrawText.f k s i h most) (t, i', h') ∧ (t.size : Int) ≤ most ∧ Cur s i' := by
  unfold spec_l4DrawText.f
  obtain ⟨l, i', h', hr, hl, _, c⟩ := l1DrawBytes_ev s i h most hc hm0 hm
  exact ⟨_, _, _, Ev.bind hr (Ev.now _), by rw [strOfNums_size]; exact hl, c⟩
theorem l1PickInt_some (s : List Int) (i h : Int) (l : List Int) (hc : Cur s i) (hl : 0 < l.length) : ∃ v i' h', spec_l1PickInt.f s i h l = some (v, i', h') ∧ v ∈ l ∧ Cur s i' := by
  unfold spec_l1PickInt.f
  obtain ⟨v, i', h', e, v0, v1, _, c⟩ := l1Below_some s i h (l.length : Int) hc
  rw [e]; simp only [Option.bind_some]
  have := v1 (by omega)
  rw [if_pos v0, if_pos this, rd_eq (by omega)]
  exact ⟨_, _, _, rfl, List.getElem_mem _, c⟩
def I64 (x : Int) : Prop := -9223372036854775808 ≤ x ∧ x ≤ 9223372036854775807
theorem I64_wrap (x : Int) : I64 (wrap64 x) := ⟨wrap64_lo x, wrap64_hi x⟩
theorem l2DrawNum_some (s : List Int) (i h : Int) (hc : Cur s i) : ∃ v i' h', spec_l2DrawNum.f s i h = some (v, i', h') ∧ I64 v ∧ Cur s i' := by
  unfold spec_l2DrawNum.f
  obtain ⟨a, i1, h1, e1, a0, a1, _, c1⟩ := l1Below_some s i h 1000000 hc
  obtain ⟨b, i2, h2, e2, b0, b1, _, c2⟩ := l1Below_some s i1 h1 1000000 c1
  obtain ⟨c, i3, h3, e3, c0, c1', _, c3⟩ := l1Below_some s i2 h2 300 c2
  have := a1 (by omega); have := b1 (by omega); have := c1' (by omega)
  obtain ⟨v, i4, h4, e4, hv, c4⟩ := l1PickInt_some s i3 h3 ([0, 1, (-1), 63, 64, (-64), (-65), 127, 128, 16383, 16384, 2147483647, (-2147483648), 9223372036854775807, (-9223372036854775808), 4611686018427387904, a, wrap64 (-b), c] : List Int) c3 (by simp)
  refine ⟨v, i4, h4, ?_, ?_, c4⟩
  · rw [e1]; simp only [Option.bind_some]; rw [e2]; simp only [Option.bind_some]; rw [e3]; simp only [Option.bind_some]; rw [e4]; rfl
  · have w0 := wrap64_lo (-b); have w1 := wrap64_hi (-b)
    simp only [List.mem_cons, List.not_mem_nil, or_false] at hv
    unfold I64; omega
def itemB (t : Int) : Bool := decide (t = 5 ∨ t = 6 ∨ t = 8 ∨ t = 9 ∨ t = 12)
def noT (s : ByteArray) : Bool := decide (s.toList = ([] : List UInt8))
/-- Is what a node has as told, but for its parts? -/
def plainB (n : S53) : Bool :=
  if n.f0 = 1 ∨ n.f0 = 2 then decide (n.f2 = 0) && (noT n.f3 && n.f4 == 0)
  else if n.f0 = 5 then decide (-2147483648 ≤ n.f2 ∧ n.f2 ≤ 2147483647) && (noT n.f3 && n.f4 == 0)
  else if n.f0 = 6 then noT n.f3 && n.f4 == 0
  else if n.f0 = 8 then decide (n.f2 = 0) && (decide ((n.f3.size : Int) ≤ 300) && n.f4 == 0)
  else if n.f0 = 9 then noT n.f3 && (decide (n.f4 ≥ 0) && (if n.f4 = 0 then decide (n.f2 = 0) else itemB n.f2))
  else if n.f0 = 12 then decide (n.f2 = 0) && (noT n.f3 && decide (n.f4 ≥ 0)) else false
theorem isType_some (t : Int) (b : Bool) : Ev (fun k => impl_isType.f k t b) (if t = 1 ∨ t = 2 then !b else itemB t) := by
  refine ⟨1, fun k hk => ?_⟩
  obtain ⟨m, rfl⟩ : ∃ m, k = m + 1 := ⟨k - 1, by omega⟩
  unfold impl_isType.f itemB
  simp only [impl_isType.j0]
  by_cases h1 : t = 1
  · subst h1; simp
  by_cases h2 : t = 2
  · subst h2; simp
  simp only [if_neg h1, h1, h2, or_self, if_false]
  by_cases h5 : t = 5
  · subst h5; simp
  by_cases h6 : t = 6
  · subst h6; simp
  by_cases h8 : t = 8
  · subst h8; simp
  by_cases h9 : t = 9
  · subst h9; simp
  by_cases h12 : t = 12
  · subst h12; simp
  simp [h1, h2, h5, h6, h8, h9, h12]
theorem l4Item_some (t : Int) : spec_l4Item.f t = some (itemB t) := by
  unfold spec_l4Item.f spec_l4Kind.f itemB
  by_cases h1 : t = 1
  · subst h1; simp
  by_cases h2 : t = 2
  · subst h2; simp
  by_cases h5 : t = 5
  · subst h5; simp
  by_cases h6 : t = 6
  · subst h6; simp
  by_cases h8 : t = 8
  · subst h8; simp
  by_cases h9 : t = 9
  · subst h9; simp
  by_cases h12 : t = 12
  · subst h12; simp
  simp [h1, h2, h5, h6, h8, h9, h12]
theorem impl_nodeOk_ev (n : S53) : Ev (fun k => impl_nodeOk.f k n.f0 n.f1 n.f2 n.f3 n.f4) (plainB n) := by
  have nt : ∀ {g : Nat → Option Bool} {r : Bool}, (n.f3.toList = ([] : List UInt8) → Ev g r) → Ev (fun k => if n.f3.toList = ([] : List UInt8) then g k else some false) (noT n.f3 && r) := by
    intro g r h
    by_cases h3 : n.f3.toList = ([] : List UInt8)
    · rw [show noT n.f3 = true from decide_eq_true h3, Bool.true_and]; exact Ev.pos h3 (h h3)
    · rw [show noT n.f3 = false from decide_eq_false h3, Bool.false_and]; exact Ev.neg h3 (Ev.now _)
  have z : ∀ {c : Prop} [Decidable c] {g : Nat → Option Bool} {r : Bool}, (c → Ev g r) → Ev (fun k => if c then g k else some false) (decide c && r) := by
    intro c _ g r h
    by_cases hc : c
    · rw [decide_eq_true hc, Bool.true_and]; exact Ev.pos hc (h hc)
    · rw [decide_eq_false hc, Bool.false_and]; exact Ev.neg hc (Ev.now _)
  unfold impl_nodeOk.f
  by_cases h5 : n.f0 = 5
  · have e : plainB n = (decide (-2147483648 ≤ n.f2 ∧ n.f2 ≤ 2147483647) && (noT n.f3 && n.f4 == 0)) := by unfold plainB; rw [if_neg (by omega), if_pos h5]
    rw [e]
    refine Ev.pos h5 (Ev.here (a := decide (-2147483648 ≤ n.f2 ∧ n.f2 ≤ 2147483647)) (by unfold impl_isInt32.f; rw [within_some]; rfl) ?_)
    cases decide (-2147483648 ≤ n.f2 ∧ n.f2 ≤ 2147483647) with
    | true => exact Ev.pos rfl (Ev.cast (nt (fun _ => Ev.now _)) (by simp))
    | false => exact Ev.neg (by decide) (Ev.now _)
  refine Ev.neg h5 ?_
  by_cases h6 : n.f0 = 6
  · have e : plainB n = (noT n.f3 && n.f4 == 0) := by unfold plainB; rw [if_neg (by omega), if_neg h5, if_pos h6]
    rw [e]
    exact Ev.pos h6 (nt (fun _ => Ev.now _))
  refine Ev.neg h6 ?_
  by_cases h8 : n.f0 = 8
  · have e : plainB n = (decide (n.f2 = 0) && (decide ((n.f3.size : Int) ≤ 300) && n.f4 == 0)) := by unfold plainB; rw [if_neg (by omega), if_neg h5, if_neg h6, if_pos h8]
    rw [e]
    exact Ev.pos h8 (z (fun _ => z (fun _ => Ev.now _)))
  refine Ev.neg h8 ?_
  by_cases h9 : n.f0 = 9
  · have e : plainB n = (noT n.f3 && (decide (n.f4 ≥ 0) && (if n.f4 = 0 then decide (n.f2 = 0) else itemB n.f2))) := by unfold plainB; rw [if_neg (by omega), if_neg h5, if_neg h6, if_neg h8, if_pos h9]
    rw [e]
    refine Ev.pos h9 (nt (fun _ => z (fun hge => ?_)))
    have it : Ev (fun k => if n.f4 > 0 then ((impl_isType.f k n.f2 true).bind fun t => (some t)) else some false) (decide (n.f4 > 0) && itemB n.f2) := by
      refine z (fun _ => Ev.cast (Ev.bind (isType_some n.f2 true) (Ev.now _)) ?_)
      by_cases h12 : n.f2 = 1 ∨ n.f2 = 2
      · rw [if_pos h12]; unfold itemB; symm; rw [decide_eq_false (by omega)]; rfl
      · rw [if_neg h12]
    by_cases h0 : n.f4 = 0
    · have e2 : (if n.f4 = 0 then decide (n.f2 = 0) else itemB n.f2) = decide (n.f2 = 0) := if_pos h0
      rw [e2]
      refine Ev.pos h0 ?_
      by_cases h2 : n.f2 = 0
      · rw [decide_eq_true h2]; exact Ev.pos h2 (Ev.now _)
      · rw [decide_eq_false h2]; exact Ev.neg h2 (Ev.cast it (by rw [decide_eq_false (by omega)]; rfl))
    · have e2 : (if n.f4 = 0 then decide (n.f2 = 0) else itemB n.f2) = itemB n.f2 := if_neg h0
      rw [e2]
      exact Ev.neg h0 (Ev.cast it (by rw [decide_eq_true (by omega)]; rfl))
  refine Ev.neg h9 ?_
  by_cases h12 : n.f0 = 12
  · have e : plainB n = (decide (n.f2 = 0) && (noT n.f3 && decide (n.f4 ≥ 0))) := by unfold plainB; rw [if_neg (by omega), if_neg h5, if_neg h6, if_neg h8, if_neg h9, if_pos h12]
    rw [e]
    exact Ev.pos h12 (z (fun _ => nt (fun _ => Ev.now _)))
  refine Ev.neg h12 (Ev.bind (isType_some n.f0 false) ?_)
  by_cases h1 : n.f0 = 1 ∨ n.f0 = 2
  · have e : plainB n = (decide (n.f2 = 0) && (noT n.f3 && n.f4 == 0)) := by unfold plainB; rw [if_pos h1]
    rw [e, if_pos h1]
    exact Ev.pos rfl (z (fun _ => nt (fun _ => Ev.now _)))
  · have e : plainB n = false := by unfold plainB; rw [if_neg h1, if_neg h5, if_neg h6, if_neg h8, if_neg h9, if_neg h12]
    rw [e, if_neg h1]
    refine Ev.neg ?_ (Ev.now _)
    unfold itemB; rw [decide_eq_false (by omega)]; decide
theorem spec_l4Plain_ev (n : S53) : Ev (fun k => spec_l4Plain.f k n.f0 n.f1 n.f2 n.f3 n.f4) (plainB n) := by
  have nt : ∀ {g : Nat → Option Bool} {r : Bool}, (n.f3.toList = ([] : List UInt8) → Ev g r) → Ev (fun k => if n.f3.toList = ([] : List UInt8) then g k else some false) (noT n.f3 && r) := by
    intro g r h
    by_cases h3 : n.f3.toList = ([] : List UInt8)
    · rw [show noT n.f3 = true from decide_eq_true h3, Bool.true_and]; exact Ev.pos h3 (h h3)
    · rw [show noT n.f3 = false from decide_eq_false h3, Bool.false_and]; exact Ev.neg h3 (Ev.now _)
  have z : ∀ {c : Prop} [Decidable c] {g : Nat → Option Bool} {r : Bool}, (c → Ev g r) → Ev (fun k => if c then g k else some false) (decide c && r) := by
    intro c _ g r h
    by_cases hc : c
    · rw [decide_eq_true hc, Bool.true_and]; exact Ev.pos hc (h hc)
    · rw [decide_eq_false hc, Bool.false_and]; exact Ev.neg hc (Ev.now _)
  have rest : ∀ b : Bool, (b = decide (n.f0 = 1 ∨ n.f0 = 2)) → Ev (fun k => spec_l4Plain.j0 k n.f0 b n.f0 n.f1 n.f2 n.f3 n.f4) (plainB n) := by
    intro b hb
    subst hb
    refine Ev.step (fun k => by rw [spec_l4Plain.j0]) ?_
    by_cases h1 : n.f0 = 1 ∨ n.f0 = 2
    · have e : plainB n = (decide (n.f2 = 0) && (noT n.f3 && n.f4 == 0)) := by unfold plainB; rw [if_pos h1]
      rw [e]
      exact Ev.pos (decide_eq_true h1) (z (fun _ => nt (fun _ => Ev.now _)))
    refine Ev.neg (by rw [decide_eq_false h1]; decide) ?_
    by_cases h5 : n.f0 = 5
    · have e : plainB n = (decide (-2147483648 ≤ n.f2 ∧ n.f2 ≤ 2147483647) && (noT n.f3 && n.f4 == 0)) := by unfold plainB; rw [if_neg h1, if_pos h5]
      rw [e]
      refine Ev.pos h5 (Ev.here (a := decide (-2147483648 ≤ n.f2 ∧ n.f2 ≤ 2147483647)) (by unfold spec_l4Int.f; rw [l1In_some]; rfl) ?_)
      cases decide (-2147483648 ≤ n.f2 ∧ n.f2 ≤ 2147483647) with
      | true => exact Ev.pos rfl (Ev.cast (nt (fun _ => Ev.now _)) (by simp))
      | false => exact Ev.neg (by decide) (Ev.now _)
    refine Ev.neg h5 ?_
    by_cases h6 : n.f0 = 6
    · have e : plainB n = (noT n.f3 && n.f4 == 0) := by unfold plainB; rw [if_neg h1, if_neg h5, if_pos h6]
      rw [e]
      exact Ev.pos h6 (nt (fun _ => Ev.now _))
    refine Ev.neg h6 ?_
    by_cases h8 : n.f0 = 8
    · have e : plainB n = (decide (n.f2 = 0) && (decide ((n.f3.size : Int) ≤ 300) && n.f4 == 0)) := by unfold plainB; rw [if_neg h1, if_neg h5, if_neg h6, if_pos h8]
      rw [e]
      exact Ev.pos h8 (z (fun _ => z (fun _ => Ev.now _)))
    refine Ev.neg h8 ?_
    by_cases h9 : n.f0 = 9
    · have e : plainB n = (noT n.f3 && (decide (n.f4 ≥ 0) && (if n.f4 = 0 then decide (n.f2 = 0) else itemB n.f2))) := by unfold plainB; rw [if_neg h1, if_neg h5, if_neg h6, if_neg h8, if_pos h9]
      rw [e]
      refine Ev.pos h9 (nt (fun _ => z (fun hge => ?_)))
      have it : Ev (fun (_ : Nat) => if n.f4 > 0 then ((spec_l4Item.f n.f2).bind fun t => (some t)) else some false) (decide (n.f4 > 0) && itemB n.f2) :=
        z (fun _ => Ev.here (l4Item_some n.f2) (Ev.now _))
      by_cases h0 : n.f4 = 0
      · have e2 : (if n.f4 = 0 then decide (n.f2 = 0) else itemB n.f2) = decide (n.f2 = 0) := if_pos h0
        rw [e2]
        refine Ev.pos h0 ?_
        by_cases h2 : n.f2 = 0
        · rw [decide_eq_true h2]; exact Ev.pos h2 (Ev.now _)
        · rw [decide_eq_false h2]; exact Ev.neg h2 (Ev.cast it (by rw [decide_eq_false (by omega)]; rfl))
      · have e2 : (if n.f4 = 0 then decide (n.f2 = 0) else itemB n.f2) = itemB n.f2 := if_neg h0
        rw [e2]
        exact Ev.neg h0 (Ev.cast it (by rw [decide_eq_true (by omega)]; rfl))
    refine Ev.neg h9 ?_
    by_cases h12 : n.f0 = 12
    · have e : plainB n = (decide (n.f2 = 0) && (noT n.f3 && decide (n.f4 ≥ 0))) := by unfold plainB; rw [if_neg h1, if_neg h5, if_neg h6, if_neg h8, if_neg h9, if_pos h12]
      rw [e]
      exact Ev.pos h12 (z (fun _ => nt (fun _ => Ev.now _)))
    have e : plainB n = false := by unfold plainB; rw [if_neg h1, if_neg h5, if_neg h6, if_neg h8, if_neg h9, if_neg h12]
    rw [e]
    exact Ev.neg h12 (Ev.now _)
  unfold spec_l4Plain.f
  by_cases h1 : n.f0 = 1
  · exact Ev.pos h1 (rest _ (by rw [decide_eq_true (by omega)]; simp [h1]))
  · refine Ev.neg h1 (rest _ ?_)
    by_cases h2 : n.f0 = 2
    · rw [decide_eq_true (by omega)]; simp [h2]
    · rw [decide_eq_false (by omega)]; simp [h2]
theorem plainB_many {n : S53} (h : plainB n = true) : n.f0 = 9 ∨ n.f0 = 12 ∨ n.f4 = 0 := by
  unfold plainB at h
  by_cases h9 : n.f0 = 9
  · exact .inl h9
  by_cases h12 : n.f0 = 12
  · exact .inr (.inl h12)
  right; right
  (repeat' split at h) <;> simp_all
def nd (L : List S53) (p : Nat) : S53 := L.getD p z53
theorem rd_nd (L : List S53) (p : Nat) : rd_T53 L (p : Int) = nd L p := rfl
/-- Is this part as told, by the node that it is a part of, and the part ahead of it? -/
def partB (n : S53) (last : Int) (p : S53) : Bool :=
  if n.f0 = 9 then decide (p.f0 = n.f2) && decide (p.f1 = 0) else if n.f0 = 12 then decide (last < p.f1 ∧ p.f1 ≤ 1000) else true
def cLoop (L : List S53) (n : S53) (rec : Nat → Option Nat) : Nat → Nat → Int → Nat → Option Nat
  | 0, _, _, _ => none
  | f + 1, next, last, i => if (i : Int) < n.f4 then (if next < L.length then (if partB n last (nd L next) = true then (match rec next with | none => none | some x => cLoop L n rec f x (nd L next).f1 (i + 1)) else none) else none) else some next
/-- The place behind a node and its parts, at most so deep. -/
def cF (L : List S53) : Nat → Nat → Option Nat
  | 0, _ => none
  | d + 1, p => if p < L.length then (if plainB (nd L p) = true then cLoop L (nd L p) (cF L d) (L.length + 1 - p) (p + 1) 0 0 else none) else none
def oN : Option Nat → Int
  | none => -1
  | some v => v
theorem oN_some (v : Nat) : oN (some v) = (v : Int) := rfl
theorem cLoop_bound (L : List S53) (n : S53) (rec : Nat → Option Nat) (hr : ∀ q x, rec q = some x → q < x ∧ x ≤ L.length) : ∀ f next last i v, next ≤ L.length → cLoop L n rec f next last i = some v → next ≤ v ∧ v ≤ L.length
  | 0, _, _, _, _, _, h => by simp [cLoop] at h
  | f + 1, next, last, i, v, hn, h => by
    unfold cLoop at h
    split at h
    · split at h
      · split at h
        · cases hx : rec next with
          | none => rw [hx] at h; cases h
          | some x =>
            rw [hx] at h
            have h1 := hr next x hx
            have h2 := cLoop_bound L n rec hr f x _ _ v h1.2 h
            omega
        · cases h
      · cases h
    · injection h with h; omega
theorem cF_bound (L : List S53) : ∀ d p v, cF L d p = some v → p < v ∧ v ≤ L.length
  | 0, _, _, h => by simp [cF] at h
  | d + 1, p, v, h => by
    unfold cF at h
    split at h
    · split at h
      · have := cLoop_bound L _ _ (cF_bound L d) _ _ _ _ v (by omega) h; omega
      · cases h
    · cases h
theorem cLoop_mono (L : List S53) (n : S53) (rec rec' : Nat → Option Nat) (hr : ∀ q x, rec q = some x → rec' q = some x) : ∀ f next last i v, cLoop L n rec f next last i = some v → cLoop L n rec' f next last i = some v
  | 0, _, _, _, _, h => by simp [cLoop] at h
  | f + 1, next, last, i, v, h => by
    unfold cLoop at h ⊢
    split at h
    · rename_i h1
      rw [if_pos h1]
      split at h
      · rename_i h2
        rw [if_pos h2]
        split at h
        · rename_i h3
          rw [if_pos h3]
          cases hx : rec next with
          | none => rw [hx] at h; cases h
          | some x =>
            rw [hx] at h
            rw [hr next x hx]
            exact cLoop_mono L n rec rec' hr f x _ _ v h
        · cases h
      · cases h
    · rename_i h1
      rw [if_neg h1]; exact h
theorem cF_mono1 (L : List S53) : ∀ d p v, cF L d p = some v → cF L (d + 1) p = some v
  | 0, _, _, h => by simp [cF] at h
  | d + 1, p, v, h => by
    rw [cF] at h ⊢
    split at h
    · rename_i h1
      rw [if_pos h1]
      split at h
      · rename_i h2
        rw [if_pos h2]
        exact cLoop_mono L _ _ _ (cF_mono1 L d) _ _ _ _ v h
      · cases h
    · cases h
theorem cF_mono (L : List S53) (p v : Nat) (d : Nat) (h : cF L d p = some v) : ∀ e, cF L (d + e) p = some v
  | 0 => h
  | e + 1 => cF_mono1 L (d + e) p v (cF_mono L p v d h e)
theorem cF_det (L : List S53) {p v v' d d' : Nat} (h : cF L d p = some v) (h' : cF L d' p = some v') : v = v' := by
  have h1 := cF_mono L p v d h d'
  have h2 := cF_mono L p v' d' h' d
  rw [Nat.add_comm] at h2
  rw [h1] at h2
  injection h2
/-- The same, with the place behind each node noted. -/
def mLoop (L : List S53) (n : S53) (rec : Nat → List Int → Option Nat × List Int) : Nat → Nat → Int → Nat → List Int → Option Nat × List Int
  | 0, _, _, _, A => (none, A)
  | f + 1, next, last, i, A => if (i : Int) < n.f4 then (if next < L.length then (if partB n last (nd L next) = true then (match (rec next A).1 with | none => (none, (rec next A).2) | some x => mLoop L n rec f x (nd L next).f1 (i + 1) (rec next A).2) else (none, A)) else (none, A)) else (some next, A)
def mF (L : List S53) : Nat → Nat → List Int → Option Nat × List Int
  | 0, _, A => (none, A)
  | d + 1, p, A => if p < L.length then (if plainB (nd L p) = true then (match (mLoop L (nd L p) (mF L d) (L.length + 1 - p) (p + 1) 0 0 A).1 with | none => (none, (mLoop L (nd L p) (mF L d) (L.length + 1 - p) (p + 1) 0 0 A).2) | some x => (some x, (mLoop L (nd L p) (mF L d) (L.length + 1 - p) (p + 1) 0 0 A).2.set p (x : Int))) else (none, A)) else (none, A)
theorem mLoop_fst (L : List S53) (n : S53) (rec : Nat → List Int → Option Nat × List Int) (rec' : Nat → Option Nat) (hr : ∀ q A, (rec q A).1 = rec' q) : ∀ f next last i A, (mLoop L n rec f next last i A).1 = cLoop L n rec' f next last i
  | 0, _, _, _, _ => rfl
  | f + 1, next, last, i, A => by
    unfold mLoop cLoop
    by_cases h1 : (i : Int) < n.f4
    · rw [if_pos h1, if_pos h1]
      by_cases h2 : next < L.length
      · rw [if_pos h2, if_pos h2]
        by_cases h3 : partB n last (nd L next) = true
        · rw [if_pos h3, if_pos h3, hr next A]
          cases rec' next with
          | none => rfl
          | some x => exact mLoop_fst L n rec rec' hr f x _ _ _
        · rw [if_neg h3, if_neg h3]
      · rw [if_neg h2, if_neg h2]
    · rw [if_neg h1, if_neg h1]
theorem mF_fst (L : List S53) : ∀ d p A, (mF L d p A).1 = cF L d p
  | 0, _, _ => rfl
  | d + 1, p, A => by
    unfold mF cF
    by_cases h1 : p < L.length
    · rw [if_pos h1, if_pos h1]
      by_cases h2 : plainB (nd L p) = true
      · rw [if_pos h2, if_pos h2, mLoop_fst L _ _ (cF L d) (fun q A => mF_fst L d q A)]
        cases cLoop L (nd L p) (cF L d) (L.length + 1 - p) (p + 1) 0 0 <;> rfl
      · rw [if_neg h2, if_neg h2]
    · rw [if_neg h1, if_neg h1]
theorem mLoop_len (L : List S53) (n : S53) (rec : Nat → List Int → Option Nat × List Int) (hr : ∀ q A, (rec q A).2.length = A.length) : ∀ f next last i A, (mLoop L n rec f next last i A).2.length = A.length
  | 0, _, _, _, _ => rfl
  | f + 1, next, last, i, A => by
    unfold mLoop
    split
    · split
      · split
        · cases (rec next A).1 with
          | none => exact hr next A
          | some x => exact (mLoop_len L n rec hr f x _ _ _).trans (hr next A)
        · rfl
      · rfl
    · rfl
theorem mF_len (L : List S53) : ∀ d p A, (mF L d p A).2.length = A.length
  | 0, _, _ => rfl
  | d + 1, p, A => by
    unfold mF
    have h := mLoop_len L (nd L p) (mF L d) (mF_len L d) (L.length + 1 - p) (p + 1) 0 0 A
    split
    · split
      · cases (mLoop L (nd L p) (mF L d) (L.length + 1 - p) (p + 1) 0 0 A).1 with
        | none => exact h
        | some x => show ((mLoop L (nd L p) (mF L d) (L.length + 1 - p) (p + 1) 0 0 A).2.set p (x : Int)).length = _; rw [List.length_set]; exact h
      · rfl
    · rfl
/-- What is noted between two places. -/
def Noted (L : List S53) (a b : Nat) (A B : List Int) : Prop := (∀ q, q < a ∨ b ≤ q → B[q]? = A[q]?) ∧ ∀ q, a ≤ q → q < b → ∃ (x : Nat) (e : Nat), B[q]? = some (x : Int) ∧ cF L e q = some x
theorem mLoop_noted (L : List S53) (n : S53) (d : Nat) (hr : ∀ q A v, q < L.length → A.length = L.length → cF L d q = some v → Noted L q v A (mF L d q A).2) : ∀ f next last i A v, next ≤ L.length → A.length = L.length → cLoop L n (cF L d) f next last i = some v → Noted L next v A (mLoop L n (mF L d) f next last i A).2
  | 0, _, _, _, _, _, _, _, h => by simp [cLoop] at h
  | f + 1, next, last, i, A, v, hn, hA, h => by
    unfold cLoop at h
    unfold mLoop
    by_cases h1 : (i : Int) < n.f4
    · rw [if_pos h1] at h ⊢
      by_cases h2 : next < L.length
      · rw [if_pos h2] at h ⊢
        by_cases h3 : partB n last (nd L next) = true
        · rw [if_pos h3] at h ⊢
          rw [mF_fst]
          cases hx : cF L d next with
          | none => rw [hx] at h; cases h
          | some x =>
            rw [hx] at h
            have hb := cF_bound L d next x hx
            have n1 := hr next A x h2 hA hx
            have n2 := mLoop_noted L n d hr f x _ _ (mF L d next A).2 v hb.2 (by rw [mF_len]; exact hA) h
            have hv := cLoop_bound L n (cF L d) (cF_bound L d) f x _ _ v hb.2 h
            refine ⟨fun q hq => (n2.1 q (by omega)).trans (n1.1 q (by omega)), fun q h4 h5 => ?_⟩
            by_cases h6 : q < x
            · obtain ⟨y, e, e1, e2⟩ := n1.2 q h4 h6
              exact ⟨y, e, (n2.1 q (by omega)).trans e1, e2⟩
            · exact n2.2 q (by omega) h5
        · rw [if_neg h3] at h; cases h
      · rw [if_neg h2] at h; cases h
    · rw [if_neg h1] at h ⊢
      injection h with h
      subst h
      exact ⟨fun _ _ => rfl, fun q h4 h5 => by omega⟩
theorem mF_noted (L : List S53) : ∀ d p A v, p < L.length → A.length = L.length → cF L d p = some v → Noted L p v A (mF L d p A).2
  | 0, _, _, _, _, _, h => by simp [cF] at h
  | d + 1, p, A, v, hp, hA, h => by
    have h0 := h
    unfold cF at h
    unfold mF
    rw [if_pos hp] at h ⊢
    by_cases h2 : plainB (nd L p) = true
    · rw [if_pos h2] at h ⊢
      have n1 := mLoop_noted L (nd L p) d (mF_noted L d) (L.length + 1 - p) (p + 1) 0 0 A v (by omega) hA h
      have hl := mLoop_len L (nd L p) (mF L d) (mF_len L d) (L.length + 1 - p) (p + 1) 0 0 A
      have hv := cLoop_bound L (nd L p) (cF L d) (cF_bound L d) _ _ _ _ v (by omega) h
      rw [mLoop_fst L (nd L p) (mF L d) (cF L d) (mF_fst L d), h]
      refine ⟨fun q hq => ?_, fun q h4 h5 => ?_⟩
      · show ((mLoop L (nd L p) (mF L d) (L.length + 1 - p) (p + 1) 0 0 A).2.set p (v : Int))[q]? = _
        rw [List.getElem?_set_ne (by omega)]
        exact n1.1 q (by omega)
      · show ∃ (x : Nat) (e : Nat), ((mLoop L (nd L p) (mF L d) (L.length + 1 - p) (p + 1) 0 0 A).2.set p (v : Int))[q]? = some (x : Int) ∧ _
        by_cases h6 : q = p
        · subst h6
          exact ⟨v, d + 1, by rw [List.getElem?_set_self (by omega)], h0⟩
        · obtain ⟨y, e, e1, e2⟩ := n1.2 q (by omega) h5
          exact ⟨y, e, by rw [List.getElem?_set_ne (by omega)]; exact e1, e2⟩
    · rw [if_neg h2] at h; cases h
theorem spec_part (L : List S53) (deep next i last : Int) (n p : S53) (r : Int) (h : Ev (fun k => spec_l4Check.j2 k L deep next i (!partB n last p) n.f0 n.f1 n.f2 n.f3 n.f4 p.f0 p.f1 p.f2 p.f3 p.f4) r) :
    Ev (fun k => (if n.f0 = 9 then (if (p.f0) = n.f2 then (if (p.f1) = 0 then (if n.f0 = 12 then (if (p.f1) ≤ last then (spec_l4Check.j2 k L deep next i true n.f0 n.f1 n.f2 n.f3 n.f4 p.f0 p.f1 p.f2 p.f3 p.f4) else (spec_l4Check.j2 k L deep next i (decide ((p.f1) > 1000)) n.f0 n.f1 n.f2 n.f3 n.f4 p.f0 p.f1 p.f2 p.f3 p.f4)) else (spec_l4Check.j2 k L deep next i false n.f0 n.f1 n.f2 n.f3 n.f4 p.f0 p.f1 p.f2 p.f3 p.f4)) else (spec_l4Check.j2 k L deep next i true n.f0 n.f1 n.f2 n.f3 n.f4 p.f0 p.f1 p.f2 p.f3 p.f4)) else (spec_l4Check.j2 k L deep next i true n.f0 n.f1 n.f2 n.f3 n.f4 p.f0 p.f1 p.f2 p.f3 p.f4)) else (if n.f0 = 12 then (if (p.f1) ≤ last then (spec_l4Check.j2 k L deep next i true n.f0 n.f1 n.f2 n.f3 n.f4 p.f0 p.f1 p.f2 p.f3 p.f4) else (spec_l4Check.j2 k L deep next i (decide ((p.f1) > 1000)) n.f0 n.f1 n.f2 n.f3 n.f4 p.f0 p.f1 p.f2 p.f3 p.f4)) else (spec_l4Check.j2 k L deep next i false n.f0 n.f1 n.f2 n.f3 n.f4 p.f0 p.f1 p.f2 p.f3 p.f4)))) r := by
  unfold partB at h
  by_cases h9 : n.f0 = 9
  · rw [if_pos h9] at h
    refine Ev.pos h9 ?_
    by_cases h1 : p.f0 = n.f2
    · refine Ev.pos h1 ?_
      by_cases h2 : p.f1 = 0
      · refine Ev.pos h2 (Ev.neg (by omega) ?_)
        rw [decide_eq_true h1, decide_eq_true h2] at h; exact h
      · refine Ev.neg h2 ?_
        rw [decide_eq_true h1, decide_eq_false h2] at h; exact h
    · refine Ev.neg h1 ?_
      rw [decide_eq_false h1] at h; exact h
  · rw [if_neg h9] at h
    refine Ev.neg h9 ?_
    by_cases h12 : n.f0 = 12
    · rw [if_pos h12] at h
      refine Ev.pos h12 ?_
      by_cases h1 : p.f1 ≤ last
      · refine Ev.pos h1 ?_
        rw [decide_eq_false (show ¬ (last < p.f1 ∧ p.f1 ≤ 1000) by omega)] at h; exact h
      · refine Ev.neg h1 ?_
        have e : (decide (p.f1 > 1000)) = !decide (last < p.f1 ∧ p.f1 ≤ 1000) := by
          by_cases h3 : p.f1 > 1000
          · rw [decide_eq_true h3, decide_eq_false (show ¬ (last < p.f1 ∧ p.f1 ≤ 1000) by omega)]; rfl
          · rw [decide_eq_false h3, decide_eq_true (show last < p.f1 ∧ p.f1 ≤ 1000 by omega)]; rfl
        rw [e]; exact h
    · rw [if_neg h12] at h
      exact Ev.neg h12 h
theorem spec_check_ev (L : List S53) (hL : L.length ≤ 1500) : ∀ d p : Nat, d ≤ 12 → p ≤ L.length → Ev (fun k => spec_l4Check.f k L (p : Int) (13 - (d : Int))) (oN (cF L d p)) := by
  intro d
  induction d with
  | zero =>
    intro p _ hp
    have bad : Ev (fun k => spec_l4Check.j0 k L (p : Int) (13 - ((0 : Nat) : Int)) true) (-1) := Ev.step (fun k => by rw [spec_l4Check.j0]) (by exact Ev.pos rfl (Ev.now _))
    refine Ev.step (fun k => by rw [spec_l4Check.f]) ?_
    by_cases h1 : (p : Int) ≥ (L.length : Int)
    · exact Ev.pos h1 bad
    · exact Ev.neg h1 (Ev.pos (by omega) bad)
  | succ d ih =>
    intro p hd hp
    have bad : Ev (fun k => spec_l4Check.j0 k L (p : Int) (13 - ((d + 1 : Nat) : Int)) true) (-1) := Ev.step (fun k => by rw [spec_l4Check.j0]) (by exact Ev.pos rfl (Ev.now _))
    refine Ev.step (fun k => by rw [spec_l4Check.f]) ?_
    unfold cF
    by_cases h1 : p < L.length
    · rw [if_pos h1]
      refine Ev.neg (by omega) (Ev.neg (by omega) (Ev.pos (by omega) (Ev.pos (by omega) ?_)))
      rw [rd_nd]
      refine Ev.bind (spec_l4Plain_ev (nd L p)) ?_
      cases hb : plainB (nd L p) with
      | false => rw [if_neg (by decide)]; exact bad
      | true =>
        rw [if_pos rfl]
        have loop : ∀ f next i : Nat, ∀ last : Int, next ≤ L.length → L.length + 1 ≤ next + f → i + 1 ≤ next → Ev (fun k => spec_l4Check.l0 k L (13 - ((d + 1 : Nat) : Int)) (next : Int) last (i : Int) (nd L p).f0 (nd L p).f1 (nd L p).f2 (nd L p).f3 (nd L p).f4) (oN (cLoop L (nd L p) (cF L d) f next last i)) := by
          intro f
          induction f with
          | zero => intro next i last h2 h3 _; omega
          | succ f ihf =>
            intro next i last h2 h3 h4
            refine Ev.step (fun k => by rw [spec_l4Check.l0]) ?_
            unfold cLoop
            by_cases h5 : (i : Int) < (nd L p).f4
            · rw [if_pos h5]
              refine Ev.pos h5 ?_
              by_cases h6 : next < L.length
              · rw [if_pos h6]
                refine Ev.neg (by omega) (Ev.pos (by omega) (Ev.pos (by omega) ?_))
                rw [rd_nd]
                refine spec_part L _ _ _ last (nd L p) (nd L next) _ ?_
                refine Ev.step (fun k => by rw [spec_l4Check.j2]) ?_
                cases hq : partB (nd L p) last (nd L next) with
                | false => rw [if_neg (by decide)]; exact Ev.pos rfl (Ev.now _)
                | true =>
                  rw [if_pos rfl]
                  refine Ev.neg (by decide) ?_
                  rw [wrap64_id (x := 13 - ((d + 1 : Nat) : Int) + 1) (by omega) (by omega), show 13 - ((d + 1 : Nat) : Int) + 1 = 13 - (d : Int) by omega]
                  refine Ev.bind (ih next (by omega) (by omega)) ?_
                  cases hx : cF L d next with
                  | none => exact Ev.pos (by decide) (Ev.now _)
                  | some x =>
                    have hxb := cF_bound L d next x hx
                    refine Ev.neg (by show ¬ ((x : Nat) : Int) < 0; omega) ?_
                    rw [wrap64_id (x := (i : Int) + 1) (by omega) (by omega)]
                    have := ihf x (i + 1) (nd L next).f1 hxb.2 (by omega) (by omega)
                    simpa [oN_some] using this
              · rw [if_neg h6]
                exact Ev.pos (by omega) (Ev.now _)
            · rw [if_neg h5]
              exact Ev.neg h5 (Ev.now _)
        refine Ev.step (fun k => by rw [spec_l4Check.j0]) ?_
        refine Ev.neg (by decide) (Ev.pos (by omega) (Ev.pos (by omega) ?_))
        rw [wrap64_id (x := (p : Int) + 1) (by omega) (by omega), rd_nd]
        have := loop (L.length + 1 - p) (p + 1) 0 0 (by omega) (by omega) (by omega)
        simpa using this
    · rw [if_neg h1]
      exact Ev.pos (by omega) bad
theorem impl_measure_ev (L : List S53) (hL : L.length ≤ 1500) : ∀ d p : Nat, ∀ A : List Int, d ≤ 12 → p ≤ L.length → A.length = L.length → Ev (fun k => impl_tree_measure.f k L A (p : Int) (13 - (d : Int))) (oN (mF L d p A).1, (mF L d p A).2) := by
  intro d
  induction d with
  | zero =>
    intro p A _ hp hA
    have bad : Ev (fun k => impl_tree_measure.j0 k (p : Int) (13 - ((0 : Nat) : Int)) true L A) (-1, A) := Ev.step (fun k => by rw [impl_tree_measure.j0]) (by exact Ev.pos rfl (Ev.now _))
    refine Ev.step (fun k => by rw [impl_tree_measure.f]) ?_
    by_cases h1 : (p : Int) ≥ (L.length : Int)
    · exact Ev.pos h1 bad
    · exact Ev.neg h1 (Ev.pos (by omega) bad)
  | succ d ih =>
    intro p A hd hp hA
    have bad : Ev (fun k => impl_tree_measure.j0 k (p : Int) (13 - ((d + 1 : Nat) : Int)) true L A) (-1, A) := Ev.step (fun k => by rw [impl_tree_measure.j0]) (by exact Ev.pos rfl (Ev.now _))
    refine Ev.step (fun k => by rw [impl_tree_measure.f]) ?_
    unfold mF
    by_cases h1 : p < L.length
    · rw [if_pos h1]
      refine Ev.neg (by omega) (Ev.neg (by omega) (Ev.pos (by omega) (Ev.pos (by omega) ?_)))
      rw [rd_nd]
      refine Ev.bind (impl_nodeOk_ev (nd L p)) ?_
      cases hb : plainB (nd L p) with
      | false => rw [if_neg (by decide)]; exact bad
      | true =>
        rw [if_pos rfl]
        have fin : Option Nat × List Int → Int × List Int := fun z => match z.1 with | none => (-1, z.2) | some x => ((x : Int), z.2.set p (x : Int))
        have loop : ∀ f next i : Nat, ∀ last : Int, ∀ B : List Int, next ≤ L.length → L.length + 1 ≤ next + f → i + 1 ≤ next → B.length = L.length → ((nd L p).f0 = 12 → 0 ≤ last ∧ last ≤ 1000) → Ev (fun k => impl_tree_measure.l0 k (p : Int) (13 - ((d + 1 : Nat) : Int)) (next : Int) last (nd L p).f4 (i : Int) L B (nd L p).f0 (nd L p).f1 (nd L p).f2 (nd L p).f3 (nd L p).f4)
            (oN (mLoop L (nd L p) (mF L d) f next last i B).1, (match (mLoop L (nd L p) (mF L d) f next last i B).1 with | none => (mLoop L (nd L p) (mF L d) f next last i B).2 | some x => (mLoop L (nd L p) (mF L d) f next last i B).2.set p (x : Int))) := by
          intro f
          induction f with
          | zero => intro next i last B h2 h3 _ _ _; omega
          | succ f ihf =>
            intro next i last B h2 h3 h4 hB hlast
            refine Ev.step (fun k => by rw [impl_tree_measure.l0]) ?_
            unfold mLoop
            by_cases h5 : (i : Int) < (nd L p).f4
            · rw [if_pos h5]
              refine Ev.pos h5 ?_
              by_cases h6 : next < L.length
              · rw [if_pos h6]
                refine Ev.neg (by omega) (Ev.pos (by omega) (Ev.pos (by omega) ?_))
                rw [rd_nd]
                have good : partB (nd L p) last (nd L next) = true → Ev (fun k => impl_tree_measure.j3 k (p : Int) (13 - ((d + 1 : Nat) : Int)) (next : Int) (nd L p).f4 (i : Int) false L B (nd L p).f0 (nd L p).f1 (nd L p).f2 (nd L p).f3 (nd L p).f4 (nd L next).f0 (nd L next).f1 (nd L next).f2 (nd L next).f3 (nd L next).f4)
                    (oN (match (mF L d next B).1 with | none => (none, (mF L d next B).2) | some x => mLoop L (nd L p) (mF L d) f x (nd L next).f1 (i + 1) (mF L d next B).2).1, (match (match (mF L d next B).1 with | none => (none, (mF L d next B).2) | some x => mLoop L (nd L p) (mF L d) f x (nd L next).f1 (i + 1) (mF L d next B).2).1 with | none => (match (mF L d next B).1 with | none => (none, (mF L d next B).2) | some x => mLoop L (nd L p) (mF L d) f x (nd L next).f1 (i + 1) (mF L d next B).2).2 | some x => (match (mF L d next B).1 with | none => (none, (mF L d next B).2) | some x => mLoop L (nd L p) (mF L d) f x (nd L next).f1 (i + 1) (mF L d next B).2).2.set p (x : Int))) := by
                  intro hq
                  have hl2 : (nd L p).f0 = 12 → 0 ≤ (nd L next).f1 ∧ (nd L next).f1 ≤ 1000 := fun h12 => by
                    have h14 := hlast h12
                    unfold partB at hq
                    rw [if_neg (show ¬ (nd L p).f0 = 9 by omega), if_pos h12] at hq
                    have h13 := of_decide_eq_true hq
                    omega
                  refine Ev.step (fun k => by rw [impl_tree_measure.j3]) ?_
                  refine Ev.neg (by decide) ?_
                  rw [wrap64_id (x := 13 - ((d + 1 : Nat) : Int) + 1) (by omega) (by omega), show 13 - ((d + 1 : Nat) : Int) + 1 = 13 - (d : Int) by omega]
                  refine Ev.bind (ih next B (by omega) (by omega) hB) ?_
                  have hfst := mF_fst L d next B
                  have hlen := mF_len L d next B
                  cases hx : (mF L d next B).1 with
                  | none => exact Ev.pos (show (-1 : Int) < 0 by decide) (Ev.now _)
                  | some x =>
                    rw [hx] at hfst
                    have hxb := cF_bound L d next x hfst.symm
                    refine Ev.neg (by show ¬ ((x : Nat) : Int) < 0; omega) ?_
                    rw [wrap64_id (x := (i : Int) + 1) (by omega) (by omega)]
                    have := ihf x (i + 1) (nd L next).f1 (mF L d next B).2 hxb.2 (by omega) (by omega) (by rw [hlen]; exact hB) hl2
                    simpa [oN_some] using this
                have badj3 : Ev (fun k => impl_tree_measure.j3 k (p : Int) (13 - ((d + 1 : Nat) : Int)) (next : Int) (nd L p).f4 (i : Int) true L B (nd L p).f0 (nd L p).f1 (nd L p).f2 (nd L p).f3 (nd L p).f4 (nd L next).f0 (nd L next).f1 (nd L next).f2 (nd L next).f3 (nd L next).f4) (-1, B) :=
                  Ev.step (fun k => by rw [impl_tree_measure.j3]) (by exact Ev.pos rfl (Ev.now _))
                have badj2 : Ev (fun k => impl_tree_measure.j2 k (p : Int) (13 - ((d + 1 : Nat) : Int)) (next : Int) last (nd L p).f4 (i : Int) true L B (nd L p).f0 (nd L p).f1 (nd L p).f2 (nd L p).f3 (nd L p).f4 (nd L next).f0 (nd L next).f1 (nd L next).f2 (nd L next).f3 (nd L next).f4) (-1, B) :=
                  Ev.step (fun k => by rw [impl_tree_measure.j2]) (by exact Ev.pos rfl (Ev.now _))
                cases hq : partB (nd L p) last (nd L next) with
                | false =>
                  rw [if_neg (by decide)]
                  show Ev _ (-1, B)
                  unfold partB at hq
                  by_cases h9 : (nd L p).f0 = 9
                  · rw [if_pos h9] at hq
                    refine Ev.pos h9 ?_
                    by_cases h10 : (nd L next).f0 = (nd L p).f2
                    · refine Ev.pos h10 ?_
                      rw [decide_eq_true h10, Bool.true_and] at hq
                      have h11 := of_decide_eq_false hq
                      rw [show ((nd L next).f1 != 0) = true from by simpa using h11]
                      exact badj2
                    · exact Ev.neg h10 badj2
                  · rw [if_neg h9] at hq
                    refine Ev.neg h9 ?_
                    by_cases h12 : (nd L p).f0 = 12
                    · rw [if_pos h12] at hq
                      have h13 := of_decide_eq_false hq
                      have h14 := hlast h12
                      refine Ev.step (fun k => by rw [impl_tree_measure.j2]) ?_
                      refine Ev.neg (by decide) (Ev.pos h12 (Ev.here (within_some _ _ _) ?_))
                      rw [wrap64_id (x := last + 1) (by omega) (by omega), decide_eq_false (by omega)]
                      exact badj3
                    · rw [if_neg h12] at hq; cases hq
                | true =>
                  rw [if_pos rfl]
                  have gd := good hq
                  unfold partB at hq
                  by_cases h9 : (nd L p).f0 = 9
                  · rw [if_pos h9] at hq
                    simp only [Bool.and_eq_true, decide_eq_true_eq] at hq
                    refine Ev.pos h9 (Ev.pos hq.1 ?_)
                    rw [show ((nd L next).f1 != 0) = false from by simpa using hq.2]
                    refine Ev.step (fun k => by rw [impl_tree_measure.j2]) ?_
                    exact Ev.neg (by decide) (Ev.neg (by omega) gd)
                  · rw [if_neg h9] at hq
                    refine Ev.neg h9 ?_
                    refine Ev.step (fun k => by rw [impl_tree_measure.j2]) ?_
                    refine Ev.neg (by decide) ?_
                    by_cases h12 : (nd L p).f0 = 12
                    · rw [if_pos h12] at hq
                      have h13 := of_decide_eq_true hq
                      have h14 := hlast h12
                      refine Ev.pos h12 (Ev.here (within_some _ _ _) ?_)
                      rw [wrap64_id (x := last + 1) (by omega) (by omega), decide_eq_true (show last + 1 ≤ (nd L next).f1 ∧ (nd L next).f1 ≤ 1000 by omega)]
                      exact gd
                    · exact Ev.neg h12 gd
              · rw [if_neg h6]
                exact Ev.pos (by omega) (Ev.now _)
            · rw [if_neg h5]
              exact Ev.neg h5 (Ev.pos (by omega) (Ev.pos (by omega) (Ev.const (by simp [oN]))))
        refine Ev.step (fun k => by rw [impl_tree_measure.j0]) ?_
        refine Ev.neg (by decide) (Ev.pos (by omega) (Ev.pos (by omega) ?_))
        rw [wrap64_id (x := (p : Int) + 1) (by omega) (by omega), rd_nd]
        have := loop (L.length + 1 - p) (p + 1) 0 0 A (by omega) (by omega) (by omega) hA (fun _ => by omega)
        cases hm : (mLoop L (nd L p) (mF L d) (L.length + 1 - p) (p + 1) 0 0 A).1 with
        | none => rw [hm] at this; simpa [hm] using this
        | some x => rw [hm] at this; simpa [hm] using this
    · rw [if_neg h1]
      exact Ev.pos (by omega) bad
theorem spec_after_ev (L : List S53) (hL : L.length ≤ 1500) : ∀ d p v : Nat, cF L d p = some v → Ev (fun k => spec_l4After.f k L (p : Int)) (v : Int) := by
  intro d
  induction d with
  | zero => intro p v h; simp [cF] at h
  | succ d ih =>
    intro p v h
    unfold cF at h
    by_cases h1 : p < L.length
    · rw [if_pos h1] at h
      by_cases h2 : plainB (nd L p) = true
      · rw [if_pos h2] at h
        have loop : ∀ f next i : Nat, ∀ last : Int, next ≤ L.length → i + 1 ≤ next → cLoop L (nd L p) (cF L d) f next last i = some v → Ev (fun k => spec_l4After.l0 k L (p : Int) (next : Int) (i : Int)) (v : Int) := by
          intro f
          induction f with
          | zero => intro next i last _ _ h; simp [cLoop] at h
          | succ f ihf =>
            intro next i last h3 h4 h
            refine Ev.step (fun k => by rw [spec_l4After.l0]) ?_
            rw [rd_nd]
            refine Ev.pos (by omega) (Ev.pos (by omega) ?_)
            unfold cLoop at h
            by_cases h5 : (i : Int) < (nd L p).f4
            · rw [if_pos h5] at h
              refine Ev.pos h5 ?_
              by_cases h6 : next < L.length
              · rw [if_pos h6] at h
                by_cases h7 : partB (nd L p) last (nd L next) = true
                · rw [if_pos h7] at h
                  cases hx : cF L d next with
                  | none => rw [hx] at h; cases h
                  | some x =>
                    rw [hx] at h
                    have hb := cF_bound L d next x hx
                    refine Ev.bind (ih next x hx) ?_
                    rw [wrap64_id (x := (i : Int) + 1) (by omega) (by omega)]
                    have := ihf x (i + 1) (nd L next).f1 hb.2 (by omega) h
                    simpa using this
                · rw [if_neg h7] at h; cases h
              · rw [if_neg h6] at h; cases h
            · rw [if_neg h5] at h
              injection h with h
              subst h
              exact Ev.neg h5 (Ev.now _)
        refine Ev.step (fun k => by rw [spec_l4After.f]) ?_
        rw [wrap64_id (x := (p : Int) + 1) (by omega) (by omega)]
        have := loop (L.length + 1 - p) (p + 1) 0 0 (by omega) (by omega) h
        simpa using this
      · rw [if_neg h2] at h; cases h
    · rw [if_neg h1] at h; cases h
/-- What is noted of every place. -/
def AllNoted (L : List S53) (A : List Int) : Prop := A.length = L.length ∧ ∀ q, q < L.length → ∃ (x : Nat) (e : Nat), A[q]? = some (x : Int) ∧ cF L e q = some x
def treeB (L : List S53) : Bool := decide (1 ≤ (L.length : Int) ∧ (L.length : Int) ≤ 1500) && (decide ((rd_T53 L 0).f0 = 12) && (decide ((rd_T53 L 0).f1 = 0) && decide (oN (cF L 12 0) = (L.length : Int))))
theorem treeB_len {L : List S53} (h : treeB L = true) : 1 ≤ L.length ∧ L.length ≤ 1500 := by
  unfold treeB at h
  simp only [Bool.and_eq_true, decide_eq_true_eq] at h
  omega
theorem treeB_cF {L : List S53} (h : treeB L = true) : cF L 12 0 = some L.length := by
  have hl := treeB_len h
  unfold treeB at h
  simp only [Bool.and_eq_true, decide_eq_true_eq] at h
  have h4 := h.2.2.2
  cases hx : cF L 12 0 with
  | none => rw [hx] at h4; have : (-1 : Int) = (L.length : Int) := h4; omega
  | some v => rw [hx] at h4; have : (v : Int) = (L.length : Int) := h4; rw [show v = L.length by omega]
theorem spec_TreeOk_ev (L : List S53) : Ev (fun k => spec_TreeOk.f k L) (treeB L) := by
  unfold spec_TreeOk.f treeB
  refine Ev.here (l1In_some _ _ _) ?_
  by_cases h1 : 1 ≤ (L.length : Int) ∧ (L.length : Int) ≤ 1500
  · rw [decide_eq_true h1]
    refine Ev.pos rfl (Ev.pos (by omega) ?_)
    by_cases h2 : (rd_T53 L 0).f0 = 12
    · rw [decide_eq_true h2]
      refine Ev.pos h2 ?_
      by_cases h3 : (rd_T53 L 0).f1 = 0
      · rw [decide_eq_true h3]
        have := spec_check_ev L (by omega) 12 0 (by omega) (by omega)
        refine Ev.pos h3 (Ev.bind (by simpa using this) (Ev.cast (Ev.now _) ?_))
        by_cases h4 : oN (cF L 12 0) = (L.length : Int) <;> simp [h4]
      · rw [decide_eq_false h3]; exact Ev.neg h3 (Ev.now _)
    · rw [decide_eq_false h2]; exact Ev.neg h2 (Ev.now _)
  · rw [decide_eq_false h1]; exact Ev.neg (by decide) (Ev.now _)
/-- The places behind the nodes of a right list. -/
def afterR (L : List S53) : List Int := (mF L 12 0 (List.replicate L.length 0)).2
theorem impl_treeOf_ev (L : List S53) : Ev (fun k => impl_treeOf.f k L) (if treeB L = true then (afterR L, true) else ([], false)) := by
  unfold impl_treeOf.f treeB
  refine Ev.here (within_some _ _ _) ?_
  by_cases h1 : 1 ≤ (L.length : Int) ∧ (L.length : Int) ≤ 1500
  · rw [decide_eq_true h1]
    refine Ev.pos rfl ?_
    by_cases h2 : (rd_T53 L 0).f0 = 12
    · rw [decide_eq_true h2]
      refine Ev.pos h2 ?_
      by_cases h3 : (rd_T53 L 0).f1 = 0
      · rw [decide_eq_true h3]
        have := impl_measure_ev L (by omega) 12 0 (List.replicate L.length 0) (by omega) (by omega) (by simp)
        refine Ev.pos h3 (Ev.bind (by simpa using this) ?_)
        rw [mF_fst]
        by_cases h4 : oN (cF L 12 0) = (L.length : Int)
        · rw [decide_eq_true h4]; exact Ev.pos h4 (Ev.now _)
        · rw [decide_eq_false h4]; exact Ev.neg h4 (Ev.now _)
      · rw [decide_eq_false h3]; exact Ev.neg h3 (Ev.now _)
    · rw [decide_eq_false h2]; exact Ev.neg h2 (Ev.now _)
  · rw [decide_eq_false h1]; exact Ev.neg (by decide) (Ev.now _)
theorem afterR_noted {L : List S53} (h : treeB L = true) : AllNoted L (afterR L) := by
  have hl := treeB_len h
  have hn := mF_noted L 12 0 (List.replicate L.length 0) L.length (by omega) (by simp) (treeB_cF h)
  exact ⟨by unfold afterR; rw [mF_len]; simp, fun q hq => hn.2 q (by omega) hq⟩
theorem TreeAfter_bad (L : List S53) (a : Int) (h : ¬ (treeB L = true ∧ 0 ≤ a ∧ a ≤ (L.length : Int) - 1)) : Ev (fun k => spec_TreeAfter.f k L a) (-1) ∧ Ev (fun k => impl_TreeAfter.f k L a) (-1) ∧ ∀ id, Ev (fun k => impl_TreeFind.f k L a id) (-1) := by
  have ht := impl_treeOf_ev L
  have hk := spec_TreeOk_ev L
  cases hb : treeB L with
  | false =>
    rw [hb] at ht hk
    rw [if_neg (by decide)] at ht
    refine ⟨?_, ?_, fun id => ?_⟩
    · unfold spec_TreeAfter.f; exact Ev.bind hk (Ev.neg (by decide) (Ev.now _))
    · unfold impl_TreeAfter.f; exact Ev.bind ht (Ev.neg (by decide) (Ev.now _))
    · unfold impl_TreeFind.f; exact Ev.bind ht (Ev.neg (by decide) (Ev.now _))
  | true =>
    have hl := treeB_len hb
    have h1 : ¬ (0 ≤ a ∧ a ≤ (L.length : Int) - 1) := fun h2 => h ⟨hb, h2⟩
    rw [hb] at ht hk
    rw [if_pos rfl] at ht
    have hw : wrap64 ((L.length : Int) - 1) = (L.length : Int) - 1 := wrap64_id (by omega) (by omega)
    refine ⟨?_, ?_, fun id => ?_⟩
    · unfold spec_TreeAfter.f
      refine Ev.bind hk (Ev.pos rfl (Ev.here (l1In_some _ _ _) ?_))
      rw [hw, decide_eq_false h1]
      exact Ev.neg (by decide) (Ev.now _)
    · unfold impl_TreeAfter.f
      refine Ev.bind ht (Ev.pos rfl (Ev.here (within_some _ _ _) ?_))
      rw [hw, decide_eq_false h1]
      exact Ev.neg (by decide) (Ev.now _)
    · unfold impl_TreeFind.f
      refine Ev.bind ht (Ev.pos rfl ?_)
      unfold impl_tree_find.f
      refine Ev.here (within_some _ _ _) ?_
      rw [hw, decide_eq_false h1]
      refine Ev.neg (by decide) ?_
      exact Ev.step (fun k => by rw [impl_tree_find.j0]) (by exact Ev.pos rfl (Ev.now _))
theorem TreeAfter_at {L : List S53} (hb : treeB L = true) {p x e : Nat} (hp : p < L.length) (hx : cF L e p = some x) : Ev (fun k => spec_TreeAfter.f k L (p : Int)) (x : Int) ∧ Ev (fun k => impl_TreeAfter.f k L (p : Int)) (x : Int) := by
  have ht := impl_treeOf_ev L
  have hk := spec_TreeOk_ev L
  have hl := treeB_len hb
  have hA := afterR_noted hb
  rw [hb] at ht hk
  rw [if_pos rfl] at ht
  have hw : wrap64 ((L.length : Int) - 1) = (L.length : Int) - 1 := wrap64_id (by omega) (by omega)
  have h1 : 0 ≤ (p : Int) ∧ (p : Int) ≤ (L.length : Int) - 1 := by omega
  constructor
  · unfold spec_TreeAfter.f
    refine Ev.bind hk (Ev.pos rfl (Ev.here (l1In_some _ _ _) ?_))
    rw [hw, decide_eq_true h1]
    exact Ev.pos rfl (Ev.bind (spec_after_ev L hl.2 e p x hx) (Ev.now _))
  · unfold impl_TreeAfter.f
    refine Ev.bind ht (Ev.pos rfl (Ev.here (within_some _ _ _) ?_))
    rw [hw, decide_eq_true h1]
    obtain ⟨y, e', ha, hy⟩ := hA.2 p hp
    obtain rfl := cF_det L hx hy
    have e2 : rd (afterR L) (p : Int) = (x : Int) := by
      unfold rd
      rw [Int.toNat_natCast, List.getD_eq_getElem?_getD, ha]; rfl
    have hl2 := hA.1
    refine Ev.pos rfl (Ev.pos (by omega) (Ev.pos (by dsimp only; omega) ?_))
    rw [e2]
    exact Ev.now _
/-- A draw of a list answers, within these lengths. -/
def DR (s : List Int) (lo hi : Nat) (g : Nat → Option (List S53 × Int × Int)) : Prop := ∃ (L : List S53) (i h : Int), Ev g (L, i, h) ∧ lo ≤ L.length ∧ L.length ≤ hi ∧ Cur s i
theorem DR.step {s lo hi} {g f : Nat → Option (List S53 × Int × Int)} (h : ∀ k, g (k + 1) = f k) (d : DR s lo hi f) : DR s lo hi g := by
  obtain ⟨L, i, h', e, r⟩ := d
  exact ⟨L, i, h', Ev.step h e, r⟩
theorem DR.pos {s lo hi} {c : Prop} [Decidable c] {g f : Nat → Option (List S53 × Int × Int)} (h : c) (d : DR s lo hi g) : DR s lo hi (fun n => if c then g n else f n) := by
  obtain ⟨L, i, h', e, r⟩ := d
  exact ⟨L, i, h', Ev.pos h e, r⟩
theorem DR.neg {s lo hi} {c : Prop} [Decidable c] {g f : Nat → Option (List S53 × Int × Int)} (h : ¬ c) (d : DR s lo hi f) : DR s lo hi (fun n => if c then g n else f n) := by
  obtain ⟨L, i, h', e, r⟩ := d
  exact ⟨L, i, h', Ev.neg h e, r⟩
theorem DR.here {α : Type} {s lo hi} {g : Option α} {f : Nat → α → Option (List S53 × Int × Int)} {a : α} (h : g = some a) (d : DR s lo hi (fun n => f n a)) : DR s lo hi (fun n => g.bind (f n)) := by
  obtain ⟨L, i, h', e, r⟩ := d
  exact ⟨L, i, h', Ev.here h e, r⟩
theorem DR.bind {α : Type} {s lo hi} {g : Nat → Option α} {f : Nat → α → Option (List S53 × Int × Int)} {a : α} (h : Ev g a) (d : DR s lo hi (fun n => f n a)) : DR s lo hi (fun n => (g n).bind (f n)) := by
  obtain ⟨L, i, h', e, r⟩ := d
  exact ⟨L, i, h', Ev.bind h e, r⟩
theorem DR.mono {s lo hi lo' hi'} {g : Nat → Option (List S53 × Int × Int)} (d : DR s lo hi g) (h1 : lo' ≤ lo) (h2 : hi ≤ hi') : DR s lo' hi' g := by
  obtain ⟨L, i, h', e, r1, r2, r3⟩ := d
  exact ⟨L, i, h', e, by omega, by omega, r3⟩
theorem DR.now {s lo hi} (L : List S53) (i h : Int) (h1 : lo ≤ L.length) (h2 : L.length ≤ hi) (hc : Cur s i) : DR s lo hi (fun _ => some (L, i, h)) := ⟨L, i, h, Ev.now _, h1, h2, hc⟩
def PartsDraw (s : List Int) (d m : Nat) : Prop := ∀ (kind id : Int) (L : List S53) (i h : Int), 1 ≤ d → Cur s i → L.length + m ≤ 1000000 → DR s L.length (L.length + m) (fun k => spec_l4DrawNode.f k s i h kind id ((d : Int) - 1) L)
theorem node_loop (s : List Int) (d m : Nat) (hd : d ≤ 3) (hrec : PartsDraw s d m) (kind item : Int) (n : Nat) (hmd : 0 < n → 1 ≤ d) : ∀ (c j : Nat) (next : Int) (L : List S53) (i h : Int), j + c = n → n ≤ 18 → Cur s i → L.length + c * m ≤ 1000000 →
    DR s L.length (L.length + c * m) (fun k => spec_l4DrawNode.l0 k kind (d : Int) L (n : Int) item next (j : Int) s i h) := by
  intro c
  induction c with
  | zero =>
    intro j next L i h hj hn hc hL
    refine DR.step (fun k => by rw [spec_l4DrawNode.l0]) ?_
    exact DR.neg (by omega) (DR.now _ _ _ (by omega) (by omega) hc)
  | succ c ih =>
    intro j next L i h hj hn hc hL
    have hs : (c + 1) * m = c * m + m := Nat.succ_mul c m
    rw [hs] at hL ⊢
    refine DR.step (fun k => by rw [spec_l4DrawNode.l0]) ?_
    refine DR.pos (by omega) ?_
    rw [wrap64_id (x := (d : Int) - 1) (by omega) (by omega), wrap64_id (x := (j : Int) + 1) (by omega) (by omega)]
    by_cases hk : kind = 12
    · obtain ⟨a, i1, h1, e1, _, c1⟩ := l1PickInt_some s i h ([1, 2, 5, 6, 8, 9, 12] : List Int) hc (by simp)
      obtain ⟨b, i2, h2, e2, _, _, _, c2⟩ := l1Below_some s i1 h1 3 c1
      obtain ⟨b3, i3, h3, e3, _, _, _, c3⟩ := l1Below_some s i2 h2 6 c2
      refine DR.pos hk (DR.here e1 (DR.here e2 (DR.here e3 ?_)))
      obtain ⟨L', i4, h4, e4, l1, l2, c4⟩ := hrec a (wrap64 ((wrap64 ((wrap64 (next + 1)) + b)) + (wrap64 ((wrap64 (Int.tdiv b3 5)) * 20)))) L i3 h3 (hmd (by omega)) c3 (by omega)
      refine DR.bind e4 ?_
      have := ih (j + 1) (wrap64 ((wrap64 ((wrap64 (next + 1)) + b)) + (wrap64 ((wrap64 (Int.tdiv b3 5)) * 20)))) L' i4 h4 (by omega) hn c4 (by omega)
      refine DR.mono (lo := L'.length) (hi := L'.length + c * m) ?_ (by omega) (by omega)
      simpa using this
    · refine DR.neg hk ?_
      obtain ⟨L', i4, h4, e4, l1, l2, c4⟩ := hrec item 0 L i h (hmd (by omega)) hc (by omega)
      refine DR.bind e4 ?_
      have := ih (j + 1) next L' i4 h4 (by omega) hn c4 (by omega)
      refine DR.mono (lo := L'.length) (hi := L'.length + c * m) ?_ (by omega) (by omega)
      simpa using this
theorem node_step (s : List Int) (d m : Nat) (hd : d ≤ 3) (hm : m ≤ 1000) (hrec : PartsDraw s d m) (kind id : Int) (L : List S53) (i h : Int) (hc : Cur s i) (hL : L.length + (1 + 18 * m) ≤ 1000000) :
    DR s (L.length + 1) (L.length + (1 + 18 * m)) (fun k => spec_l4DrawNode.f k s i h kind id (d : Int) L) := by
  have j5 : ∀ (L1 : List S53) (n : Nat) (item i h : Int), L1.length = L.length + 1 → n ≤ 18 → (0 < n → 1 ≤ d) → Cur s i → DR s (L.length + 1) (L.length + (1 + 18 * m)) (fun k => spec_l4DrawNode.j5 k kind (d : Int) L1 (n : Int) item s i h) := by
    intro L1 n item i h hl hn hnd hc
    have hnm : n * m ≤ 18 * m := Nat.mul_le_mul_right _ hn
    refine DR.step (fun k => by rw [spec_l4DrawNode.j5]) ?_
    have := node_loop s d m hd hrec kind item n hnd n 0 0 L1 i h (by omega) hn hc (by omega)
    exact DR.mono this (by omega) (by omega)
  have j4 : ∀ (L1 : List S53) (n : Nat) (item i h : Int) (b : Bool), L1.length = L.length + 1 → n ≤ 18 → (0 < n → 1 ≤ d) → Cur s i → DR s (L.length + 1) (L.length + (1 + 18 * m)) (fun k => spec_l4DrawNode.j4 k kind (d : Int) L1 (L.length : Int) (n : Int) item b s i h) := by
    intro L1 n item i h b hl hn hnd hc
    refine DR.step (fun k => by rw [spec_l4DrawNode.j4]) ?_
    cases b with
    | true => exact DR.pos rfl (DR.pos (by omega) (DR.pos (by omega) (j5 _ n item i h (by rw [List.length_set]; exact hl) hn hnd hc)))
    | false => exact DR.neg (by decide) (j5 _ n item i h hl hn hnd hc)
  have j3 : ∀ (L1 : List S53) (n : Nat) (i h : Int), L1.length = L.length + 1 → n ≤ 18 → (0 < n → 1 ≤ d) → Cur s i → DR s (L.length + 1) (L.length + (1 + 18 * m)) (fun k => spec_l4DrawNode.j3 k kind (d : Int) L1 (L.length : Int) (n : Int) s i h) := by
    intro L1 n i h hl hn hnd hc
    refine DR.step (fun k => by rw [spec_l4DrawNode.j3]) ?_
    obtain ⟨a, i1, h1, e1, _, c1⟩ := l1PickInt_some s i h ([5, 8, 6, 12, 9] : List Int) hc (by simp)
    refine DR.here e1 (DR.pos (by omega) (DR.pos (by omega) (DR.here rfl ?_)))
    by_cases hk : kind = 9
    · exact DR.pos hk (j4 _ n a i1 h1 _ (by rw [List.length_set]; exact hl) hn hnd c1)
    · exact DR.neg hk (j4 _ n a i1 h1 _ (by rw [List.length_set]; exact hl) hn hnd c1)
  have j2 : ∀ (L1 : List S53) (n : Nat) (i h : Int), L1.length = L.length + 1 → n ≤ 3 → (0 < n → 1 ≤ d) → Cur s i → DR s (L.length + 1) (L.length + (1 + 18 * m)) (fun k => spec_l4DrawNode.j2 k kind (d : Int) L1 (L.length : Int) (n : Int) s i h) := by
    intro L1 n i h hl hn hnd hc
    refine DR.step (fun k => by rw [spec_l4DrawNode.j2]) ?_
    obtain ⟨o, i1, h1, e1, c1⟩ := l1Once_some s i h 20 hc
    refine DR.here e1 ?_
    by_cases ho : o = true
    · refine DR.pos ho ?_
      rw [wrap64_id (x := (n : Int) * 6) (by omega) (by omega), show (n : Int) * 6 = ((n * 6 : Nat) : Int) by omega]
      exact j3 L1 (n * 6) i1 h1 hl (by omega) (fun _ => hnd (by omega)) c1
    · exact DR.neg ho (j3 L1 n i1 h1 hl (by omega) hnd c1)
  have j1 : ∀ (L1 : List S53) (i h : Int) (b : Bool), L1.length = L.length + 1 → Cur s i → DR s (L.length + 1) (L.length + (1 + 18 * m)) (fun k => spec_l4DrawNode.j1 k kind (d : Int) L1 (L.length : Int) b s i h) := by
    intro L1 i h b hl hc
    refine DR.step (fun k => by rw [spec_l4DrawNode.j1]) ?_
    cases b with
    | true => exact DR.pos rfl (DR.now _ _ _ (by omega) (by omega) hc)
    | false =>
      obtain ⟨v, i1, h1, e1, v0, v1, _, c1⟩ := l1Below_some s i h 4 hc
      have := v1 (by omega)
      refine DR.neg (by decide) (DR.here e1 ?_)
      by_cases hd0 : (d : Int) = 0
      · exact DR.pos hd0 (j2 L1 0 i1 h1 hl (by omega) (by omega) c1)
      · refine DR.neg hd0 ?_
        have := j2 L1 v.toNat i1 h1 hl (by omega) (by omega) c1
        rwa [Int.toNat_of_nonneg v0] at this
  have j0 : ∀ (a b c : Int) (t : ByteArray) (e : Int) (i h : Int), Cur s i → DR s (L.length + 1) (L.length + (1 + 18 * m)) (fun k => spec_l4DrawNode.j0 k kind (d : Int) L s i h a b c t e) := by
    intro a b c t e i h hc
    refine DR.step (fun k => by rw [spec_l4DrawNode.j0]) ?_
    refine DR.pos (by omega) (DR.here rfl ?_)
    by_cases hk : kind = 9
    · exact DR.pos hk (j1 _ i h _ (by simp) hc)
    · exact DR.neg hk (j1 _ i h _ (by simp) hc)
  refine DR.step (fun k => by rw [spec_l4DrawNode.f]) ?_
  by_cases h5 : kind = 5
  · obtain ⟨v, i1, h1, e1, v0, v1, _, c1⟩ := l1Below_some s i h 1000 hc
    exact DR.pos h5 (DR.here e1 (j0 _ _ _ _ _ i1 h1 c1))
  refine DR.neg h5 ?_
  by_cases h6 : kind = 6
  · obtain ⟨v, i1, h1, e1, _, c1⟩ := l2DrawNum_some s i h hc
    exact DR.pos h6 (DR.here e1 (j0 _ _ _ _ _ i1 h1 c1))
  refine DR.neg h6 ?_
  by_cases h8 : kind = 8
  · obtain ⟨t, i1, h1, e1, _, c1⟩ := l4DrawText_ev s i h 5 hc (by omega) (by omega)
    exact DR.pos h8 (DR.bind e1 (j0 _ _ _ _ _ i1 h1 c1))
  · exact DR.neg h8 (j0 _ _ _ _ _ i h hc)
def nN : Nat → Nat
  | 0 => 1
  | d + 1 => 1 + 18 * nN d
theorem nN_le : nN 0 = 1 ∧ nN 1 = 19 ∧ nN 2 = 343 ∧ nN 3 = 6175 := ⟨rfl, rfl, rfl, rfl⟩
theorem node_draw (s : List Int) : ∀ d : Nat, d ≤ 3 → ∀ (kind id : Int) (L : List S53) (i h : Int), Cur s i → L.length + nN d ≤ 1000000 → DR s (L.length + 1) (L.length + nN d) (fun k => spec_l4DrawNode.f k s i h kind id (d : Int) L)
  | 0, _, kind, id, L, i, h, hc, hL => node_step s 0 0 (by omega) (by omega) (fun _ _ _ _ _ h1 => by omega) kind id L i h hc (by have := nN_le; omega)
  | d + 1, hd, kind, id, L, i, h, hc, hL => by
    have ih := node_draw s d (by omega)
    have hn : nN d ≤ 343 := by
      have := nN_le
      rcases (show d = 0 ∨ d = 1 ∨ d = 2 by omega) with rfl | rfl | rfl <;> omega
    refine node_step s (d + 1) (nN d) hd (by omega) (fun kind id L i h _ hc hL => ?_) kind id L i h hc hL
    rw [show ((d + 1 : Nat) : Int) - 1 = (d : Int) by omega]
    exact DR.mono (ih kind id L i h hc hL) (by omega) (by omega)
theorem right_draw (s : List Int) (i h : Int) (hc : Cur s i) : DR s 1 6175 (fun k => spec_l4DrawRight.f k s i h) := by
  unfold spec_l4DrawRight.f
  obtain ⟨v, i1, h1, e1, v0, v1, _, c1⟩ := l1Below_some s i h 3 hc
  have := v1 (by omega)
  refine DR.here e1 ?_
  have nl : nN (1 + v.toNat) ≤ 6175 := by
    have := nN_le
    rcases (show v.toNat = 0 ∨ v.toNat = 1 ∨ v.toNat = 2 by omega) with e | e | e <;> rw [e] <;> simp only [Nat.reduceAdd] <;> omega
  obtain ⟨L, i2, h2, e2, l1, l2, c2⟩ := node_draw s (1 + v.toNat) (by omega) 12 0 [] i1 h1 c1 (by simp only [List.length_nil]; omega)
  simp only [List.length_nil] at l1 l2
  rw [show ((1 + v.toNat : Nat) : Int) = wrap64 (1 + v) by rw [wrap64_id (by omega) (by omega)]; omega] at e2
  refine DR.bind e2 ?_
  by_cases h3 : (L.length : Int) > 300
  · exact DR.pos h3 (DR.now _ _ _ (by simp) (by simp) c2)
  · exact DR.neg h3 (DR.now _ _ _ (by dsimp only; omega) (by dsimp only; omega) c2)
theorem deep_loop (s : List Int) : ∀ (c j : Nat) (L : List S53) (i h : Int), j + c = 12 → L.length = j → Cur s i → DR s 1 20 (fun k => spec_l4DrawTree.l0 k L (j : Int) s i h) := by
  intro c
  induction c with
  | zero =>
    intro j L i h hj hL hc
    refine DR.step (fun k => by rw [spec_l4DrawTree.l0]) ?_
    obtain ⟨v, i1, h1, e1, v0, v1, _, c1⟩ := l1Below_some s i h 2 hc
    have := v1 (by omega)
    refine DR.here e1 ?_
    refine DR.neg (by rw [wrap64_id (x := 11 + v) (by omega) (by omega)]; omega) (DR.pos (by omega) (DR.now _ _ _ (by simp) (by simp; omega) c1))
  | succ c ih =>
    intro j L i h hj hL hc
    refine DR.step (fun k => by rw [spec_l4DrawTree.l0]) ?_
    obtain ⟨v, i1, h1, e1, v0, v1, _, c1⟩ := l1Below_some s i h 2 hc
    have := v1 (by omega)
    refine DR.here e1 ?_
    by_cases hj2 : (j : Int) < wrap64 (11 + v)
    · have em : ∃ q, spec_l1Min.f (j : Int) 1 = some q := by unfold spec_l1Min.f; split <;> exact ⟨_, rfl⟩
      obtain ⟨q, eq⟩ := em
      refine DR.pos hj2 (DR.here eq (DR.pos (by omega) ?_))
      rw [wrap64_id (x := (j : Int) + 1) (by omega) (by omega)]
      have := ih (j + 1) (L ++ [(⟨12, q, 0, (⟨#[]⟩ : ByteArray), 1⟩ : S53)]) i1 h1 (by omega) (by simp; omega) c1
      simpa using this
    · exact DR.neg hj2 (DR.pos (by omega) (DR.now _ _ _ (by simp) (by simp; omega) c1))
theorem tree_draw (s : List Int) (i h : Int) (hc : Cur s i) : DR s 1 7000 (fun k => spec_l4DrawTree.f k s i h) := by
  unfold spec_l4DrawTree.f
  obtain ⟨L, i1, h1, e1, l1, l2, c1⟩ := right_draw s i h hc
  refine DR.bind e1 ?_
  obtain ⟨v, i2, h2, e2, v0, v1, _, c2⟩ := l1Below_some s i1 h1 (L.length : Int) c1
  have v2 := v1 (by omega)
  refine DR.here e2 ?_
  obtain ⟨w, i3, h3, e3, w0, w1, _, c3⟩ := l1Below_some s i2 h2 25 c2
  refine DR.here e3 ?_
  have st : ∀ (x : S53) (i h : Int), Cur s i → DR s 1 7000 (fun _ => some (L.set v.toNat x, i, h)) := fun x i h hc => DR.now _ _ _ (by rw [List.length_set]; omega) (by rw [List.length_set]; omega) hc
  by_cases h0 : w = 0
  · obtain ⟨u, i4, h4, e4, _, _, _, c4⟩ := l1Below_some s i3 h3 14 c3
    exact DR.pos h0 (DR.here e4 (DR.pos (by omega) (DR.pos (by omega) (st _ i4 h4 c4))))
  refine DR.neg h0 ?_
  by_cases h1' : w = 1
  · obtain ⟨u, i4, h4, e4, _, c4⟩ := l1PickInt_some s i3 h3 ([0, 1, 1000, 1001, (-1)] : List Int) c3 (by simp)
    exact DR.pos h1' (DR.here e4 (DR.pos (by omega) (DR.pos (by omega) (st _ i4 h4 c4))))
  refine DR.neg h1' ?_
  by_cases h2' : w = 2
  · obtain ⟨u, i4, h4, e4, _, _, _, c4⟩ := l1Below_some s i3 h3 3 c3
    exact DR.pos h2' (DR.pos (by omega) (DR.pos (by omega) (DR.here e4 (st _ i4 h4 c4))))
  refine DR.neg h2' ?_
  by_cases h3' : w = 3
  · obtain ⟨u, i4, h4, e4, _, c4⟩ := l1PickInt_some s i3 h3 ([0, 1, 2147483648, 8] : List Int) c3 (by simp)
    exact DR.pos h3' (DR.here e4 (DR.pos (by omega) (DR.pos (by omega) (st _ i4 h4 c4))))
  refine DR.neg h3' ?_
  by_cases h4' : w = 4
  · obtain ⟨u, i4, h4, e4, u0, u1, _, c4⟩ := l1Below_some s i3 h3 2 c3
    have := u1 (by omega)
    refine DR.pos h4' (DR.here e4 ?_)
    have hw : wrap64 (300 + u) = 300 + u := wrap64_id (by omega) (by omega)
    exact DR.pos (by rw [hw]; omega) (DR.pos (by rw [hw]; omega) (DR.pos (by omega) (DR.pos (by omega) (st _ i4 h4 c4))))
  refine DR.neg h4' ?_
  by_cases h5' : w = 5
  · exact DR.pos h5' (DR.pos (by dsimp only; omega) (DR.now _ _ _ (by simp) (by simp; omega) c3))
  refine DR.neg h5' ?_
  by_cases h6' : w = 6
  · exact DR.pos h6' (DR.mono (deep_loop s 12 0 [] i3 h3 (by omega) rfl c3) (by omega) (by omega))
  · exact DR.neg h6' (DR.now _ _ _ (by dsimp only; omega) (by dsimp only; omega) c3)
theorem drawTreeAfter_ev (l : List Int) (hl : l.length ≤ 1048576) : ∃ (L : List S53) (a : Int), Ev (fun k => spec_DrawTreeAfter.f k l) (L, a) := by
  unfold spec_DrawTreeAfter.f spec_l4DrawAt.f
  obtain ⟨h0, e0⟩ := l1New_ev l hl
  obtain ⟨L, i1, h1, e1, _, _, c1⟩ := tree_draw l 0 h0 ⟨by omega, by omega, hl⟩
  obtain ⟨v, i2, h2, e2, _, _, _, c2⟩ := l1Below_some l i1 h1 (wrap64 ((L.length : Int) + 1)) c1
  obtain ⟨w, i3, h3, e3, _, _, _, c3⟩ := l1Below_some l i2 h2 20 c2
  exact ⟨_, _, Ev.bind (Ev.bind e0 (Ev.bind e1 (Ev.here e2 (Ev.here e3 (Ev.now _))))) (Ev.now _)⟩
theorem find_tree {L : List S53} (hb : treeB L = true) {p : Nat} (hp : p < L.length) (id : Int) (r : Int) (h : (nd L p).f0 = 12 → Ev (fun k => impl_tree_find.l0 k id ((p : Int) + 1) (nd L p).f4 0 L (afterR L)) r) (h' : (nd L p).f0 ≠ 12 → r = -1) : Ev (fun k => impl_tree_find.f k L (afterR L) (p : Int) id) r := by
  have hl := treeB_len hb
  unfold impl_tree_find.f
  refine Ev.here (a := true) (by rw [within_some, wrap64_id (x := (L.length : Int) - 1) (by omega) (by omega), decide_eq_true (by omega)]) (Ev.pos rfl (Ev.pos (by omega) (Ev.pos (by omega) ?_)))
  refine Ev.step (fun k => by rw [impl_tree_find.j0]) ?_
  rw [rd_nd]
  by_cases h0 : (nd L p).f0 = 12
  · refine Ev.neg (by simp [h0]) (Ev.pos (by omega) (Ev.pos (by omega) ?_))
    rw [wrap64_id (x := (p : Int) + 1) (by omega) (by omega)]
    exact h h0
  · rw [h' h0]
    exact Ev.pos (by simp [h0]) (Ev.now _)
theorem treeFind_tree {L : List S53} (hb : treeB L = true) {p : Nat} (id r : Int) (h : Ev (fun k => impl_tree_find.f k L (afterR L) (p : Int) id) r) : Ev (fun k => impl_TreeFind.f k L (p : Int) id) r := by
  have ht := impl_treeOf_ev L
  rw [hb, if_pos rfl] at ht
  unfold impl_TreeFind.f
  exact Ev.bind ht (Ev.pos rfl h)
def numAt (n : S53) : Int × Bool := if n.f0 = 5 ∨ n.f0 = 6 then (n.f2, true) else (0, false)
theorem treeNum_tree {L : List S53} (hb : treeB L = true) {p : Nat} (id : Int) (q : Nat) (hq : q < L.length) (h : Ev (fun k => impl_tree_find.f k L (afterR L) (p : Int) id) (q : Int)) : Ev (fun k => impl_TreeNumOf.f k L (p : Int) id) (numAt (nd L q)) := by
  have ht := impl_treeOf_ev L
  rw [hb, if_pos rfl] at ht
  unfold impl_TreeNumOf.f
  refine Ev.bind ht (Ev.pos rfl ?_)
  unfold impl_tree_num.f
  refine Ev.bind h ?_
  rw [rd_nd]
  refine Ev.neg (by omega) (Ev.pos (by omega) (Ev.pos (by omega) ?_))
  by_cases h5 : (nd L q).f0 = 5
  · exact Ev.pos h5 (Ev.const (by simp [numAt, h5]))
  by_cases h6 : (nd L q).f0 = 6
  · exact Ev.neg h5 (Ev.pos h6 (Ev.const (by simp [numAt, h6])))
  · exact Ev.neg h5 (Ev.neg h6 (Ev.const (by simp [numAt, h5, h6])))
theorem treeNum_none {L : List S53} (hb : treeB L = true) {p : Nat} (id : Int) (h : Ev (fun k => impl_tree_find.f k L (afterR L) (p : Int) id) (-1)) : Ev (fun k => impl_TreeNumOf.f k L (p : Int) id) (0, false) := by
  have ht := impl_treeOf_ev L
  rw [hb, if_pos rfl] at ht
  unfold impl_TreeNumOf.f
  refine Ev.bind ht (Ev.pos rfl ?_)
  unfold impl_tree_num.f
  exact Ev.bind h (Ev.pos (by decide) (Ev.now _))
theorem parts_loop {L : List S53} (hb : treeB L = true) (p d x : Nat) (hp : p < L.length) : ∀ f next i : Nat, ∀ last : Int, next ≤ L.length → i + 1 ≤ next → cLoop L (nd L p) (cF L d) f next last i = some x →
    ((nd L p).f0 = 12 → ∀ (id r : Int), last < id → Ev (fun k => impl_tree_find.l0 k id (next : Int) (nd L p).f4 (i : Int) L (afterR L)) r → Ev (fun k => impl_tree_find.l0 k id ((p : Int) + 1) (nd L p).f4 0 L (afterR L)) r) →
    Ev (fun k => laws_FnTreeParts.l0 k L (p : Int) (x : Int) (next : Int) (i : Int) (nd L p).f0 (nd L p).f1 (nd L p).f2 (nd L p).f3 (nd L p).f4) true := by
  have hl := treeB_len hb
  have hA := afterR_noted hb
  intro f
  induction f with
  | zero => intro next i last _ _ h; simp [cLoop] at h
  | succ f ihf =>
    intro next i last h3 h4 h hJ
    have hbx := cLoop_bound L (nd L p) (cF L d) (cF_bound L d) (f + 1) next last i x h3 h
    unfold cLoop at h
    refine Ev.step (fun k => by rw [laws_FnTreeParts.l0]) ?_
    by_cases h5 : (i : Int) < (nd L p).f4
    · rw [if_pos h5] at h
      refine Ev.pos h5 ?_
      by_cases h6 : next < L.length
      · rw [if_pos h6] at h
        by_cases h7 : partB (nd L p) last (nd L next) = true
        · rw [if_pos h7] at h
          cases hx : cF L d next with
          | none => rw [hx] at h; cases h
          | some y =>
            rw [hx] at h
            have hby := cF_bound L d next y hx
            have aft := (TreeAfter_at hb h6 hx).2
            rw [rd_nd]
            -- what stands behind this part
            have goon : ((nd L p).f0 = 12 → ∀ (id r : Int), (nd L next).f1 < id → Ev (fun k => impl_tree_find.l0 k id (y : Int) (nd L p).f4 ((i + 1 : Nat) : Int) L (afterR L)) r → Ev (fun k => impl_tree_find.l0 k id ((p : Int) + 1) (nd L p).f4 0 L (afterR L)) r) →
                Ev (fun k => laws_FnTreeParts.l0 k L (p : Int) (x : Int) (y : Int) (wrap64 ((i : Int) + 1)) (nd L p).f0 (nd L p).f1 (nd L p).f2 (nd L p).f3 (nd L p).f4) true := fun hJ' => by
              rw [wrap64_id (x := (i : Int) + 1) (by omega) (by omega)]
              have := ihf y (i + 1) (nd L next).f1 hby.2 (by omega) h hJ'
              simpa using this
            by_cases h12 : (nd L p).f0 = 12
            · have hid : last < (nd L next).f1 := by
                unfold partB at h7
                rw [if_neg (by omega), if_pos h12] at h7
                exact (of_decide_eq_true h7).1
              have fnd : Ev (fun k => impl_tree_find.f k L (afterR L) (p : Int) (nd L next).f1) (next : Int) := by
                refine find_tree hb hp _ _ (fun _ => hJ h12 _ _ hid ?_) (fun h => absurd h12 h)
                refine Ev.step (fun k => by rw [impl_tree_find.l0]) ?_
                rw [rd_nd]
                exact Ev.pos h5 (Ev.pos (by omega) (Ev.pos (by omega) (Ev.pos rfl (Ev.now _))))
              have num := treeNum_tree hb (p := p) (nd L next).f1 next h6 fnd
              have hJ' : (nd L p).f0 = 12 → ∀ (id r : Int), (nd L next).f1 < id → Ev (fun k => impl_tree_find.l0 k id (y : Int) (nd L p).f4 ((i + 1 : Nat) : Int) L (afterR L)) r → Ev (fun k => impl_tree_find.l0 k id ((p : Int) + 1) (nd L p).f4 0 L (afterR L)) r := fun _ id r hlt he => by
                refine hJ h12 id r (by omega) ?_
                obtain ⟨y', e', ha, hy⟩ := hA.2 next h6
                obtain rfl := cF_det L hx hy
                have e2 : rd (afterR L) (next : Int) = (y : Int) := by
                  unfold rd
                  rw [Int.toNat_natCast, List.getD_eq_getElem?_getD, ha]; rfl
                have hl2 := hA.1
                refine Ev.step (fun k => by rw [impl_tree_find.l0]) ?_
                rw [rd_nd, e2, wrap64_id (x := (i : Int) + 1) (by omega) (by omega)]
                refine Ev.pos h5 (Ev.pos (by omega) (Ev.pos (by omega) (Ev.neg (by omega) (Ev.pos (by omega) ?_))))
                simpa using he
              have go1 := goon hJ'
              refine Ev.pos h12 (Ev.pos (by omega) (Ev.pos (by omega) (Ev.bind (treeFind_tree hb _ _ fnd) ?_)))
              refine Ev.step (fun k => by rw [laws_FnTreeParts.j1]) ?_
              rw [rd_nd]
              refine Ev.neg (by simp) (Ev.pos (by omega) (Ev.pos (by omega) (Ev.bind num (Ev.pos h12 ?_))))
              by_cases t5 : (nd L next).f0 = 5
              · have e : numAt (nd L next) = ((nd L next).f2, true) := if_pos (.inl t5)
                rw [e]
                exact Ev.pos t5 (Ev.neg (show ¬ ((true != true) = true) by decide) (Ev.pos rfl (Ev.pos rfl (Ev.bind aft go1))))
              · by_cases t6 : (nd L next).f0 = 6
                · have e : numAt (nd L next) = ((nd L next).f2, true) := if_pos (.inr t6)
                  rw [e]
                  exact Ev.neg t5 (Ev.neg (by simp [t6]) (Ev.pos rfl (Ev.pos rfl (Ev.bind aft go1))))
                · have e : numAt (nd L next) = (0, false) := if_neg (by omega)
                  rw [e]
                  exact Ev.neg t5 (Ev.neg (by simp [t6]) (Ev.neg (by decide) (Ev.bind aft go1)))
            · have fnd : Ev (fun k => impl_tree_find.f k L (afterR L) (p : Int) (nd L next).f1) (-1) := find_tree hb hp _ _ (fun h => absurd h h12) (fun _ => rfl)
              have num := treeNum_none hb (p := p) (nd L next).f1 fnd
              have go1 := goon (fun h => absurd h h12)
              refine Ev.neg h12 ?_
              refine Ev.step (fun k => by rw [laws_FnTreeParts.j1]) ?_
              rw [rd_nd]
              exact Ev.neg (by decide) (Ev.pos (by omega) (Ev.pos (by omega) (Ev.bind num (Ev.neg h12 (Ev.neg (by decide) (Ev.bind aft go1))))))
        · rw [if_neg h7] at h; cases h
      · rw [if_neg h6] at h; cases h
    · rw [if_neg h5] at h
      injection h with h
      subst h
      exact Ev.neg h5 (Ev.pos rfl (Ev.const (by rw [decide_eq_true (by omega)])))
theorem FnTreeParts : ∀ (x0 : List (Int)), (x0.length ≤ maxLen ∧ ∀ y ∈ x0, (Lit.int .u8 y).wf = true) → ∃ k, laws_FnTreeParts.f k x0 = some true := by
  intro l h1
  refine Ev.rounds ?_
  unfold laws_FnTreeParts.f laws_big.f
  refine Ev.here rfl ?_
  by_cases hbig : (l.length : Int) > 1048576
  · exact Ev.pos (decide_eq_true hbig) (Ev.now _)
  refine Ev.neg (by simpa using hbig) ?_
  obtain ⟨L, a, ed⟩ := drawTreeAfter_ev l (by omega)
  refine Ev.bind ed ?_
  by_cases hr : treeB L = true ∧ 0 ≤ a ∧ a ≤ (L.length : Int) - 1
  · obtain ⟨hb, ha0, ha1⟩ := hr
    obtain ⟨p, rfl⟩ : ∃ p : Nat, a = (p : Int) := ⟨a.toNat, by omega⟩
    have hl := treeB_len hb
    have hp : p < L.length := by omega
    obtain ⟨x, e, _, hx⟩ := (afterR_noted hb).2 p hp
    have hbx := cF_bound L e p x hx
    have ta := TreeAfter_at hb hp hx
    refine Ev.bind ta.2 (Ev.bind ta.1 (Ev.pos rfl (Ev.neg (by omega) (Ev.pos (by omega) (Ev.pos (by dsimp only; omega) ?_)))))
    cases e with
    | zero => simp [cF] at hx
    | succ d =>
      unfold cF at hx
      rw [if_pos hp] at hx
      by_cases hpl : plainB (nd L p) = true
      · rw [if_pos hpl] at hx
        rw [wrap64_id (x := (p : Int) + 1) (by omega) (by omega)]
        dsimp only
        rw [rd_nd]
        have := parts_loop hb p d x hp (L.length + 1 - p) (p + 1) 0 0 (by omega) (by omega) hx (fun _ id r _ he => by simpa using he)
        simpa using this
      · rw [if_neg hpl] at hx; cases hx
  · have tb := TreeAfter_bad L a hr
    exact Ev.bind tb.2.1 (Ev.bind tb.1 (Ev.pos rfl (Ev.pos (by decide) (Ev.bind (tb.2.2 1) (Ev.now _)))))
end Go.Proofs.Ytnfamhegbfjggaa.Pure
