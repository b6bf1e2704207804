/- The pure statement of FnDelta: the printed functions answer as the law says, for all arguments. No condition. -/
import Derived.Test.YtgcanbeckamjeaaVFnDelta
import Derived.Test.YtgcanbeckamjeaaPFnDeltax
import Derived.Test.YtgcanbeckamjeaaArgFnDelta
namespace Go.Proofs.Ytgcanbeckamjeaa.Pure
open Go.RowKit Go.Proofs.Ytgcanbeckamjeaa.PFnDelta Go.Proofs.Ytgcanbeckamjeaa.Core Go.Proofs.YtgcanbeckamjeaaW.PrintWords Go.Proofs.YtgcanbeckamjeaaW.PrintLast Go.Proofs.YtgcanbeckamjeaaW.PrintMore Go.Proofs.YtgcanbeckamjeaaW.PrintMore2 Go.Proofs.Ytgcanbeckamjeaa.AFnDelta
set_option linter.unusedVariables false
set_option linter.unusedSimpArgs false
theorem bv_ofInt_wrap (x : Int) : BitVec.ofInt 64 (wrap64 x) = BitVec.ofInt 64 x := by
  apply BitVec.eq_of_toNat_eq
  rw [BitVec.toNat_ofInt, BitVec.toNat_ofInt]
  congr 1
  unfold wrap64; omega
theorem or_wrap (a c : Nat) (ha : a < 2 ^ 64) (hc : c < 2 ^ 64) : Go.bits .or .i64 (wrap64 (a : Int)) (wrap64 (c : Int)) = wrap64 ((a ||| c : Nat) : Int) := by
  have e : Go.bits .or .i64 (wrap64 (a : Int)) (wrap64 (c : Int)) = IntKind.i64.wrap (((BitVec.ofInt 64 (wrap64 (a : Int)) ||| BitVec.ofInt 64 (wrap64 (c : Int))).toNat : Nat) : Int) := rfl
  rw [e, bv_ofInt_wrap, bv_ofInt_wrap, BitVec.ofInt_natCast, BitVec.ofInt_natCast, BitVec.toNat_or, BitVec.toNat_ofNat, BitVec.toNat_ofNat, Nat.mod_eq_of_lt ha, Nat.mod_eq_of_lt hc, IntKind.wrap_i64]
  unfold wrap64; omega
theorem or_digit (m a d : Nat) (ha : a < 2 ^ m) : a ||| d * 2 ^ m = a + d * 2 ^ m := by
  have := Nat.shiftLeft_add_eq_or_of_lt ha d
  rw [Nat.shiftLeft_eq] at this
  rw [Nat.or_comm, ← this, Nat.add_comm]
theorem emod_digit (x p : Int) (hp : 0 < p) : x % (p * 256) = x % p + (x / p) % 256 * p := by
  have h1 := Int.mul_ediv_add_emod x p
  have h2 := Int.mul_ediv_add_emod (x / p) 256
  have a0 := Int.emod_nonneg x (show p ≠ 0 by omega)
  have a1 := Int.emod_lt_of_pos x hp
  have b0 := Int.emod_nonneg (x / p) (show (256 : Int) ≠ 0 by omega)
  have b1 := Int.emod_lt_of_pos (x / p) (show (0 : Int) < 256 by omega)
  have e : x = (x % p + (x / p) % 256 * p) + (p * 256) * (x / p / 256) := by
    have e3 : p * (x / p) = p * (256 * (x / p / 256) + x / p % 256) := by rw [h2]
    rw [Int.mul_add] at e3
    have e4 : p * (256 * (x / p / 256)) = (p * 256) * (x / p / 256) := by rw [Int.mul_assoc]
    have e5 : p * (x / p % 256) = x / p % 256 * p := Int.mul_comm _ _
    omega
  have m0 : 0 ≤ (x / p) % 256 * p := Int.mul_nonneg b0 (by omega)
  have m1 : (x / p) % 256 * p ≤ 255 * p := Int.mul_le_mul_of_nonneg_right (by omega) (by omega)
  generalize hr : x % p + (x / p) % 256 * p = r at *
  conv => lhs; rw [e]
  rw [Int.add_mul_emod_self_left, Int.emod_eq_of_lt (by omega) (by omega)]
/-- A reader of draws that is within its bytes. -/
def Cur (s : List Int) (i : Int) : Prop := 0 ≤ i ∧ i ≤ s.length ∧ s.length ≤ 1048576
theorem l1New_ev (l : List Int) (hl : l.length ≤ 1048576) : ∃ h, Ev (fun k => spec_l1New.f k l) (l, 0, h) := by
  unfold spec_l1New.f
  have key : ∀ (d : Nat) (i h : Int), 0 ≤ i → i + d = l.length → ∃ h', Ev (fun k => spec_l1New.l0 k l h i) (l, 0, h') := by
    intro d
    induction d with
    | zero =>
      intro i h h0 hi
      exact ⟨_, Ev.step (fun k => by rw [spec_l1New.l0]) (by exact Ev.neg (by omega) (Ev.now _))⟩
    | succ d ih =>
      intro i h h0 hi
      by_cases h4 : i < 4000
      · obtain ⟨h', hr⟩ := ih (i + 1) (Go.bits .and .i64 (wrap64 ((wrap64 ((wrap64 (h * 131)) + (wrap64 (rd l i)))) + 7)) 1073741823) (by omega) (by omega)
        refine ⟨h', Ev.step (fun k => by rw [spec_l1New.l0]) (Ev.pos (by omega) (Ev.pos h4 (Ev.pos h0 ?_)))⟩
        rw [wrap64_id (x := i + 1) (by omega) (by omega)]
        exact hr
      · exact ⟨_, Ev.step (fun k => by rw [spec_l1New.l0]) (by exact Ev.pos (by omega) (Ev.neg h4 (Ev.now _)))⟩
  exact key l.length 0 _ (by omega) (by omega)
theorem l1Byte_some (s : List Int) (i h : Int) (hc : Cur s i) : ∃ v i' h', spec_l1Byte.f s i h = some (v, i', h') ∧ 0 ≤ v ∧ v ≤ 255 ∧ Cur s i' := by
  obtain ⟨h0, h1, h2⟩ := hc
  unfold spec_l1Byte.f
  by_cases hlt : i < (s.length : Int)
  · rw [if_pos hlt, if_pos h0]
    refine ⟨_, _, _, rfl, (and_255 _).1, (and_255 _).2, ?_⟩
    rw [wrap64_id (by omega) (by omega)]
    exact ⟨by omega, by omega, h2⟩
  · rw [if_neg hlt]
    exact ⟨_, _, _, rfl, (and_255 _).1, (and_255 _).2, h0, h1, h2⟩
theorem l1Below_some (s : List Int) (i h n : Int) (hc : Cur s i) : ∃ v i' h', spec_l1Below.f s i h n = some (v, i', h') ∧ 0 ≤ v ∧ (0 < n → v < n) ∧ (n ≤ 0 → v = 0) ∧ Cur s i' := by
  unfold spec_l1Below.f
  by_cases hn : n ≤ 0
  · rw [if_pos hn]
    exact ⟨0, i, h, rfl, by omega, by omega, fun _ => rfl, hc⟩
  rw [if_neg hn]
  have hm : ∀ x : Int, 0 ≤ x → 0 ≤ Int.tmod x n ∧ Int.tmod x n < n := fun x hx => by
    rw [Int.tmod_eq_emod_of_nonneg hx]
    exact ⟨Int.emod_nonneg _ (by omega), Int.emod_lt_of_pos _ (by omega)⟩
  by_cases h256 : n ≤ 256
  · rw [if_pos h256]
    obtain ⟨v, i', h', e, v0, v1, hc'⟩ := l1Byte_some s i h hc
    rw [e]
    simp only [Option.bind_some]
    rw [if_neg (by omega)]
    exact ⟨_, _, _, rfl, (hm v v0).1, fun _ => (hm v v0).2, by omega, hc'⟩
  · rw [if_neg h256]
    obtain ⟨a, i1, h1, e1, a0, a1, c1⟩ := l1Byte_some s i h hc
    obtain ⟨b, i2, h2, e2, b0, b1, c2⟩ := l1Byte_some s i1 h1 c1
    obtain ⟨c, i3, h3, e3, c0, c1', c3⟩ := l1Byte_some s i2 h2 c2
    obtain ⟨d, i4, h4, e4, d0, d1, c4⟩ := l1Byte_some s i3 h3 c3
    rw [e1]; simp only [Option.bind_some]; rw [e2]; simp only [Option.bind_some]; rw [e3]; simp only [Option.bind_some]; rw [e4]; simp only [Option.bind_some]
    rw [if_neg (by omega)]
    have hx : 0 ≤ wrap64 ((wrap64 ((wrap64 ((wrap64 (a * 16777216)) + (wrap64 (b * 65536)))) + (wrap64 (c * 256)))) + d) := by
      rw [wrap64_id (x := a * 16777216) (by omega) (by omega), wrap64_id (x := b * 65536) (by omega) (by omega), wrap64_id (x := c * 256) (by omega) (by omega)]
      rw [wrap64_id (x := a * 16777216 + b * 65536) (by omega) (by omega), wrap64_id (x := a * 16777216 + b * 65536 + c * 256) (by omega) (by omega), wrap64_id (by omega) (by omega)]
      omega
    exact ⟨_, _, _, rfl, (hm _ hx).1, fun _ => (hm _ hx).2, by omega, c4⟩
theorem l1Once_some (s : List Int) (i h n : Int) (hc : Cur s i) : ∃ v i' h', spec_l1Once.f s i h n = some (v, i', h') ∧ Cur s i' := by
  unfold spec_l1Once.f
  obtain ⟨v, i', h', e, _, _, _, c⟩ := l1Below_some s i h n hc
  rw [e]
  exact ⟨_, _, _, rfl, c⟩
theorem l1PickInt_some (s : List Int) (i h : Int) (l : List Int) (hc : Cur s i) (hl : 0 < l.length) : ∃ v i' h', spec_l1PickInt.f s i h l = some (v, i', h') ∧ v ∈ l ∧ Cur s i' := by
  unfold spec_l1PickInt.f
  obtain ⟨v, i', h', e, v0, v1, _, c⟩ := l1Below_some s i h (l.length : Int) hc
  rw [e]; simp only [Option.bind_some]
  have := v1 (by omega)
  rw [if_pos v0, if_pos this, rd_eq (by omega)]
  exact ⟨_, _, _, rfl, List.getElem_mem _, c⟩
def I64 (x : Int) : Prop := -9223372036854775808 ≤ x ∧ x ≤ 9223372036854775807
theorem I64_wrap (x : Int) : I64 (wrap64 x) := ⟨wrap64_lo x, wrap64_hi x⟩
theorem l2DrawNum_some (s : List Int) (i h : Int) (hc : Cur s i) : ∃ v i' h', spec_l2DrawNum.f s i h = some (v, i', h') ∧ I64 v ∧ Cur s i' := by
  unfold spec_l2DrawNum.f
  obtain ⟨a, i1, h1, e1, a0, a1, _, c1⟩ := l1Below_some s i h 1000000 hc
  obtain ⟨b, i2, h2, e2, b0, b1, _, c2⟩ := l1Below_some s i1 h1 1000000 c1
  obtain ⟨c, i3, h3, e3, c0, c1', _, c3⟩ := l1Below_some s i2 h2 300 c2
  have := a1 (by omega); have := b1 (by omega); have := c1' (by omega)
  obtain ⟨v, i4, h4, e4, hv, c4⟩ := l1PickInt_some s i3 h3 ([0, 1, (-1), 63, 64, (-64), (-65), 127, 128, 16383, 16384, 2147483647, (-2147483648), 9223372036854775807, (-9223372036854775808), 4611686018427387904, a, wrap64 (-b), c] : List Int) c3 (by simp)
  refine ⟨v, i4, h4, ?_, ?_, c4⟩
  · rw [e1]; simp only [Option.bind_some]; rw [e2]; simp only [Option.bind_some]; rw [e3]; simp only [Option.bind_some]; rw [e4]; rfl
  · have w0 := wrap64_lo (-b); have w1 := wrap64_hi (-b)
    simp only [List.mem_cons, List.not_mem_nil, or_false] at hv
    unfold I64; omega
def AllI (d : List Int) : Prop := ∀ x ∈ d, -9223372036854775808 ≤ x ∧ x ≤ 9223372036854775807
theorem rd_I {d : List Int} (h : AllI d) (j : Int) : -9223372036854775808 ≤ rd d j ∧ rd d j ≤ 9223372036854775807 := by
  by_cases hj : j.toNat < d.length
  · rw [rd_eq hj]; exact h _ (List.getElem_mem hj)
  · unfold rd; rw [List.getD_eq_getElem?_getD, List.getElem?_eq_none (by omega)]; simp
theorem drawDelta_loop (s : List Int) (x6 : Int) (many : Nat) (hm : many ≤ 2000) : ∀ (d i : Nat), i + d = many → ∀ (out : List Int) (x5 c h : Int), out.length = i → AllI out → -9223372036854775808 ≤ x5 → x5 ≤ 9223372036854775807 → Cur s c →
    ∃ r : List Int × Int × Int, Ev (fun k => spec_l9DrawList.l0 k out (many : Int) x5 x6 (i : Int) s c h) r ∧ AllI r.1 ∧ r.1.length ≤ 2001 := by
  intro d
  induction d with
  | zero =>
    intro i hi out x5 c h ho hI a0 a1 hc
    obtain ⟨v, c1, h1, e1, hc1⟩ := l1Once_some s c h 40 hc
    by_cases hv : v = true
    · obtain ⟨u, c2, h2, e2, u0, u1, _, hc2⟩ := l1Below_some s c1 h1 2 hc1
      have hu := u1 (by omega)
      have hw : Unit → wrap64 (2000 + u) = 2000 + u := fun _ => wrap64_id (by omega) (by omega)
      refine ⟨(List.replicate (2000 + u).toNat 0, c2, h2), ?_, fun x hx => by obtain rfl := List.eq_of_mem_replicate hx; omega, by rw [List.length_replicate]; omega⟩
      refine Ev.step (fun k => by rw [spec_l9DrawList.l0]) ?_
      refine Ev.neg (by omega) (Ev.here e1 (Ev.pos hv (Ev.here e2 ?_)))
      dsimp only
      rw [hw ()]
      exact Ev.pos (by omega) (Ev.pos (by omega) (Ev.now _))
    · refine ⟨(out, c1, h1), ?_, hI, by show out.length ≤ 2001; omega⟩
      refine Ev.step (fun k => by rw [spec_l9DrawList.l0]) ?_
      exact Ev.neg (by omega) (Ev.here e1 (Ev.neg hv (Ev.now _)))
  | succ d ih =>
    intro i hi out x5 c h ho hI a0 a1 hc
    obtain ⟨u, c1, h1, e1, _, _, _, hc1⟩ := l1Below_some s c h 4 hc
    obtain ⟨v, c2, h2, e2, hc2⟩ := l1Once_some s c1 h1 25 hc1
    have hI2 : AllI (out ++ [x5]) := fun x hx => by
      rcases List.mem_append.1 hx with q | q
      · exact hI x q
      · rw [List.mem_singleton.1 q]; exact ⟨a0, a1⟩
    have w3 : Unit → wrap64 ((i : Int) + 1) = ((i + 1 : Nat) : Int) := fun _ => by rw [wrap64_id (by omega) (by omega)]; omega
    by_cases hv : v = true
    · obtain ⟨g, c3, h3, e3, hg, hc3⟩ := l2DrawNum_some s c2 h2 hc2
      obtain ⟨r, r1, r2⟩ := ih (i + 1) (by omega) (out ++ [x5]) g c3 h3 (by rw [List.length_append, List.length_singleton]; omega) hI2 hg.1 hg.2 hc3
      refine ⟨r, ?_, r2⟩
      refine Ev.step (fun k => by rw [spec_l9DrawList.l0]) ?_
      refine Ev.pos (by omega) (Ev.pos (by omega) (Ev.here rfl (Ev.here e1 (Ev.here e2 (Ev.pos hv (Ev.here e3 ?_))))))
      rw [w3 ()]; exact r1
    · obtain ⟨r, r1, r2⟩ := ih (i + 1) (by omega) (out ++ [x5]) (wrap64 (wrap64 (x5 + x6) + u)) c2 h2 (by rw [List.length_append, List.length_singleton]; omega) hI2 (wrap64_lo _) (wrap64_hi _) hc2
      refine ⟨r, ?_, r2⟩
      refine Ev.step (fun k => by rw [spec_l9DrawList.l0]) ?_
      refine Ev.pos (by omega) (Ev.pos (by omega) (Ev.here rfl (Ev.here e1 (Ev.here e2 (Ev.neg hv ?_)))))
      rw [w3 ()]; exact r1
theorem drawDelta_ev (l : List Int) (hl : l.length ≤ 1048576) : ∃ d : List Int, Ev (fun k => spec_DrawDeltaPack.f k l) d ∧ AllI d ∧ d.length ≤ 2001 := by
  obtain ⟨h, en⟩ := l1New_ev l hl
  have hc : Cur l 0 := ⟨by omega, by omega, hl⟩
  have j0 : ∀ (n : Nat) (c h : Int), n ≤ 2000 → Cur l c → ∃ r : List Int × Int × Int, Ev (fun k => spec_l9DrawList.j0 k [] (n : Int) l c h) r ∧ AllI r.1 ∧ r.1.length ≤ 2001 := by
    intro n c h hn hc
    obtain ⟨a, c1, h1, e1, a0, a1, _, hc1⟩ := l1Below_some l c h 1000 hc
    obtain ⟨u, c2, h2, e2, _, _, _, hc2⟩ := l1Below_some l c1 h1 60 hc1
    have := a1 (by omega)
    obtain ⟨r, r1, r2⟩ := drawDelta_loop l u n hn n 0 (by omega) [] a c2 h2 rfl (fun x hx => by cases hx) (by omega) (by omega) hc2
    refine ⟨r, ?_, r2⟩
    refine Ev.step (fun k => by rw [spec_l9DrawList.j0]) ?_
    exact Ev.here e1 (Ev.here e2 r1)
  have key : ∃ r : List Int × Int × Int, Ev (fun k => spec_l9DrawList.f k l 0 h) r ∧ AllI r.1 ∧ r.1.length ≤ 2001 := by
    obtain ⟨a, c1, h1, e1, a0, a1, _, hc1⟩ := l1Below_some l 0 h 40 hc
    obtain ⟨v, c2, h2, e2, hc2⟩ := l1Once_some l c1 h1 4 hc1
    have := a1 (by omega)
    unfold spec_l9DrawList.f
    by_cases hv : v = true
    · obtain ⟨u, c3, h3, e3, u0, u1, _, hc3⟩ := l1Below_some l c2 h2 80 hc2
      have := u1 (by omega)
      obtain ⟨U, rfl⟩ := Int.eq_ofNat_of_zero_le u0
      obtain ⟨r, r1, r2⟩ := j0 (100 + U) c3 h3 (by omega) hc3
      refine ⟨r, Ev.here rfl (Ev.here e1 (Ev.here e2 (Ev.pos hv (Ev.here e3 ?_)))), r2⟩
      dsimp only
      rw [wrap64_id (by omega) (by omega)]
      have : (100 : Int) + (U : Int) = ((100 + U : Nat) : Int) := by omega
      rw [this]; exact r1
    · obtain ⟨A, rfl⟩ := Int.eq_ofNat_of_zero_le a0
      obtain ⟨r, r1, r2⟩ := j0 A c2 h2 (by omega) hc2
      exact ⟨r, Ev.here rfl (Ev.here e1 (Ev.here e2 (Ev.neg hv r1))), r2⟩
  obtain ⟨r, r1, r2⟩ := key
  refine ⟨r.1, ?_, r2⟩
  unfold spec_DrawDeltaPack.f
  exact Ev.bind en (Ev.bind r1 (Ev.now _))
def diffs (l : List Int) : List Int := (List.range (l.length - 1)).map fun (i : Nat) => wrap64 (rd l ((i : Int) + 1) - rd l (i : Int))
theorem diffs_length (l : List Int) : (diffs l).length = l.length - 1 := by simp [diffs]
theorem differences_same : ∀ (k : Nat) (a b : List Int) (i : Int), spec_Differences.l0 k a b i = impl_Differences.l0 k a b i
  | 0, _, _, _ => by rw [spec_Differences.l0, impl_Differences.l0]
  | k + 1, a, b, i => by rw [spec_Differences.l0, impl_Differences.l0]; simp only [differences_same k]
theorem impl_Differences_ev (l : List Int) (hl : l.length ≤ 1048576) : Ev (fun k => impl_Differences.f k l) (diffs l) := by
  unfold impl_Differences.f
  have := append_loop (fun k out i => impl_Differences.l0 k l out (i + 1)) (fun i => wrap64 (rd l ((i : Int) + 1) - rd l (i : Int))) (l.length - 1) (diffs l)
    (fun i s h hs hr => by
      refine Ev.step (fun k => by rw [impl_Differences.l0]) ?_
      refine Ev.pos (by omega) (Ev.pos (by omega) ?_)
      rw [wrap64_id (x := (i : Int) + 1 - 1) (by omega) (by omega)]
      refine Ev.pos (by omega) (Ev.pos (by omega) (Ev.pos (by omega) ?_))
      rw [wrap64_id (x := (i : Int) + 1 + 1) (by omega) (by omega)]
      have e : (i : Int) + 1 - 1 = i := by omega
      rw [e]
      simpa using hr)
    (Ev.step (fun k => by rw [impl_Differences.l0]) (by exact Ev.neg (by omega) (Ev.now _)))
  simpa using this
theorem spec_Differences_ev (l : List Int) (hl : l.length ≤ 1048576) : Ev (fun k => spec_Differences.f k l) (diffs l) :=
  Ev.congr (fun k => by unfold spec_Differences.f impl_Differences.f; exact differences_same k _ _ _) (impl_Differences_ev l hl)
theorem bits_and_mask (x m : Int) (k : Nat) (hk : k ≤ 63) (hm : m = 2 ^ k - 1) : Go.bits .and .i64 x m = x % 2 ^ k := by
  have p0 : (0 : Int) < 2 ^ k := Int.pow_pos (by omega)
  have eP : (2 : Int) ^ k = ((2 ^ k : Nat) : Int) := by push_cast; rfl
  have h63 : 2 ^ k ≤ 2 ^ 63 := Nat.pow_le_pow_right (by omega) hk
  have n0 : 0 < 2 ^ k := Nat.pow_pos (by omega)
  have e : Go.bits .and .i64 x m = IntKind.i64.wrap ((((BitVec.ofInt 64 x) &&& (BitVec.ofInt 64 m)).toNat : Nat) : Int) := rfl
  rw [e, BitVec.toNat_and, BitVec.toNat_ofInt, BitVec.toNat_ofInt]
  have em : (m % ((2 ^ 64 : Nat) : Int)).toNat = 2 ^ k - 1 := by
    rw [hm, eP, Int.emod_eq_of_lt (by omega) (by omega)]; omega
  rw [em, Nat.and_two_pow_sub_one_eq_mod]
  have hlt : (x % ((2 ^ 64 : Nat) : Int)).toNat % 2 ^ k < 2 ^ k := Nat.mod_lt _ n0
  rw [wraps_i64 _ (by omega) (by omega), eP, Int.natCast_emod]
  rw [Int.toNat_of_nonneg (Int.emod_nonneg _ (by omega))]
  apply Int.emod_emod_of_dvd
  refine Int.natCast_dvd_natCast.2 (Nat.pow_dvd_pow 2 (by omega))
theorem u64_id {x : Int} (h0 : 0 ≤ x) (h1 : x < 18446744073709551616) : IntKind.u64.wrap x = x := by rw [IntKind.wrap_u64]; omega
theorem bits_and_mask_u (x m : Int) (k : Nat) (hk : k ≤ 63) (hm : m = 2 ^ k - 1) : Go.bits .and .u64 x m = x % 2 ^ k := by
  have p0 : (0 : Int) < 2 ^ k := Int.pow_pos (by omega)
  have eP : (2 : Int) ^ k = ((2 ^ k : Nat) : Int) := by push_cast; rfl
  have h63 : 2 ^ k ≤ 2 ^ 63 := Nat.pow_le_pow_right (by omega) hk
  have n0 : 0 < 2 ^ k := Nat.pow_pos (by omega)
  have e : Go.bits .and .u64 x m = IntKind.u64.wrap ((((BitVec.ofInt 64 x) &&& (BitVec.ofInt 64 m)).toNat : Nat) : Int) := rfl
  rw [e, BitVec.toNat_and, BitVec.toNat_ofInt, BitVec.toNat_ofInt]
  have em : (m % ((2 ^ 64 : Nat) : Int)).toNat = 2 ^ k - 1 := by
    rw [hm, eP, Int.emod_eq_of_lt (by omega) (by omega)]; omega
  rw [em, Nat.and_two_pow_sub_one_eq_mod]
  have hlt : (x % ((2 ^ 64 : Nat) : Int)).toNat % 2 ^ k < 2 ^ k := Nat.mod_lt _ n0
  rw [u64_id (by omega) (by omega), eP, Int.natCast_emod]
  rw [Int.toNat_of_nonneg (Int.emod_nonneg _ (by omega))]
  apply Int.emod_emod_of_dvd
  refine Int.natCast_dvd_natCast.2 (Nat.pow_dvd_pow 2 (by omega))
theorem l2Down7 (x : Int) : spec_l2Down.f x 7 = some (x / 128 % 144115188075855872) := by
  unfold spec_l2Down.f
  rw [if_neg (by decide), if_pos (by decide), wrap64_id (x := 64 - 7) (by omega) (by omega), if_pos (by decide)]
  have e1 : shr .i64 x 7 = x / 128 := rfl
  have e2 : shl .i64 1 (64 - 7) = 144115188075855872 := by
    unfold shl; rw [IntKind.wrap_i64]; rfl
  rw [e1, e2, wrap64_id (by omega) (by omega), bits_and_mask (x / 128) (144115188075855872 - 1) 57 (by omega) rfl]; rfl
theorem l2Down1 (x : Int) : spec_l2Down.f x 1 = some (x / 2 % 9223372036854775808) := by
  unfold spec_l2Down.f
  rw [if_neg (by decide), if_pos (by decide), wrap64_id (x := 64 - 1) (by omega) (by omega), if_pos (by decide)]
  have e1 : shr .i64 x 1 = x / 2 := rfl
  have e2 : shl .i64 1 (64 - 1) = -9223372036854775808 := by
    unfold shl; rw [IntKind.wrap_i64]; rfl
  have e3 : wrap64 (-9223372036854775808 - 1) = 9223372036854775807 := by unfold wrap64; omega
  rw [e1, e2, e3, bits_and_mask (x / 2) 9223372036854775807 63 (by omega) rfl]; rfl
theorem or_u64_128 (x : Int) (h0 : 0 ≤ x) (h1 : x < 128) : Go.bits .or .u64 x 128 = x + 128 := by
  obtain ⟨n, rfl⟩ := Int.eq_ofNat_of_zero_le h0
  have hn : n < 2 ^ 7 := by omega
  have e := (bits_nat .u64 64 (by decide) (fun m h0 h1 => u64_id h0 (by simpa using h1)) n 128 (by omega) (by decide)).2
  have e2 : n ||| 128 = n + 128 := by
    have := or_digit 7 n 1 hn
    simpa using this
  have e3 : Go.bits .or .u64 (n : Int) 128 = ((n ||| 128 : Nat) : Int) := e
  rw [e3, e2]; rfl
/-- The varint of X: both sides print the same bytes. -/
theorem uvarPut_both : ∀ (d : Nat) (x X : Int) (out : List Int), 0 ≤ X → X < 18446744073709551616 → X = x % 18446744073709551616 → X < 128 ^ (d + 1) → out.length + d ≤ 10000 →
    ∃ r : List Int, Ev (fun k => spec_UvarPut.l0 k x (out)) r ∧ Ev (fun k => impl_UvarPut.l0 k X out) r ∧ r.length ≤ out.length + d + 1 ∧ (∀ y ∈ r, y ∈ out ∨ (0 ≤ y ∧ y ≤ 255)) := by
  intro d
  induction d with
  | zero =>
    intro x X out h0 h1 hx hd ho
    have hX : X < 128 := by simpa using hd
    refine ⟨out ++ [X], ?_, ?_, by simp, ?_⟩
    · refine Ev.step (fun k => by rw [spec_UvarPut.l0]) ?_
      refine Ev.here (l2Down7 x) (Ev.pos (by omega) (Ev.pos (by omega) (Ev.const ?_)))
      have : x % 256 = X := by omega
      rw [this]
    · refine Ev.step (fun k => by rw [impl_UvarPut.l0]) ?_
      refine Ev.neg (by omega) (Ev.pos (by omega) (Ev.const ?_))
      have : X % 256 = X := by omega
      rw [this]
    · intro y hy
      rcases List.mem_append.1 hy with h | h
      · exact .inl h
      · obtain rfl := List.mem_singleton.1 h; right; omega
  | succ d ih =>
    intro x X out h0 h1 hx hd ho
    by_cases hX : X < 128
    · refine ⟨out ++ [X], ?_, ?_, by simp, ?_⟩
      · refine Ev.step (fun k => by rw [spec_UvarPut.l0]) ?_
        refine Ev.here (l2Down7 x) (Ev.pos (by omega) (Ev.pos (by omega) (Ev.const ?_)))
        have : x % 256 = X := by omega
        rw [this]
      · refine Ev.step (fun k => by rw [impl_UvarPut.l0]) ?_
        refine Ev.neg (by omega) (Ev.pos (by omega) (Ev.const ?_))
        have : X % 256 = X := by omega
        rw [this]
      · intro y hy
        rcases List.mem_append.1 hy with h | h
        · exact .inl h
        · obtain rfl := List.mem_singleton.1 h; right; omega
    · have hpow : X / 128 < 128 ^ (d + 1) := by
        rw [Int.pow_succ] at hd
        omega
      have hq : x / 128 % 144115188075855872 = X / 128 := by omega
      obtain ⟨r, r1, r2, r3, r4⟩ := ih (x / 128 % 144115188075855872) (X / 128) (out ++ [X % 128 + 128]) (by omega) (by omega) (by rw [hq]; omega) hpow (by simp; omega)
      refine ⟨r, ?_, ?_, by simp at r3; omega, ?_⟩
      · refine Ev.step (fun k => by rw [spec_UvarPut.l0]) ?_
        refine Ev.here (l2Down7 x) (Ev.neg (by omega) (Ev.pos (by omega) (Ev.here (l2Down7 x) ?_)))
        rw [bits_and_mask x 127 7 (by omega) rfl]
        have e : (2 : Int) ^ 7 = 128 := rfl
        rw [e, wrap64_id (by omega) (by omega)]
        have e2 : (x % 128 + 128) % 256 = X % 128 + 128 := by omega
        rw [e2]; exact r1
      · refine Ev.step (fun k => by rw [impl_UvarPut.l0]) ?_
        refine Ev.pos (by omega) (Ev.pos (by omega) ?_)
        rw [bits_and_mask_u X 127 7 (by omega) rfl]
        have e : (2 : Int) ^ 7 = 128 := rfl
        rw [e, or_u64_128 _ (by omega) (by omega)]
        have e2 : (X % 128 + 128) % 256 = X % 128 + 128 := by omega
        rw [e2]; exact r2
      · intro y hy
        rcases r4 y hy with h | h
        · rcases List.mem_append.1 h with h | h
          · exact .inl h
          · obtain rfl := List.mem_singleton.1 h; right; omega
        · exact .inr h
theorem UvarPut_ev (x : Int) : ∃ r : List Int, Ev (fun k => spec_UvarPut.f k x) r ∧ Ev (fun k => impl_UvarPut.f k x) r ∧ r.length ≤ 10 ∧ (∀ y ∈ r, 0 ≤ y ∧ y ≤ 255) := by
  unfold spec_UvarPut.f impl_UvarPut.f
  have e : IntKind.u64.wrap x = x % 18446744073709551616 := by rw [IntKind.wrap_u64]
  rw [e]
  obtain ⟨r, r1, r2, r3, r4⟩ := uvarPut_both 9 x (x % 18446744073709551616) [] (by omega) (by omega) rfl (by
    have : (128 : Int) ^ (9 + 1) = 1180591620717411303424 := by decide
    omega) (by simp)
  exact ⟨r, r1, r2, by simpa using r3, fun y hy => by
    rcases r4 y hy with h | h
    · cases h
    · exact h⟩
theorem Zig_both (x : Int) (h0 : -9223372036854775808 ≤ x) (h1 : x ≤ 9223372036854775807) : ∃ z, spec_Zig.f x = some z ∧ impl_Zig.f x = some z := by
  unfold spec_Zig.f impl_Zig.f
  by_cases h : x < 0
  · rw [if_pos h]
    refine ⟨_, rfl, ?_⟩
    have e : x / 9223372036854775808 = -1 := by omega
    rw [e]
    simp only [Go.bits, BitVec.xor_comm]
  · rw [if_neg h]
    refine ⟨_, rfl, ?_⟩
    have e : x / 9223372036854775808 = 0 := by omega
    rw [e]
    have e2 : Go.bits .xor .i64 (wrap64 (x * 2)) 0 = IntKind.i64.wrap ((((BitVec.ofInt 64 (wrap64 (x * 2))) ^^^ (BitVec.ofInt 64 0)).toNat : Nat) : Int) := rfl
    have e3 : (BitVec.ofInt 64 0) = 0#64 := rfl
    have e4 : Go.bits .xor .i64 (wrap64 (x * 2)) 0 = wrap64 (x * 2) := by
      rw [e2, e3, BitVec.xor_zero, BitVec.toNat_ofInt, IntKind.wrap_i64]
      unfold wrap64; omega
    rw [e4]
theorem ZigPut_ev (x : Int) (h0 : -9223372036854775808 ≤ x) (h1 : x ≤ 9223372036854775807) : ∃ r : List Int, Ev (fun k => spec_ZigPut.f k x) r ∧ Ev (fun k => impl_ZigPut.f k x) r ∧ r.length ≤ 10 ∧ (∀ y ∈ r, 0 ≤ y ∧ y ≤ 255) := by
  obtain ⟨z, z1, z2⟩ := Zig_both x h0 h1
  obtain ⟨r, r1, r2, r3, r4⟩ := UvarPut_ev z
  unfold spec_ZigPut.f impl_ZigPut.f
  exact ⟨r, Ev.here z1 (Ev.bind r1 (Ev.now _)), Ev.here z2 (Ev.bind r2 (Ev.now _)), r3, r4⟩
/-- How many bits a number has, told in at most f rounds. -/
def blF : Nat → Nat → Nat
  | 0, _ => 0
  | f + 1, n => if n = 0 then 0 else blF f (n / 2) + 1
theorem blF_le : ∀ (f n : Nat), blF f n ≤ f
  | 0, _ => Nat.le_refl _
  | f + 1, n => by
    unfold blF
    have := blF_le f (n / 2)
    split <;> omega
theorem blF_more : ∀ (f n : Nat), n < 2 ^ f → ∀ g, blF (f + g) n = blF f n
  | 0, n, h, g => by
    obtain rfl : n = 0 := by simpa using h
    cases g with
    | zero => rfl
    | succ g => rw [Nat.zero_add]; unfold blF; rw [if_pos rfl]
  | f + 1, n, h, g => by
    rw [show f + 1 + g = (f + g) + 1 by omega]
    unfold blF
    rw [blF_more f (n / 2) (by rw [Nat.pow_succ] at h; omega) g]
theorem blF_shift : ∀ (k f n : Nat), 0 < n / 2 ^ k → blF (f + k) n = k + blF f (n / 2 ^ k)
  | 0, f, n, h => by simp
  | k + 1, f, n, h => by
    rw [show f + (k + 1) = (f + k) + 1 by omega]
    have hn : n ≠ 0 := by
      intro e; rw [e] at h; simp at h
    have hd : n / 2 / 2 ^ k = n / 2 ^ (k + 1) := by rw [Nat.div_div_eq_div_mul, Nat.pow_succ, Nat.mul_comm]
    rw [show blF (f + k + 1) n = blF (f + k) (n / 2) + 1 from by rw [blF, if_neg hn], blF_shift k f (n / 2) (by rw [hd]; exact h), hd]
    omega
theorem tab_at (v : Int) (h0 : 0 ≤ v) (h1 : v < 256) : bt (⟨#[0, 1, 2, 2, 3, 3, 3, 3, 4, 4, 4, 4, 4, 4, 4, 4, 5, 5, 5, 5, 5, 5, 5, 5, 5, 5, 5, 5, 5, 5, 5, 5, 6, 6, 6, 6, 6, 6, 6, 6, 6, 6, 6, 6, 6, 6, 6, 6, 6, 6, 6, 6, 6, 6, 6, 6, 6, 6, 6, 6, 6, 6, 6, 6, 7, 7, 7, 7, 7, 7, 7, 7, 7, 7, 7, 7, 7, 7, 7, 7, 7, 7, 7, 7, 7, 7, 7, 7, 7, 7, 7, 7, 7, 7, 7, 7, 7, 7, 7, 7, 7, 7, 7, 7, 7, 7, 7, 7, 7, 7, 7, 7, 7, 7, 7, 7, 7, 7, 7, 7, 7, 7, 7, 7, 7, 7, 7, 7, 8, 8, 8, 8, 8, 8, 8, 8, 8, 8, 8, 8, 8, 8, 8, 8, 8, 8, 8, 8, 8, 8, 8, 8, 8, 8, 8, 8, 8, 8, 8, 8, 8, 8, 8, 8, 8, 8, 8, 8, 8, 8, 8, 8, 8, 8, 8, 8, 8, 8, 8, 8, 8, 8, 8, 8, 8, 8, 8, 8, 8, 8, 8, 8, 8, 8, 8, 8, 8, 8, 8, 8, 8, 8, 8, 8, 8, 8, 8, 8, 8, 8, 8, 8, 8, 8, 8, 8, 8, 8, 8, 8, 8, 8, 8, 8, 8, 8, 8, 8, 8, 8, 8, 8, 8, 8, 8, 8, 8, 8, 8, 8, 8, 8, 8, 8, 8, 8, 8, 8, 8, 8, 8, 8, 8, 8, 8, 8]⟩ : ByteArray) v = (blF 8 v.toNat : Int) := by
  have key : ∀ n : Fin 256, bt (⟨#[0, 1, 2, 2, 3, 3, 3, 3, 4, 4, 4, 4, 4, 4, 4, 4, 5, 5, 5, 5, 5, 5, 5, 5, 5, 5, 5, 5, 5, 5, 5, 5, 6, 6, 6, 6, 6, 6, 6, 6, 6, 6, 6, 6, 6, 6, 6, 6, 6, 6, 6, 6, 6, 6, 6, 6, 6, 6, 6, 6, 6, 6, 6, 6, 7, 7, 7, 7, 7, 7, 7, 7, 7, 7, 7, 7, 7, 7, 7, 7, 7, 7, 7, 7, 7, 7, 7, 7, 7, 7, 7, 7, 7, 7, 7, 7, 7, 7, 7, 7, 7, 7, 7, 7, 7, 7, 7, 7, 7, 7, 7, 7, 7, 7, 7, 7, 7, 7, 7, 7, 7, 7, 7, 7, 7, 7, 7, 7, 8, 8, 8, 8, 8, 8, 8, 8, 8, 8, 8, 8, 8, 8, 8, 8, 8, 8, 8, 8, 8, 8, 8, 8, 8, 8, 8, 8, 8, 8, 8, 8, 8, 8, 8, 8, 8, 8, 8, 8, 8, 8, 8, 8, 8, 8, 8, 8, 8, 8, 8, 8, 8, 8, 8, 8, 8, 8, 8, 8, 8, 8, 8, 8, 8, 8, 8, 8, 8, 8, 8, 8, 8, 8, 8, 8, 8, 8, 8, 8, 8, 8, 8, 8, 8, 8, 8, 8, 8, 8, 8, 8, 8, 8, 8, 8, 8, 8, 8, 8, 8, 8, 8, 8, 8, 8, 8, 8, 8, 8, 8, 8, 8, 8, 8, 8, 8, 8, 8, 8, 8, 8, 8, 8, 8, 8, 8, 8]⟩ : ByteArray) ((n.val : Nat) : Int) = (blF 8 n.val : Int) := by decide +kernel
  have h : bt (⟨#[0, 1, 2, 2, 3, 3, 3, 3, 4, 4, 4, 4, 4, 4, 4, 4, 5, 5, 5, 5, 5, 5, 5, 5, 5, 5, 5, 5, 5, 5, 5, 5, 6, 6, 6, 6, 6, 6, 6, 6, 6, 6, 6, 6, 6, 6, 6, 6, 6, 6, 6, 6, 6, 6, 6, 6, 6, 6, 6, 6, 6, 6, 6, 6, 7, 7, 7, 7, 7, 7, 7, 7, 7, 7, 7, 7, 7, 7, 7, 7, 7, 7, 7, 7, 7, 7, 7, 7, 7, 7, 7, 7, 7, 7, 7, 7, 7, 7, 7, 7, 7, 7, 7, 7, 7, 7, 7, 7, 7, 7, 7, 7, 7, 7, 7, 7, 7, 7, 7, 7, 7, 7, 7, 7, 7, 7, 7, 7, 8, 8, 8, 8, 8, 8, 8, 8, 8, 8, 8, 8, 8, 8, 8, 8, 8, 8, 8, 8, 8, 8, 8, 8, 8, 8, 8, 8, 8, 8, 8, 8, 8, 8, 8, 8, 8, 8, 8, 8, 8, 8, 8, 8, 8, 8, 8, 8, 8, 8, 8, 8, 8, 8, 8, 8, 8, 8, 8, 8, 8, 8, 8, 8, 8, 8, 8, 8, 8, 8, 8, 8, 8, 8, 8, 8, 8, 8, 8, 8, 8, 8, 8, 8, 8, 8, 8, 8, 8, 8, 8, 8, 8, 8, 8, 8, 8, 8, 8, 8, 8, 8, 8, 8, 8, 8, 8, 8, 8, 8, 8, 8, 8, 8, 8, 8, 8, 8, 8, 8, 8, 8, 8, 8, 8, 8, 8, 8]⟩ : ByteArray) ((v.toNat : Nat) : Int) = (blF 8 v.toNat : Int) := key ⟨v.toNat, by omega⟩
  rw [Int.toNat_of_nonneg h0] at h
  exact h
theorem len64_j0 (x p : Int) (h0 : 0 ≤ x) (h1 : x < 4294967296) (hp0 : 0 ≤ p) (hp1 : p ≤ 32) : Ev (fun k => bits_Len64.j0 k x p) (p + blF 32 x.toNat) := by
  refine Ev.step (fun k => by rw [bits_Len64.j0]) ?_
  by_cases h16 : x ≥ 65536
  · have e16 : blF 32 x.toNat = 16 + blF 16 (x.toNat / 2 ^ 16) := blF_shift 16 16 x.toNat (by omega)
    have q16 : x.toNat / 2 ^ 16 = (x / 65536).toNat := by omega
    refine Ev.pos h16 ?_
    by_cases h8 : x / 65536 ≥ 256
    · have e8 : blF 16 (x / 65536).toNat = 8 + blF 8 ((x / 65536).toNat / 2 ^ 8) := blF_shift 8 8 _ (by omega)
      have q8 : (x / 65536).toNat / 2 ^ 8 = (x / 65536 / 256 % 256).toNat := by omega
      refine Ev.pos h8 (Ev.pos (by omega) (Ev.pos (by omega) (Ev.const ?_)))
      rw [tab_at _ (by omega) (by omega), e16, q16, e8, q8]
      have := blF_le 8 (x / 65536 / 256 % 256).toNat
      rw [wrap64_id (x := p + 16) (by omega) (by omega), wrap64_id (x := p + 16 + 8) (by omega) (by omega), wrap64_id (x := ((blF 8 (x / 65536 / 256 % 256).toNat : Nat) : Int)) (by omega) (by omega), wrap64_id (by omega) (by omega)]
      congr 1; push_cast; omega
    · have e8 : blF 16 (x / 65536).toNat = blF 8 (x / 65536).toNat := blF_more 8 _ (by omega) 8
      have q8 : x / 65536 % 256 = x / 65536 := by omega
      refine Ev.neg h8 (Ev.pos (by omega) (Ev.pos (by omega) (Ev.const ?_)))
      rw [tab_at _ (by omega) (by omega), e16, q16, e8, q8]
      have := blF_le 8 (x / 65536).toNat
      rw [wrap64_id (x := p + 16) (by omega) (by omega), wrap64_id (x := ((blF 8 (x / 65536).toNat : Nat) : Int)) (by omega) (by omega), wrap64_id (by omega) (by omega)]
      congr 1; push_cast; omega
  · have e16 : blF 32 x.toNat = blF 16 x.toNat := blF_more 16 _ (by omega) 16
    refine Ev.neg h16 ?_
    by_cases h8 : x ≥ 256
    · have e8 : blF 16 x.toNat = 8 + blF 8 (x.toNat / 2 ^ 8) := blF_shift 8 8 _ (by omega)
      have q8 : x.toNat / 2 ^ 8 = (x / 256 % 256).toNat := by omega
      refine Ev.pos h8 (Ev.pos (by omega) (Ev.pos (by omega) (Ev.const ?_)))
      rw [tab_at _ (by omega) (by omega), e16, e8, q8]
      have := blF_le 8 (x / 256 % 256).toNat
      rw [wrap64_id (x := p + 8) (by omega) (by omega), wrap64_id (x := ((blF 8 (x / 256 % 256).toNat : Nat) : Int)) (by omega) (by omega), wrap64_id (by omega) (by omega)]
      congr 1; push_cast; omega
    · have e8 : blF 16 x.toNat = blF 8 x.toNat := blF_more 8 _ (by omega) 8
      have q8 : x % 256 = x := by omega
      refine Ev.neg h8 (Ev.pos (by omega) (Ev.pos (by omega) (Ev.const ?_)))
      rw [tab_at _ (by omega) (by omega), e16, e8, q8]
      have := blF_le 8 x.toNat
      rw [wrap64_id (x := ((blF 8 x.toNat : Nat) : Int)) (by omega) (by omega), wrap64_id (by omega) (by omega)]
/-- The width of a whole number, as one without a sign. -/
def widB (x : Int) : Int := (blF 64 (x % 18446744073709551616).toNat : Int)
theorem widB_range (x : Int) : 0 ≤ widB x ∧ widB x ≤ 64 := by
  unfold widB
  have := blF_le 64 (x % 18446744073709551616).toNat
  omega
theorem impl_widthOf_ev (x : Int) : Ev (fun k => impl_widthOf.f k x) (widB x) := by
  unfold impl_widthOf.f bits_Len64.f widB
  have e : IntKind.u64.wrap x = x % 18446744073709551616 := by rw [IntKind.wrap_u64]
  rw [e]
  generalize hX : x % 18446744073709551616 = X
  have h0 : 0 ≤ X := by omega
  have h1 : X < 18446744073709551616 := by omega
  have key : Ev (fun k => if X ≥ 4294967296 then (bits_Len64.j0 k (X / 4294967296) 32) else (bits_Len64.j0 k X 0)) (blF 64 X.toNat : Int) := by
    by_cases h : X ≥ 4294967296
    · refine Ev.pos h (Ev.cast (len64_j0 (X / 4294967296) 32 (by omega) (by omega) (by omega) (by omega)) ?_)
      have := blF_shift 32 32 X.toNat (by omega)
      have q : X.toNat / 2 ^ 32 = (X / 4294967296).toNat := by omega
      rw [this, q]; push_cast; omega
    · refine Ev.neg h (Ev.cast (len64_j0 X 0 h0 (by omega) (by omega) (by omega)) ?_)
      have := blF_more 32 X.toNat (by omega) 32
      rw [this]; omega
  exact Ev.bind key (Ev.now _)
theorem spec_l9Width_ev (x : Int) (h0 : -9223372036854775808 ≤ x) (h1 : x ≤ 9223372036854775807) : Ev (fun k => spec_l9Width.f k x) (widB x) := by
  unfold spec_l9Width.f widB
  have key : ∀ (f : Nat) (x w : Int), f ≤ 64 → -9223372036854775808 ≤ x → x ≤ 9223372036854775807 → (x % 18446744073709551616).toNat < 2 ^ f → 0 ≤ w → w + f ≤ 64 → Ev (fun k => spec_l9Width.l0 k x w) (w + blF f (x % 18446744073709551616).toNat) := by
    intro f
    induction f with
    | zero =>
      intro x w _ h0 h1 hx hw0 hw1
      have hz : (x % 18446744073709551616).toNat = 0 := by simpa using hx
      refine Ev.step (fun k => by rw [spec_l9Width.l0]) ?_
      refine Ev.pos (by omega) (Ev.const ?_)
      simp [blF]
    | succ f ih =>
      intro x w hf h0 h1 hx hw0 hw1
      refine Ev.step (fun k => by rw [spec_l9Width.l0]) ?_
      by_cases hz : x = 0
      · refine Ev.pos hz (Ev.const ?_)
        subst hz; simp [blF]
      · refine Ev.neg hz (Ev.here (l2Down1 x) ?_)
        rw [wrap64_id (x := w + 1) (by omega) (by omega)]
        have q : (x / 2 % 9223372036854775808) % 18446744073709551616 = x / 2 % 9223372036854775808 := by omega
        have q2 : (x / 2 % 9223372036854775808).toNat = (x % 18446744073709551616).toNat / 2 := by omega
        have := ih (x / 2 % 9223372036854775808) (w + 1) (by omega) (by omega) (by omega) (by rw [q, q2]; rw [Nat.pow_succ] at hx; omega) (by omega) (by omega)
        rw [q, q2] at this
        refine Ev.cast this ?_
        rw [show blF (f + 1) (x % 18446744073709551616).toNat = blF f ((x % 18446744073709551616).toNat / 2) + 1 from by rw [blF, if_neg (by omega)]]
        push_cast; omega
  have := key 64 x 0 (by omega) h0 h1 (by omega) (by omega) (by omega)
  simpa using this
theorem or_u8_range (a b : Int) : 0 ≤ Go.bits .or .u8 a b ∧ Go.bits .or .u8 a b ≤ 255 := by
  have e : Go.bits .or .u8 a b = IntKind.u8.wrap (((BitVec.ofInt 8 a ||| BitVec.ofInt 8 b).toNat : Nat) : Int) := rfl
  rw [e, IntKind.wrap_u8]; omega
theorem or_u8_zero (a : Int) (h0 : 0 ≤ a) (h1 : a ≤ 255) : Go.bits .or .u8 a 0 = a := by
  have e : Go.bits .or .u8 a 0 = IntKind.u8.wrap (((BitVec.ofInt 8 a ||| BitVec.ofInt 8 0).toNat : Nat) : Int) := rfl
  have z : BitVec.ofInt 8 0 = 0#8 := rfl
  rw [e, z, BitVec.or_zero, BitVec.toNat_ofInt, IntKind.wrap_u8]; omega
theorem and_one (x : Int) : Go.bits .and .i64 x 1 = x % 2 := bits_and_mask x 1 1 (by omega) rfl
/-- Bit k of number i is put into its place. -/
def bput (l : List Int) (w i k : Nat) (out : List Int) : List Int :=
  out.set ((i * w + k) / 8) (Go.bits .or .u8 (rd out (((i * w + k) / 8 : Nat) : Int)) (shl .u8 ((shr .i64 (rd l (i : Int)) (k : Int)) % 2) (((i * w + k) % 8 : Nat) : Int)))
def brow (l : List Int) (w i : Nat) (out : List Int) : List Int := (List.range w).foldl (fun o k => bput l w i k o) out
def bitsR (l : List Int) (w : Nat) : List Int := (List.range l.length).foldl (fun o i => brow l w i o) (List.replicate ((l.length * w + 7) / 8) 0)
def BOk (n : Nat) (out : List Int) : Prop := out.length = n ∧ ∀ x ∈ out, 0 ≤ x ∧ x ≤ 255
theorem bput_ok {n : Nat} {l : List Int} {w i k : Nat} {out : List Int} (h : BOk n out) : BOk n (bput l w i k out) := by
  refine ⟨by simpa [bput] using h.1, fun x hx => ?_⟩
  unfold bput at hx
  rcases List.mem_or_eq_of_mem_set hx with h' | rfl
  · exact h.2 x h'
  · exact or_u8_range _ _
theorem brow_ok {n : Nat} {l : List Int} {w i : Nat} : ∀ (m : Nat) {out : List Int}, BOk n out → BOk n ((List.range m).foldl (fun o k => bput l w i k o) out) := by
  intro m
  induction m with
  | zero => intro out h; exact h
  | succ m ih => intro out h; rw [List.range_succ, List.foldl_append]; exact bput_ok (ih h)
theorem bput_skip {n : Nat} {l : List Int} {w i k : Nat} {out : List Int} (h : BOk n out) (hb : (shr .i64 (rd l (i : Int)) (k : Int)) % 2 = 0) (hi : (i * w + k) / 8 < n) : bput l w i k out = out := by
  unfold bput
  rw [hb]
  have e : shl .u8 0 (((i * w + k) % 8 : Nat) : Int) = 0 := by unfold shl; rw [Int.zero_mul, IntKind.wrap_u8]; rfl
  have hl : (i * w + k) / 8 < out.length := by rw [h.1]; exact hi
  have er : rd out (((i * w + k) / 8 : Nat) : Int) = out[(i * w + k) / 8] := rd_eq (by omega)
  have hm := h.2 _ (List.getElem_mem hl)
  rw [e, er, or_u8_zero _ hm.1 hm.2, List.set_getElem_self]
theorem bitsR_ok (l : List Int) (w : Nat) : BOk ((l.length * w + 7) / 8) (bitsR l w) := by
  unfold bitsR
  have : ∀ m, BOk ((l.length * w + 7) / 8) ((List.range m).foldl (fun o i => brow l w i o) (List.replicate ((l.length * w + 7) / 8) 0)) := by
    intro m
    induction m with
    | zero => exact ⟨by simp, fun x hx => by obtain rfl := List.eq_of_mem_replicate hx; omega⟩
    | succ m ih => rw [List.range_succ, List.foldl_append]; exact brow_ok w ih
  exact this _
theorem pos_facts (l : List Int) (hl : l.length ≤ 4000) (w : Nat) (hw : w ≤ 64) (i k : Nat) (hi : i < l.length) (hk : k < w) :
    (wrap64 ((i : Int) * (w : Int)) + (k : Int)) = ((i * w + k : Nat) : Int) ∧ i * w + k < l.length * w ∧ l.length * w ≤ 256000 := by
  have h1 : (i + 1) * w ≤ l.length * w := Nat.mul_le_mul_right _ hi
  rw [Nat.add_mul, Nat.one_mul] at h1
  have h2 : l.length * w ≤ 4000 * 64 := Nat.mul_le_mul hl hw
  have hc : ((i : Int) * (w : Int)) = ((i * w : Nat) : Int) := by push_cast; rfl
  rw [hc, wrap64_id (by omega) (by omega)]
  exact ⟨by push_cast; rfl, by omega, by omega⟩
theorem spec_l9Bits_ev (l : List Int) (hl : l.length ≤ 4000) (w : Nat) (hw : w ≤ 64) : Ev (fun k => spec_l9Bits.f k l (w : Int)) (bitsR l w) := by
  have h2 : l.length * w ≤ 4000 * 64 := Nat.mul_le_mul hl hw
  have hc : ((l.length : Int) * (w : Int)) = ((l.length * w : Nat) : Int) := by push_cast; rfl
  have hN : wrap64 (Int.tdiv (wrap64 (wrap64 ((l.length : Int) * (w : Int)) + 7)) 8) = (((l.length * w + 7) / 8 : Nat) : Int) := by
    rw [hc, wrap64_id (x := ((l.length * w : Nat) : Int)) (by omega) (by omega), wrap64_id (x := ((l.length * w : Nat) : Int) + 7) (by omega) (by omega), Int.tdiv_eq_ediv_of_nonneg (by omega), wrap64_id (by omega) (by omega)]
    omega
  unfold spec_l9Bits.f
  rw [hN]
  refine Ev.pos (by omega) (Ev.pos (by omega) ?_)
  rw [Int.toNat_natCast]
  refine loop_inv (fun k out i => spec_l9Bits.l0 k l (w : Int) out i) (fun i out => brow l w i out) l.length _ (fun _ out => BOk ((l.length * w + 7) / 8) out) _ ⟨by simp, fun x hx => by obtain rfl := List.eq_of_mem_replicate hx; omega⟩ (fun i out hi ho => brow_ok w ho) (fun i out hi ho hr => ?_) (fun out ho he => ?_)
  · refine Ev.step (fun k => by rw [spec_l9Bits.l0]) ?_
    refine Ev.pos (by omega) ?_
    refine loop_inv (fun n o k => spec_l9Bits.l1 n l (w : Int) o (i : Int) k) (fun k o => bput l w i k o) w _ (fun _ o => BOk ((l.length * w + 7) / 8) o) out ho (fun k o _ h => bput_ok h) (fun k o hk hok hr2 => ?_) (fun o hok he => ?_)
    · obtain ⟨p1, p2, p3⟩ := pos_facts l hl w hw i k hi hk
      refine Ev.step (fun k => by rw [spec_l9Bits.l1]) ?_
      refine Ev.pos (by omega) (Ev.pos (by omega) (Ev.pos (by omega) (Ev.pos (by omega) ?_)))
      rw [wrap64_id (x := (k : Int) + 1) (by omega) (by omega), p1, and_one]
      have hr3 : Ev (fun n => spec_l9Bits.l1 n l (w : Int) (bput l w i k o) (i : Int) ((k : Int) + 1)) (bitsR l w) := by simpa using hr2
      by_cases hb : (shr .i64 (rd l (i : Int)) (k : Int)) % 2 = 0
      · refine Ev.pos hb ?_
        rw [bput_skip hok hb (by omega)] at hr3
        exact hr3
      · have hb1 : (shr .i64 (rd l (i : Int)) (k : Int)) % 2 = 1 := by omega
        rw [wrap64_id (x := ((i * w + k : Nat) : Int)) (by omega) (by omega), Int.tdiv_eq_ediv_of_nonneg (by omega), Int.tmod_eq_emod_of_nonneg (by omega)]
        have e1 : wrap64 (((i * w + k : Nat) : Int) / 8) = (((i * w + k) / 8 : Nat) : Int) := by rw [wrap64_id (by omega) (by omega)]; omega
        have e2 : ((i * w + k : Nat) : Int) % 8 = (((i * w + k) % 8 : Nat) : Int) := by omega
        rw [e1, e2]
        have hlen := hok.1
        refine Ev.neg hb (Ev.pos (by omega) (Ev.pos (by omega) (Ev.pos (by omega) ?_)))
        unfold bput at hr3
        rw [hb1] at hr3
        rw [Int.toNat_natCast]
        exact hr3
    · refine Ev.step (fun k => by rw [spec_l9Bits.l1]) ?_
      refine Ev.neg (by omega) ?_
      rw [wrap64_id (x := (i : Int) + 1) (by omega) (by omega), he]
      have : (List.range w).foldl (fun o k => bput l w i k o) out = brow l w i out := rfl
      rw [this]
      simpa using hr
  · refine Ev.step (fun k => by rw [spec_l9Bits.l0]) ?_
    refine Ev.neg (by omega) (Ev.const ?_)
    rw [he]; rfl
theorem impl_packed_ev (l : List Int) (hl : l.length ≤ 4000) (w : Nat) (hw : w ≤ 64) : Ev (fun k => impl_packed.f k l (w : Int)) (bitsR l w) := by
  have h2 : l.length * w ≤ 4000 * 64 := Nat.mul_le_mul hl hw
  have hc : ((l.length : Int) * (w : Int)) = ((l.length * w : Nat) : Int) := by push_cast; rfl
  have hN : wrap64 (Int.tdiv (wrap64 (wrap64 ((l.length : Int) * (w : Int)) + 7)) 8) = (((l.length * w + 7) / 8 : Nat) : Int) := by
    rw [hc, wrap64_id (x := ((l.length * w : Nat) : Int)) (by omega) (by omega), wrap64_id (x := ((l.length * w : Nat) : Int) + 7) (by omega) (by omega), Int.tdiv_eq_ediv_of_nonneg (by omega), wrap64_id (by omega) (by omega)]
    omega
  unfold impl_packed.f
  rw [hN]
  refine Ev.pos (by omega) (Ev.pos (by omega) ?_)
  rw [Int.toNat_natCast]
  refine loop_inv (fun k out i => impl_packed.l0 k (w : Int) out l (l.length : Int) i) (fun i out => brow l w i out) l.length _ (fun _ out => BOk ((l.length * w + 7) / 8) out) _ ⟨by simp, fun x hx => by obtain rfl := List.eq_of_mem_replicate hx; omega⟩ (fun i out hi ho => brow_ok w ho) (fun i out hi ho hr => ?_) (fun out ho he => ?_)
  · refine Ev.step (fun k => by rw [impl_packed.l0]) ?_
    refine Ev.pos (by omega) (Ev.pos (by omega) (Ev.pos (by omega) ?_))
    refine loop_inv (fun n o k => impl_packed.l1 n (w : Int) o (i : Int) (rd l (i : Int)) l (l.length : Int) (i : Int) (w : Int) k) (fun k o => bput l w i k o) w _ (fun _ o => BOk ((l.length * w + 7) / 8) o) out ho (fun k o _ h => bput_ok h) (fun k o hk hok hr2 => ?_) (fun o hok he => ?_)
    · obtain ⟨p1, p2, p3⟩ := pos_facts l hl w hw i k hi hk
      refine Ev.step (fun k => by rw [impl_packed.l1]) ?_
      rw [wrap64_id (x := (k : Int) + 1) (by omega) (by omega), p1, and_one]
      have hr3 : Ev (fun n => impl_packed.l1 n (w : Int) (bput l w i k o) (i : Int) (rd l (i : Int)) l (l.length : Int) (i : Int) (w : Int) ((k : Int) + 1)) (bitsR l w) := by simpa using hr2
      rw [wrap64_id (x := ((i * w + k : Nat) : Int)) (by omega) (by omega), Int.tdiv_eq_ediv_of_nonneg (by omega), Int.tmod_eq_emod_of_nonneg (by omega)]
      have e1 : wrap64 (((i * w + k : Nat) : Int) / 8) = (((i * w + k) / 8 : Nat) : Int) := by rw [wrap64_id (by omega) (by omega)]; omega
      have e2 : ((i * w + k : Nat) : Int) % 8 = (((i * w + k) % 8 : Nat) : Int) := by omega
      have e3 : (shr .i64 (rd l (i : Int)) (k : Int)) % 2 % 256 = (shr .i64 (rd l (i : Int)) (k : Int)) % 2 := by omega
      rw [e1, e2, e3]
      have hlen := hok.1
      refine Ev.pos (by omega) (Ev.pos (by omega) (Ev.pos (by omega) (Ev.pos (by omega) (Ev.pos (by omega) ?_))))
      unfold bput at hr3
      rw [Int.toNat_natCast]
      exact hr3
    · refine Ev.step (fun k => by rw [impl_packed.l1]) ?_
      refine Ev.neg (by omega) ?_
      rw [wrap64_id (x := (i : Int) + 1) (by omega) (by omega), he]
      have : (List.range w).foldl (fun o k => bput l w i k o) out = brow l w i out := rfl
      rw [this]
      simpa using hr
  · refine Ev.step (fun k => by rw [impl_packed.l0]) ?_
    refine Ev.neg (by omega) (Ev.const ?_)
    rw [he]; rfl
def mstepD (d : List Int) (i : Nat) (s : Int) : Int := if rd d ((i : Int) + 1) < s then rd d ((i : Int) + 1) else s
def leastB (d : List Int) : Int := (List.range (d.length - 1)).foldl (fun s (i : Nat) => mstepD d i s) (rd d 0)
theorem leastB_I {d : List Int} (h : AllI d) : -9223372036854775808 ≤ leastB d ∧ leastB d ≤ 9223372036854775807 := by
  unfold leastB
  have : ∀ m : Nat, -9223372036854775808 ≤ (List.range m).foldl (fun s (i : Nat) => mstepD d i s) (rd d 0) ∧ (List.range m).foldl (fun s (i : Nat) => mstepD d i s) (rd d 0) ≤ 9223372036854775807 := by
    intro m
    induction m with
    | zero => exact rd_I h 0
    | succ m ih =>
      rw [List.range_succ, List.foldl_append]
      simp only [List.foldl_cons, List.foldl_nil]
      have := rd_I h ((m : Int) + 1)
      unfold mstepD at ih ⊢
      split
      · exact this
      · exact ih
  exact this _
theorem impl_least_ev (d : List Int) (h0 : 0 < d.length) (hl : d.length ≤ 1048576) : Ev (fun k => slices_Min_int_int.f k d) (leastB d) := by
  unfold slices_Min_int_int.f
  refine Ev.neg (by omega) (Ev.pos (by omega) ?_)
  have := loop_cps (fun k s i => slices_Min_int_int.l0 k d s (i + 1)) (mstepD d) (d.length - 1) (leastB d) (fun i s hi hr => by
    refine Ev.step (fun k => by rw [slices_Min_int_int.l0]) ?_
    refine Ev.pos (by omega) (Ev.pos (by omega) ?_)
    rw [wrap64_id (x := (i : Int) + 1 + 1) (by omega) (by omega)]
    have e : mn s (rd d ((i : Int) + 1)) = mstepD d i s := rfl
    rw [e]
    simpa using hr) (rd d 0) (by
    refine Ev.step (fun k => by rw [slices_Min_int_int.l0]) ?_
    exact Ev.neg (by omega) (Ev.now _))
  simpa using this
/-- The numbers of miniblock m, less the least one; the width of the widest. -/
def nstep (d : List Int) (least : Int) (m j : Nat) (s : List Int × Int) : List Int × Int :=
  (s.1 ++ [wrap64 (rd d ((32 * m + j : Nat) : Int) - least)], if s.2 < widB (wrap64 (rd d ((32 * m + j : Nat) : Int) - least)) then widB (wrap64 (rd d ((32 * m + j : Nat) : Int) - least)) else s.2)
def cntD (d : List Int) (m : Nat) : Nat := min 32 (d.length - 32 * m)
def mini (d : List Int) (least : Int) (m : Nat) : List Int × Int := (List.range (cntD d m)).foldl (fun s j => nstep d least m j s) ([], 0)
def MOk (j : Nat) (s : List Int × Int) : Prop := s.1.length = j ∧ 0 ≤ s.2 ∧ s.2 ≤ 64
theorem nstep_ok {d : List Int} {least : Int} {m j : Nat} {s : List Int × Int} (h : MOk j s) : MOk (j + 1) (nstep d least m j s) := by
  obtain ⟨h1, h2, h3⟩ := h
  have := widB_range (wrap64 (rd d ((32 * m + j : Nat) : Int) - least))
  refine ⟨by simp [nstep, h1], ?_, ?_⟩
  · unfold nstep; dsimp only; split <;> omega
  · unfold nstep; dsimp only; split <;> omega
theorem mini_ok (d : List Int) (least : Int) (m : Nat) : MOk (cntD d m) (mini d least m) := by
  unfold mini
  have : ∀ c, MOk c ((List.range c).foldl (fun s j => nstep d least m j s) ([], 0)) := by
    intro c
    induction c with
    | zero => exact ⟨rfl, by simp, by simp⟩
    | succ c ih => rw [List.range_succ, List.foldl_append]; exact nstep_ok ih
  exact this _
def padL (l : List Int) : List Int := l ++ List.replicate (32 - l.length) 0
def dstep (d : List Int) (least : Int) (m : Nat) (s : List Int × List Int) : List Int × List Int :=
  (s.1 ++ [(mini d least m).2 % 256], if cntD d m = 0 then s.2 else s.2 ++ bitsR (padL (mini d least m).1) (mini d least m).2.toNat)
theorem bits32_length (l : List Int) (w : Nat) (hl : l.length ≤ 32) (hw : w ≤ 64) : (bitsR (padL l) w).length ≤ 256 := by
  have h := (bitsR_ok (padL l) w).1
  have e : (padL l).length = 32 := by unfold padL; simp; omega
  rw [h, e]
  have : 32 * w ≤ 32 * 64 := Nat.mul_le_mul_left _ hw
  omega
def DOk (m : Nat) (s : List Int × List Int) : Prop := s.1.length = m ∧ s.2.length ≤ 256 * m
theorem dstep_ok {d : List Int} {least : Int} {m : Nat} {s : List Int × List Int} (h : DOk m s) : DOk (m + 1) (dstep d least m s) := by
  obtain ⟨h1, h2⟩ := h
  obtain ⟨m1, m2, m3⟩ := mini_ok d least m
  refine ⟨by simp [dstep, h1], ?_⟩
  unfold dstep
  dsimp only
  have hc : cntD d m ≤ 32 := by unfold cntD; omega
  have := bits32_length (mini d least m).1 (mini d least m).2.toNat (by omega) (by omega)
  split
  · omega
  · rw [List.length_append]; omega
theorem pad_loop (d : List Int) (least : Int) (wd da : List Int) (m : Int) (w : Int) (r : List Int) : ∀ (f : Nat) (l : List Int), l.length + f = 32 →
    Ev (fun k => (spec_l9Bits.f k (l ++ List.replicate f 0) w).bind fun t172 => (if da.length + t172.length < 140737488355328 then (spec_l9Block.l1 k d least 32 wd (da ++ t172) (wrap64 (m + 1))) else (none))) r → Ev (fun k => spec_l9Block.l3 k d least 32 wd da m l w) r := by
  intro f
  induction f with
  | zero =>
    intro l hl h
    refine Ev.step (fun k => by rw [spec_l9Block.l3]) ?_
    refine Ev.neg (by omega) ?_
    simpa using h
  | succ f ih =>
    intro l hl h
    refine Ev.step (fun k => by rw [spec_l9Block.l3]) ?_
    refine Ev.pos (by omega) (Ev.pos (by omega) ?_)
    refine ih (l ++ [0]) (by simp; omega) ?_
    rw [List.append_assoc, List.singleton_append, ← List.replicate_succ]
    exact h
theorem spec_block_ev (d : List Int) (hd : AllI d) (h0 : 0 < d.length) (hl : d.length ≤ 128) (z : List Int) (hz : Ev (fun k => spec_ZigPut.f k (leastB d)) z) (hzl : z.length ≤ 10) :
    Ev (fun k => spec_l9Block.f k d) (z ++ ((List.range 4).foldl (fun s m => dstep d (leastB d) m s) ([], [])).1 ++ ((List.range 4).foldl (fun s m => dstep d (leastB d) m s) ([], [])).2) := by
  unfold spec_l9Block.f
  refine Ev.pos (by omega) ?_
  generalize hR : z ++ ((List.range 4).foldl (fun s m => dstep d (leastB d) m s) ([], [])).1 ++ ((List.range 4).foldl (fun s m => dstep d (leastB d) m s) ([], [])).2 = R
  have hleast := leastB_I hd
  have := loop_cps (fun k s i => spec_l9Block.l0 k d s (i + 1)) (mstepD d) (d.length - 1) R (fun i s hi hr => by
    refine Ev.step (fun k => by rw [spec_l9Block.l0]) ?_
    refine Ev.pos (by omega) (Ev.pos (by omega) (Ev.here (a := mstepD d i s) (by unfold spec_l1Min.f mstepD; (repeat' split) <;> first | rfl | (congr 1; omega)) ?_))
    rw [wrap64_id (x := (i : Int) + 1 + 1) (by omega) (by omega)]
    simpa using hr) (rd d 0) (by
    have e : (List.range (d.length - 1)).foldl (fun s i => mstepD d i s) (rd d 0) = leastB d := rfl
    rw [e]
    refine Ev.step (fun k => by rw [spec_l9Block.l0]) ?_
    refine Ev.neg (by omega) ?_
    refine loop_inv (fun k (s : List Int × List Int) m => spec_l9Block.l1 k d (leastB d) 32 s.1 s.2 m) (fun m s => dstep d (leastB d) m s) 4 R DOk ([], []) ⟨rfl, by simp⟩ (fun m s _ h => dstep_ok h) (fun m s hm hs hr => ?_) (fun s hs he => ?_)
    · obtain ⟨wd, da⟩ := s
      obtain ⟨hs1, hs2⟩ := hs
      dsimp only at hs1 hs2
      have hc : cntD d m ≤ 32 := by unfold cntD; omega
      have hc2 : cntD d m = 32 ∨ 32 * m + cntD d m ≥ d.length := by unfold cntD; omega
      have hc3 : ∀ j, j < cntD d m → 32 * m + j < d.length := by unfold cntD; omega
      refine Ev.step (fun k => by rw [spec_l9Block.l1]) ?_
      refine Ev.pos (by omega) ?_
      rw [wrap64_id (x := (m : Int) * 32) (by omega) (by omega)]
      have inner := loop_inv (fun k (s : List Int × Int) j => spec_l9Block.l2 k d (leastB d) 32 wd da (m : Int) s.1 s.2 ((m : Int) * 32 + j)) (fun j s => nstep d (leastB d) m j s) (cntD d m) R MOk ([], 0) ⟨rfl, by simp, by simp⟩ (fun j s _ h => nstep_ok h) (fun j s hj hs hr2 => by
        obtain ⟨nums, w⟩ := s
        obtain ⟨q1, q2, q3⟩ := hs
        dsimp only at q1 q2 q3
        have hlt := hc3 j hj
        refine Ev.step (fun k => by rw [spec_l9Block.l2]) ?_
        rw [wrap64_id (x := (m : Int) + 1) (by omega) (by omega), wrap64_id (x := ((m : Int) + 1) * 32) (by omega) (by omega)]
        refine Ev.pos (by omega) ?_
        refine Ev.step (fun k => by rw [spec_l9Block.j3]) ?_
        rw [wrap64_id (x := (m : Int) * 32 + j + 1) (by omega) (by omega)]
        have ei : (m : Int) * 32 + (j : Int) = ((32 * m + j : Nat) : Int) := by push_cast; omega
        have hw := spec_l9Width_ev (wrap64 (rd d ((32 * m + j : Nat) : Int) - leastB d)) (wrap64_lo _) (wrap64_hi _)
        rw [ei]
        refine Ev.pos (by simp; omega) (Ev.pos (by omega) (Ev.pos (by omega) (Ev.pos (by dsimp only; omega) (Ev.bind hw (Ev.here (a := (nstep d (leastB d) m j (nums, w)).2) (by unfold spec_l1Max.f nstep; dsimp only; (repeat' split) <;> first | rfl | (congr 1; omega)) ?_)))))
        have e2 : ((32 * m + j : Nat) : Int) + 1 = (m : Int) * 32 + ((j + 1 : Nat) : Int) := by push_cast; omega
        rw [e2]
        exact hr2) (fun s hs he => by
        have hs' : s = mini d (leastB d) m := he
        obtain ⟨q1, q2, q3⟩ := hs
        refine Ev.step (fun k => by rw [spec_l9Block.l2]) ?_
        rw [wrap64_id (x := (m : Int) + 1) (by omega) (by omega), wrap64_id (x := ((m : Int) + 1) * 32) (by omega) (by omega)]
        have tail : Ev (fun k => spec_l9Block.j3 k d (leastB d) 32 wd da (m : Int) s.1 s.2 ((m : Int) * 32 + (cntD d m : Int)) false) R := by
          refine Ev.step (fun k => by rw [spec_l9Block.j3]) ?_
          refine Ev.neg (by decide) (Ev.pos (by omega) (Ev.here rfl ?_))
          have e2 : ((m + 1 : Nat) : Int) = (m : Int) + 1 := by push_cast; rfl
          rw [e2] at hr
          unfold dstep at hr
          rw [← hs'] at hr
          dsimp only at hr
          by_cases hz : cntD d m = 0
          · rw [if_pos hz] at hr
            refine Ev.pos (by omega) ?_
            rw [wrap64_id (x := (m : Int) + 1) (by omega) (by omega)]
            exact hr
          · rw [if_neg hz] at hr
            refine Ev.neg (by omega) ?_
            have hb := spec_l9Bits_ev (padL s.1) (by unfold padL; simp; omega) s.2.toNat (by omega)
            have hbl := bits32_length s.1 s.2.toNat (by omega) (by omega)
            rw [Int.toNat_of_nonneg q2] at hb
            refine pad_loop d (leastB d) (wd ++ [s.2 % 256]) da (m : Int) s.2 R (32 - s.1.length) s.1 (by omega) (Ev.bind hb (Ev.pos (by omega) ?_))
            rw [wrap64_id (x := (m : Int) + 1) (by omega) (by omega)]
            exact hr
        by_cases hx : (m : Int) * 32 + (cntD d m : Int) < ((m : Int) + 1) * 32
        · refine Ev.pos hx ?_
          have : decide ((m : Int) * 32 + (cntD d m : Int) < (d.length : Int)) = false := decide_eq_false (by omega)
          rw [this]; exact tail
        · exact Ev.neg hx tail)
      simpa using inner
    · obtain ⟨q1, q2⟩ := hs
      refine Ev.step (fun k => by rw [spec_l9Block.l1]) ?_
      refine Ev.neg (by omega) (Ev.bind hz (Ev.pos (by omega) (Ev.here rfl (Ev.pos (by simp; omega) (Ev.const ?_)))))
      rw [← hR, he])
  simpa using this
theorem impl_block_ev (d : List Int) (hd : AllI d) (h0 : 0 < d.length) (hl : d.length ≤ 128) (z : List Int) (hz : Ev (fun k => impl_ZigPut.f k (leastB d)) z) (hzl : z.length ≤ 10) :
    Ev (fun k => impl_blockOf.f k d) (z ++ ((List.range 4).foldl (fun s m => dstep d (leastB d) m s) ([], [])).1 ++ ((List.range 4).foldl (fun s m => dstep d (leastB d) m s) ([], [])).2) := by
  unfold impl_blockOf.f
  generalize hR : z ++ ((List.range 4).foldl (fun s m => dstep d (leastB d) m s) ([], [])).1 ++ ((List.range 4).foldl (fun s m => dstep d (leastB d) m s) ([], [])).2 = R
  refine Ev.bind (impl_least_ev d h0 (by omega)) (Ev.bind hz ?_)
  have := loop_inv (fun k (s : List Int × List Int) m => impl_blockOf.l0 k d (leastB d) (z ++ s.1) s.2 m) (fun m s => dstep d (leastB d) m s) 4 R DOk ([], []) ⟨rfl, by simp⟩ (fun m s _ h => dstep_ok h) (fun m s hm hs hr => by
    obtain ⟨wd, da⟩ := s
    obtain ⟨hs1, hs2⟩ := hs
    dsimp only at hs1 hs2
    have hc : cntD d m ≤ 32 := by unfold cntD; omega
    have hc2 : cntD d m = 32 ∨ 32 * m + cntD d m ≥ d.length := by unfold cntD; omega
    have hc3 : ∀ j, j < cntD d m → 32 * m + j < d.length := by unfold cntD; omega
    refine Ev.step (fun k => by rw [impl_blockOf.l0]) ?_
    refine Ev.pos (by omega) (Ev.pos (by omega) ?_)
    rw [wrap64_id (x := (m : Int) * 32) (by omega) (by omega)]
    have inner := loop_inv (fun k (s : List Int × Int) j => impl_blockOf.l1 k d (leastB d) (z ++ wd) da (m : Int) (padL s.1) j s.2 ((m : Int) * 32 + j) (m : Int)) (fun j s => nstep d (leastB d) m j s) (cntD d m) R MOk ([], 0) ⟨rfl, by simp, by simp⟩ (fun j s _ h => nstep_ok h) (fun j s hj hs hr2 => by
      obtain ⟨nums, w⟩ := s
      obtain ⟨q1, q2, q3⟩ := hs
      dsimp only at q1 q2 q3
      have hlt := hc3 j hj
      have hpl : (padL nums).length = 32 := by unfold padL; simp; omega
      refine Ev.step (fun k => by rw [impl_blockOf.l1]) ?_
      rw [wrap64_id (x := (m : Int) + 1) (by omega) (by omega), wrap64_id (x := ((m : Int) + 1) * 32) (by omega) (by omega), wrap64_id (x := (m : Int) * 32 + j + 1) (by omega) (by omega), wrap64_id (x := (j : Int) + 1) (by omega) (by omega)]
      have ei : (m : Int) * 32 + (j : Int) = ((32 * m + j : Nat) : Int) := by push_cast; omega
      rw [ei]
      have hset : ∀ v : Int, (padL nums).set j v = padL (nums ++ [v]) := by
        intro v
        unfold padL
        rw [List.set_append_right _ _ (by omega), q1, Nat.sub_self, show 32 - j = (31 - j) + 1 by omega, List.replicate_succ, List.set_cons_zero, List.length_append, List.length_singleton, q1, show 32 - (j + 1) = 31 - j by omega, List.append_assoc, List.singleton_append]
      refine Ev.pos (by omega) (Ev.pos (by omega) (Ev.pos (by omega) (Ev.pos (by omega) (Ev.pos (by dsimp only; omega) (Ev.here rfl ?_)))))
      rw [Int.toNat_natCast, hset]
      have hrd : rd (padL (nums ++ [wrap64 (rd d ((32 * m + j : Nat) : Int) - leastB d)])) (j : Int) = wrap64 (rd d ((32 * m + j : Nat) : Int) - leastB d) := by
        have hpl2 : (padL (nums ++ [wrap64 (rd d ((32 * m + j : Nat) : Int) - leastB d)])).length = 32 := by unfold padL; simp; omega
        rw [rd_eq (by omega)]
        simp only [Int.toNat_natCast]
        unfold padL
        rw [List.getElem_append_left (by simp; omega)]
        simp [← q1]
      rw [hrd]
      refine Ev.bind (impl_widthOf_ev _) ?_
      have e2 : ((32 * m + j : Nat) : Int) + 1 = (m : Int) * 32 + ((j + 1 : Nat) : Int) := by push_cast; omega
      rw [e2]
      exact hr2) (fun s hs he => by
      have hs' : s = mini d (leastB d) m := he
      obtain ⟨q1, q2, q3⟩ := hs
      have e2 : ((m + 1 : Nat) : Int) = (m : Int) + 1 := by push_cast; rfl
      rw [e2] at hr
      unfold dstep at hr
      rw [← hs'] at hr
      dsimp only at hr
      rw [← List.append_assoc] at hr
      refine Ev.step (fun k => by rw [impl_blockOf.l1]) ?_
      rw [wrap64_id (x := (m : Int) + 1) (by omega) (by omega), wrap64_id (x := ((m : Int) + 1) * 32) (by omega) (by omega)]
      have hb := impl_packed_ev (padL s.1) (by unfold padL; simp; omega) s.2.toNat (by omega)
      have hbl := bits32_length s.1 s.2.toNat (by omega) (by omega)
      rw [Int.toNat_of_nonneg q2] at hb
      have fin : Ev (fun k => if (z ++ wd).length < 140737488355328 then ((some (z ++ wd ++ [s.2 % 256] : List Int)).bind fun y278 => (if (cntD d m : Int) > 0 then ((impl_packed.f k (padL s.1) s.2).bind fun t281 => (if da.length + t281.length < 140737488355328 then (impl_blockOf.l0 k d (leastB d) y278 (da ++ t281) ((m : Int) + 1)) else (none))) else (impl_blockOf.l0 k d (leastB d) y278 da ((m : Int) + 1)))) else (none)) R := by
        refine Ev.pos (by simp; omega) (Ev.here rfl ?_)
        by_cases hz0 : cntD d m = 0
        · rw [if_pos hz0] at hr
          exact Ev.neg (by omega) hr
        · rw [if_neg hz0] at hr
          exact Ev.pos (by omega) (Ev.bind hb (Ev.pos (by omega) hr))
      by_cases hx : (m : Int) * 32 + (cntD d m : Int) < ((m : Int) + 1) * 32
      · exact Ev.pos hx (Ev.neg (by omega) fin)
      · exact Ev.neg hx fin)
    have e0 : (m : Int) * 32 + 0 = (m : Int) * 32 := by omega
    rw [← e0]
    exact inner) (fun s hs he => by
    obtain ⟨q1, q2⟩ := hs
    refine Ev.step (fun k => by rw [impl_blockOf.l0]) ?_
    refine Ev.neg (by omega) (Ev.pos (by simp; omega) (Ev.const ?_))
    rw [← hR, he])
  simpa using this
theorem block_both (d : List Int) (hd : AllI d) (h0 : 0 < d.length) (hl : d.length ≤ 128) : ∃ r : List Int, Ev (fun k => spec_l9Block.f k d) r ∧ Ev (fun k => impl_blockOf.f k d) r ∧ r.length ≤ 2000 := by
  have hb := leastB_I hd
  obtain ⟨z, z1, z2, z3, _⟩ := ZigPut_ev (leastB d) hb.1 hb.2
  refine ⟨_, spec_block_ev d hd h0 hl z z1 z3, impl_block_ev d hd h0 hl z z2 z3, ?_⟩
  have : ∀ m, DOk m ((List.range m).foldl (fun s m => dstep d (leastB d) m s) ([], [])) := by
    intro m
    induction m with
    | zero => exact ⟨rfl, by simp⟩
    | succ m ih => rw [List.range_succ, List.foldl_append]; exact dstep_ok ih
  obtain ⟨q1, q2⟩ := this 4
  rw [List.length_append, List.length_append]; omega
theorem delta_loop (D : List Int) (hD : AllI D) (hl : D.length ≤ 1048576) : ∀ (f : Nat) (at_ : Nat) (out : List Int), D.length ≤ at_ + 128 * f → out.length ≤ 2000 * at_ + 100000 → at_ ≤ 2000000 →
    ∃ r : List Int × Bool, Ev (fun k => spec_DeltaPack.l0 k out D (at_ : Int)) r ∧ Ev (fun k => impl_DeltaPack.l0 k out (D.drop at_)) r ∧ r.1.length ≤ out.length + 2000 * f := by
  intro f
  induction f with
  | zero =>
    intro at_ out h ho ha
    refine ⟨(out, true), Ev.step (fun k => by rw [spec_DeltaPack.l0]) (by exact Ev.neg (by omega) (Ev.now _)), Ev.step (fun k => by rw [impl_DeltaPack.l0]) (by exact Ev.neg (by simp; omega) (Ev.now _)), by simp⟩
  | succ f ih =>
    intro at_ out h ho ha
    by_cases hx : D.length ≤ at_
    · exact ⟨(out, true), Ev.step (fun k => by rw [spec_DeltaPack.l0]) (by exact Ev.neg (by omega) (Ev.now _)), Ev.step (fun k => by rw [impl_DeltaPack.l0]) (by exact Ev.neg (by simp; omega) (Ev.now _)), by simp⟩
    · have hdl : (D.drop at_).length = D.length - at_ := by simp
      generalize hn : min 128 (D.length - at_) = n
      have hn1 : 0 < n := by omega
      have hn2 : n ≤ 128 := by omega
      have hn3 : at_ + n ≤ D.length := by omega
      have hch : ((D.drop at_).take n).length = n := by rw [List.length_take]; omega
      obtain ⟨b, b1, b2, b3⟩ := block_both ((D.drop at_).take n) (fun x hx => hD x (List.mem_of_mem_drop (List.mem_of_mem_take hx))) (by omega) (by omega)
      obtain ⟨r, r1, r2, r3⟩ := ih (at_ + 128) (out ++ b) (by omega) (by simp; omega) (by omega)
      refine ⟨r, ?_, ?_, by simp at r3; omega⟩
      · refine Ev.step (fun k => by rw [spec_DeltaPack.l0]) ?_
        have hm : spec_l1Min.f (wrap64 ((at_ : Int) + 128)) (D.length : Int) = some ((at_ + n : Nat) : Int) := by
          rw [wrap64_id (by omega) (by omega)]
          unfold spec_l1Min.f
          split <;> (congr 1; omega)
        refine Ev.pos (by omega) (Ev.here hm (Ev.pos (by omega) (Ev.pos (by omega) (Ev.pos (by omega) ?_))))
        rw [wrap64_id (x := (at_ : Int) + 128) (by omega) (by omega), Int.toNat_natCast, Int.toNat_natCast]
        have e : (D.take (at_ + n)).drop at_ = (D.drop at_).take n := by rw [List.drop_take, Nat.add_sub_cancel_left]
        rw [e]
        refine Ev.bind b1 (Ev.pos (by omega) ?_)
        have e2 : ((at_ + 128 : Nat) : Int) = (at_ : Int) + 128 := by omega
        rw [e2] at r1
        exact r1
      · refine Ev.step (fun k => by rw [impl_DeltaPack.l0]) ?_
        have hm : mn 128 ((D.drop at_).length : Int) = (n : Int) := by
          unfold mn; split <;> omega
        rw [hm, Int.toNat_natCast]
        refine Ev.pos (by omega) (Ev.pos (by omega) (Ev.pos (by omega) (Ev.bind b2 (Ev.pos (by omega) ?_))))
        rw [List.drop_drop]
        by_cases h128 : n = 128
        · subst h128; exact r2
        · have e3 : D.drop (at_ + n) = D.drop (at_ + 128) := by
            rw [List.drop_eq_nil_of_le (by omega), List.drop_eq_nil_of_le (by omega)]
          rw [e3]; exact r2
theorem DeltaPack_both (l : List Int) (hI : AllI l) (hl : l.length ≤ 1048576) : ∃ r : List Int × Bool, Ev (fun k => spec_DeltaPack.f k l) r ∧ Ev (fun k => impl_DeltaPack.f k l) r ∧ r.1.length ≤ 1000000 := by
  unfold spec_DeltaPack.f impl_DeltaPack.f
  by_cases hb : (l.length : Int) > 2000
  · exact ⟨([], false), Ev.pos hb (Ev.now _), Ev.pos hb (Ev.now _), by simp⟩
  have hdl := diffs_length l
  have hdI : AllI (diffs l) := by
    intro x hx
    unfold diffs at hx
    obtain ⟨i, _, rfl⟩ := List.mem_map.1 hx
    exact ⟨wrap64_lo _, wrap64_hi _⟩
  have rest : ∀ x : Int, -9223372036854775808 ≤ x → x ≤ 9223372036854775807 → ∃ r : List Int × Bool, Ev (fun k => spec_DeltaPack.j0 k l x) r ∧ Ev (fun k => impl_DeltaPack.j0 k l x) r ∧ r.1.length ≤ 1000000 := by
    intro x x0 x1
    obtain ⟨a, a1, a2, a3, _⟩ := UvarPut_ev 128
    obtain ⟨b, b1, b2, b3, _⟩ := UvarPut_ev 4
    obtain ⟨c, c1, c2, c3, _⟩ := UvarPut_ev (l.length : Int)
    obtain ⟨z, z1, z2, z3, _⟩ := ZigPut_ev x x0 x1
    obtain ⟨r, r1, r2, r3⟩ := delta_loop (diffs l) hdI (by omega) 16 0 (a ++ b ++ c ++ z) (by omega) (by simp; omega) (by omega)
    refine ⟨r, ?_, ?_, by simp at r3; omega⟩
    · refine Ev.step (fun k => by rw [spec_DeltaPack.j0]) ?_
      exact Ev.bind a1 (Ev.bind b1 (Ev.pos (by omega) (Ev.here rfl (Ev.bind c1 (Ev.pos (by simp; omega) (Ev.here rfl (Ev.bind z1 (Ev.pos (by simp; omega) (Ev.bind (spec_Differences_ev l hl) r1)))))))))
    · refine Ev.step (fun k => by rw [impl_DeltaPack.j0]) ?_
      exact Ev.bind a2 (Ev.bind b2 (Ev.pos (by omega) (Ev.here rfl (Ev.bind c2 (Ev.pos (by simp; omega) (Ev.here rfl (Ev.bind z2 (Ev.pos (by simp; omega) (Ev.bind (impl_Differences_ev l hl) (by simpa using r2))))))))))
  by_cases h0 : (l.length : Int) > 0
  · obtain ⟨r, r1, r2, r3⟩ := rest (rd l 0) (rd_I hI 0).1 (rd_I hI 0).2
    exact ⟨r, Ev.neg hb (Ev.pos h0 (Ev.pos h0 r1)), Ev.neg hb (Ev.pos h0 (Ev.pos h0 r2)), r3⟩
  · obtain ⟨r, r1, r2, r3⟩ := rest 0 (by omega) (by omega)
    exact ⟨r, Ev.neg hb (Ev.neg h0 r1), Ev.neg hb (Ev.neg h0 r2), r3⟩
theorem and_u8_127 (c : Int) (h0 : 0 ≤ c) (h1 : c ≤ 255) : Go.bits .and .u8 c 127 = c % 128 := by
  obtain ⟨n, rfl⟩ := Int.eq_ofNat_of_zero_le h0
  have hn : n < 2 ^ 8 := by omega
  have e := (bits_nat .u8 8 (by decide) (fun m h0 h1 => wraps_u8 m h0 h1) n 127 hn (by decide)).1
  have e2 : n &&& 127 = n % 128 := Nat.and_two_pow_sub_one_eq_mod n 7
  have e3 : Go.bits .and .u8 (n : Int) 127 = ((n &&& 127 : Nat) : Int) := e
  rw [e3, e2]; push_cast; rfl
theorem shl_i64_nat (d j : Nat) (hj : j ≤ 64) : shl .i64 (d : Int) (j : Int) = wrap64 ((d * 2 ^ j : Nat) : Int) := by
  unfold shl
  have e2 : min ((j : Int)).toNat IntKind.i64.bits = j := by
    have : IntKind.i64.bits = 64 := rfl
    omega
  rw [e2, IntKind.wrap_i64]
  push_cast
  unfold wrap64; rfl
theorem shl_u64_nat (d j : Nat) (hj : j ≤ 64) (h : d * 2 ^ j < 2 ^ 64) : shl .u64 (d : Int) (j : Int) = ((d * 2 ^ j : Nat) : Int) := by
  unfold shl
  have e2 : min ((j : Int)).toNat IntKind.u64.bits = j := by
    have : IntKind.u64.bits = 64 := rfl
    omega
  have e3 : ((d : Int) * 2 ^ j) = ((d * 2 ^ j : Nat) : Int) := by push_cast; rfl
  rw [e2, e3, u64_id (by omega) (by omega)]
theorem or_u64_nat (a c : Nat) (ha : a < 2 ^ 64) (hc : c < 2 ^ 64) : Go.bits .or .u64 (a : Int) (c : Int) = ((a ||| c : Nat) : Int) :=
  (bits_nat .u64 64 (by decide) (fun m h0 h1 => u64_id h0 (by simpa using h1)) a c ha hc).2
/-- The seven bits of a byte, put into their place: both sides. -/
theorem uv_step (k X : Nat) (hk : k ≤ 9) (hX : X < 2 ^ (7 * k)) (d : Int) (h0 : 0 ≤ d) (h1 : d ≤ 255) (hc : k ≤ 8 ∨ d ≤ 1) :
    Go.bits .or .i64 (wrap64 (X : Int)) (shl .i64 (Go.bits .and .i64 d 127) (wrap64 (7 * (k : Int)))) = wrap64 ((X + (d % 128).toNat * 2 ^ (7 * k) : Nat) : Int) ∧
    Go.bits .or .u64 (X : Int) (shl .u64 (IntKind.u64.wrap (Go.bits .and .u8 d 127)) (wrap64 (7 * (k : Int)))) = ((X + (d % 128).toNat * 2 ^ (7 * k) : Nat) : Int) := by
  have hD : d % 128 = (((d % 128).toNat : Nat) : Int) := by omega
  have hD1 : (d % 128).toNat < 128 := by omega
  have hD2 : d ≤ 1 → (d % 128).toNat ≤ 1 := by omega
  have w : wrap64 (7 * (k : Int)) = ((7 * k : Nat) : Int) := by rw [wrap64_id (by omega) (by omega)]; push_cast; rfl
  have e1 : Go.bits .and .i64 d 127 = d % 128 := bits_and_mask d 127 7 (by omega) rfl
  have e2 := and_u8_127 d h0 h1
  rw [w, e1, e2, hD]
  generalize (d % 128).toNat = D at hD1 hD2
  have hj : 7 * k ≤ 63 := by omega
  have h63 : 2 ^ (7 * k) ≤ 2 ^ 63 := Nat.pow_le_pow_right (by omega) hj
  have h56 : k ≤ 8 → 2 ^ (7 * k) ≤ 2 ^ 56 := fun h => Nat.pow_le_pow_right (by omega) (by omega)
  generalize hJ : 7 * k = J at *
  have hS : D * 2 ^ J < 2 ^ 64 := by
    rcases hc with h | h
    · have := h56 h
      have : D * 2 ^ J ≤ 127 * 2 ^ 56 := Nat.mul_le_mul (by omega) this
      omega
    · have : D * 2 ^ J ≤ 1 * 2 ^ J := Nat.mul_le_mul_right _ (hD2 h)
      omega
  have hX2 : X < 2 ^ 64 := by omega
  have eOr : X ||| D * 2 ^ J = X + D * 2 ^ J := or_digit J X D hX
  constructor
  · rw [shl_i64_nat D J (by omega), or_wrap X (D * 2 ^ J) hX2 hS, eOr, Int.toNat_natCast]
  · rw [u64_id (by omega) (by omega), shl_u64_nat D J (by omega) hS, or_u64_nat X (D * 2 ^ J) hX2 hS, eOr, Int.toNat_natCast]
theorem uv_impl (b : List Int) (hl : b.length ≤ 1048576) (at_ x d : Int) (k : Nat) (hk : k ≤ 9) (a0 : 0 ≤ at_) (hin : at_ + k < b.length) (hd : rd b (at_ + (k : Int)) = d) (r : Int × Int × Bool) (bb : Bool) (hbb : bb = decide ((k : Int) = 9 ∧ d > 1))
    (h : Ev (fun n => if bb = true then (some ((0 : Int), (0 : Int), false)) else (if d < 128 then (some (wrap64 (Go.bits .or .u64 x (shl .u64 (IntKind.u64.wrap (Go.bits .and .u8 d 127)) (wrap64 (7 * (k : Int))))), at_ + k + 1, true)) else (impl_UvarGet.l0 n b at_ (Go.bits .or .u64 x (shl .u64 (IntKind.u64.wrap (Go.bits .and .u8 d 127)) (wrap64 (7 * (k : Int))))) ((k + 1 : Nat) : Int)))) r) :
    Ev (fun n => impl_UvarGet.l0 n b at_ x (k : Int)) r := by
  have w1 : wrap64 (at_ + (k : Int)) = at_ + k := wrap64_id (by omega) (by omega)
  have w2 : wrap64 (at_ + (k : Int) + 1) = at_ + k + 1 := wrap64_id (by omega) (by omega)
  have w4 : wrap64 ((k : Int) + 1) = ((k + 1 : Nat) : Int) := by rw [wrap64_id (by omega) (by omega)]; push_cast; rfl
  have w5 : 0 ≤ wrap64 (7 * (k : Int)) := by rw [wrap64_id (by omega) (by omega)]; omega
  have w6 : wrap64 ((b.length : Int) - at_) = b.length - at_ := wrap64_id (by omega) (by omega)
  have hj2 : Ev (fun n => impl_UvarGet.j2 n b at_ x (k : Int) d bb) r := by
    refine Ev.step (fun k => by rw [impl_UvarGet.j2]) ?_
    rw [w1, w2, w4]
    cases bb with
    | true => exact Ev.congr (fun n => by rw [if_pos (show true = true from rfl), if_pos (show true = true from rfl)]) h
    | false => exact Ev.congr (fun n => by rw [if_neg (show ¬ (false = true) by decide), if_neg (show ¬ (false = true) by decide), if_pos w5]) h
  refine Ev.step (fun k => by rw [impl_UvarGet.l0]) ?_
  refine Ev.pos (by omega) ?_
  refine Ev.step (fun k => by rw [impl_UvarGet.j1]) ?_
  rw [w1, hd, w6]
  refine Ev.pos (decide_eq_true (by omega)) (Ev.pos (by omega) (Ev.pos hin ?_))
  by_cases h9 : (k : Int) = 9
  · refine Ev.pos h9 ?_
    have : decide (d > 1) = bb := by rw [hbb]; simp [h9]
    rw [this]; exact hj2
  · refine Ev.neg h9 ?_
    have : false = bb := by rw [hbb]; simp [h9]
    rw [this]; exact hj2
theorem rd_byte (b : List Int) (hb : ∀ x ∈ b, 0 ≤ x ∧ x ≤ 255) (j : Int) : 0 ≤ rd b j ∧ rd b j ≤ 255 := by
  by_cases h : j.toNat < b.length
  · rw [rd_eq h]; exact hb _ (List.getElem_mem h)
  · unfold rd; rw [List.getD_eq_getElem?_getD, List.getElem?_eq_none (by omega)]; simp
theorem and_u8_one (c : Int) (h0 : 0 ≤ c) (h1 : c ≤ 255) : Go.bits .and .u8 c 1 = c % 2 := by
  obtain ⟨n, rfl⟩ := Int.eq_ofNat_of_zero_le h0
  have hn : n < 2 ^ 8 := by omega
  have e := (bits_nat .u8 8 (by decide) (fun m h0 h1 => wraps_u8 m h0 h1) n 1 hn (by decide)).1
  have e2 : n &&& 1 = n % 2 := Nat.and_two_pow_sub_one_eq_mod n 1
  have e3 : Go.bits .and .u8 (n : Int) 1 = ((n &&& 1 : Nat) : Int) := e
  rw [e3, e2]; push_cast; rfl
/-- The bit number p of bytes. -/
def bitV (b : List Int) (p : Nat) : Int := (shr .i64 (rd b ((p / 8 : Nat) : Int)) ((p % 8 : Nat) : Int)) % 2
theorem impl_bit (b : List Int) (hb : ∀ x ∈ b, 0 ≤ x ∧ x ≤ 255) (p : Nat) (hp : p / 8 < b.length) (hl : b.length ≤ 1048576) : impl_BitAt.f b (p : Int) = some (bitV b p) := by
  unfold impl_BitAt.f bitV
  rw [Int.tdiv_eq_ediv_of_nonneg (by omega), Int.tmod_eq_emod_of_nonneg (by omega)]
  have e1 : wrap64 ((p : Int) / 8) = ((p / 8 : Nat) : Int) := by rw [wrap64_id (by omega) (by omega)]; omega
  have e2 : (p : Int) % 8 = ((p % 8 : Nat) : Int) := by omega
  have hd := rd_byte b hb ((p / 8 : Nat) : Int)
  rw [e1, e2, if_neg (by omega), if_neg (by omega), if_pos (by omega), if_pos (by omega), if_pos (by omega)]
  generalize rd b ((p / 8 : Nat) : Int) = d at hd
  have hm : p % 8 < 8 := Nat.mod_lt _ (by omega)
  generalize p % 8 = j at hm
  have s1 : shr .u8 d (j : Int) = d / 2 ^ j := by
    unfold shr
    have : min ((j : Int)).toNat IntKind.u8.bits = j := by
      have : IntKind.u8.bits = 8 := rfl
      omega
    rw [this]
  have s2 : shr .i64 d (j : Int) = d / 2 ^ j := by
    unfold shr
    have : min ((j : Int)).toNat IntKind.i64.bits = j := by
      have : IntKind.i64.bits = 64 := rfl
      omega
    rw [this]
  have p0 : (0 : Int) < 2 ^ j := Int.pow_pos (by omega)
  have q0 : 0 ≤ d / 2 ^ j := Int.ediv_nonneg hd.1 (by omega)
  have q1 : d / 2 ^ j ≤ 255 := Int.le_trans (Int.ediv_le_self _ hd.1) hd.2
  rw [s1, s2, and_u8_one _ q0 q1, wrap64_id (by omega) (by omega)]
def ubit (b : List Int) (at_ w i k : Nat) (x : Int) : Int := Go.bits .or .i64 x (shl .i64 (bitV b (8 * at_ + i * w + k)) (k : Int))
def unum (b : List Int) (at_ w i : Nat) : Int := (List.range w).foldl (fun x k => ubit b at_ w i k x) 0
theorem bit_place (at_ w i k c L : Nat) (h : at_ + c * w ≤ L) (hi : i < 8 * c) (hk : k < w) : (8 * at_ + i * w + k) / 8 < L ∧ i * w + k < 8 * (c * w) := by
  have h1 : (i + 1) * w ≤ (8 * c) * w := Nat.mul_le_mul_right _ hi
  rw [Nat.add_mul, Nat.one_mul, Nat.mul_assoc] at h1
  omega
theorem place_eq (at_ w i k : Nat) (h1 : at_ ≤ 1048576) (h2 : i * w + k ≤ 10000000) : wrap64 ((wrap64 ((wrap64 (8 * (at_ : Int))) + (wrap64 ((i : Int) * (w : Int))))) + (k : Int)) = ((8 * at_ + i * w + k : Nat) : Int) := by
  have hc : ((i : Int) * (w : Int)) = ((i * w : Nat) : Int) := by push_cast; rfl
  rw [hc, wrap64_id (x := 8 * (at_ : Int)) (by omega) (by omega), wrap64_id (x := ((i * w : Nat) : Int)) (by omega) (by omega), wrap64_id (x := 8 * (at_ : Int) + ((i * w : Nat) : Int)) (by omega) (by omega), wrap64_id (by omega) (by omega)]
  push_cast; rfl
theorem mn_nat (a b : Int) (m : Nat) (h : (m : Int) = min a b) : mn a b = (m : Int) := by
  unfold mn; split <;> omega
theorem xor_zero_i64 (x : Int) (h0 : 0 ≤ x) (h1 : x < 9223372036854775808) : Go.bits .xor .i64 x 0 = x := by
  have e : Go.bits .xor .i64 x 0 = IntKind.i64.wrap (((BitVec.ofInt 64 x ^^^ BitVec.ofInt 64 0).toNat : Nat) : Int) := rfl
  have z : BitVec.ofInt 64 0 = 0#64 := rfl
  rw [e, z, BitVec.xor_zero, BitVec.toNat_ofInt, IntKind.wrap_i64]; omega
theorem uvar_yes {b : List Int} {at_ n nx : Int} (xs : List Int) (h : Ev (fun k => impl_UvarGet.f k b at_) (n, nx, true)) : Ev (fun k => impl_deltaReader_uvar.f k b at_ false xs) (n, nx, false, xs) := by
  unfold impl_deltaReader_uvar.f
  exact Ev.bind h (Ev.neg (by decide) (Ev.pos rfl (Ev.now _)))
/-- The numbers of a miniblock. -/
def mNums (b : List Int) (at_ w m : Nat) : List Int := (List.range m).map (fun i => unum b at_ w i)
theorem mini_unpacked (b : List Int) (hb : ∀ x ∈ b, 0 ≤ x ∧ x ≤ 255) (hl : b.length ≤ 1048576) (at_ w c m : Nat) (hw : w ≤ 64) (hc : c ≤ 128) (h : at_ + c * w ≤ b.length) (hm : m ≤ 8 * c) :
    Ev (fun k => impl_unpacked.f k b (at_ : Int) (m : Int) (w : Int)) (mNums b at_ w m) := by
  unfold impl_unpacked.f mNums
  have hcw : c * w ≤ 128 * 64 := Nat.mul_le_mul hc hw
  refine append_loop (fun k out i => impl_unpacked.l0 k b (at_ : Int) (w : Int) out (m : Int) i) (fun i => unum b at_ w i) m _ (fun i s hi hs hr => ?_) ?_
  · refine Ev.step (fun k => by rw [impl_unpacked.l0]) ?_
    refine Ev.pos (by omega) ?_
    refine loop_cps (fun k x j => impl_unpacked.l1 k b (at_ : Int) (w : Int) s (i : Int) x (m : Int) (i : Int) (w : Int) j) (fun k x => ubit b at_ w i k x) w _ (fun k x hk hr2 => ?_) 0 ?_
    · obtain ⟨p1, p2⟩ := bit_place at_ w i k c b.length h (by omega) hk
      refine Ev.step (fun k => by rw [impl_unpacked.l1]) ?_
      rw [place_eq at_ w i k (by omega) (by omega), wrap64_id (x := (k : Int) + 1) (by omega) (by omega)]
      have e : ((k + 1 : Nat) : Int) = (k : Int) + 1 := by push_cast; rfl
      rw [e] at hr2
      exact Ev.pos (by omega) (Ev.here (impl_bit b hb _ p1 hl) (Ev.pos (by omega) hr2))
    · refine Ev.step (fun k => by rw [impl_unpacked.l1]) ?_
      rw [wrap64_id (x := (i : Int) + 1) (by omega) (by omega)]
      have e : ((i + 1 : Nat) : Int) = (i : Int) + 1 := by push_cast; rfl
      rw [e] at hr
      exact Ev.neg (by omega) (Ev.pos (by omega) hr)
  · exact Ev.step (fun k => by rw [impl_unpacked.l0]) (by exact Ev.neg (by omega) (Ev.now _))
theorem mini_size (c w : Nat) (hw : w ≤ 255) (hc : c ≤ 128) : wrap64 (Int.tdiv (wrap64 (((8 * c : Nat) : Int) * (w : Int))) 8) = ((c * w : Nat) : Int) := by
  have hcw : c * w ≤ 128 * 255 := Nat.mul_le_mul hc hw
  have e : (((8 * c : Nat) : Int) * (w : Int)) = ((8 * (c * w) : Nat) : Int) := by push_cast; rw [Int.mul_assoc]
  rw [e, wrap64_id (x := ((8 * (c * w) : Nat) : Int)) (by omega) (by omega), Int.tdiv_eq_ediv_of_nonneg (by omega), wrap64_id (by omega) (by omega)]
  omega
/-- Differences are added up behind what stands there. -/
def accN (least : Int) (out : List Int) (x : Int) : List Int := out ++ [wrap64 (wrap64 (rd out (wrap64 ((out.length : Int) - 1)) + x) + least)]
def accM (b : List Int) (at_ w : Nat) (least : Int) (out : List Int) (m : Nat) : List Int := (List.range m).foldl (fun o i => accN least o (unum b at_ w i)) out
theorem accM_length (b : List Int) (at_ w : Nat) (least : Int) (out : List Int) (m : Nat) : (accM b at_ w least out m).length = out.length + m := by
  unfold accM
  induction m with
  | zero => rfl
  | succ m ih => rw [List.range_succ, List.foldl_append]; simp only [List.foldl_cons, List.foldl_nil, accN, List.length_append, List.length_singleton] at ih ⊢; omega
theorem mNums_rd (b : List Int) (at_ w m i : Nat) (h : i < m) : rd (mNums b at_ w m) (i : Int) = unum b at_ w i := by
  rw [rd_eq (by simp [mNums]; omega)]
  simp [mNums]
theorem impl_add (b : List Int) (least at1 : Int) (bad : Bool) (at_ w M : Nat) (out : List Int) (h1 : 1 ≤ out.length) (hb : out.length + M ≤ 5000) :
    Ev (fun k => impl_deltaReader_mini.l0 k least (mNums b at_ w M) ((mNums b at_ w M).length : Int) 0 b at1 bad out) (at1, bad, accM b at_ w least out M) := by
  have hlen : (mNums b at_ w M).length = M := by simp [mNums]
  rw [hlen]
  have key : ∀ (d i : Nat), i + d = M → Ev (fun k => impl_deltaReader_mini.l0 k least (mNums b at_ w M) (M : Int) (i : Int) b at1 bad (accM b at_ w least out i)) (at1, bad, accM b at_ w least out M) := by
    intro d
    induction d with
    | zero =>
      intro i hi
      obtain rfl : i = M := by omega
      exact Ev.step (fun k => by rw [impl_deltaReader_mini.l0]) (by exact Ev.neg (by omega) (Ev.now _))
    | succ d ih =>
      intro i hi
      have hl := accM_length b at_ w least out i
      refine Ev.step (fun k => by rw [impl_deltaReader_mini.l0]) ?_
      rw [hlen, mNums_rd b at_ w M i (by omega), wrap64_id (x := (i : Int) + 1) (by omega) (by omega)]
      have hw1 : wrap64 (((accM b at_ w least out i).length : Int) - 1) = (accM b at_ w least out i).length - 1 := wrap64_id (by omega) (by omega)
      refine Ev.pos (by omega) (Ev.pos (by omega) (Ev.pos (by omega) (Ev.pos (by rw [hw1]; omega) (Ev.pos (by rw [hw1]; omega) (Ev.pos (by omega) ?_)))))
      have h2 := ih (i + 1) (by omega)
      have e : accM b at_ w least out (i + 1) = accN least (accM b at_ w least out i) (unum b at_ w i) := by unfold accM; rw [List.range_succ, List.foldl_append]; rfl
      rw [e] at h2
      simpa [accN] using h2
  have := key M 0 (by omega)
  simpa [accM] using this
theorem impl_mini (b : List Int) (hb : ∀ x ∈ b, 0 ≤ x ∧ x ≤ 255) (hl : b.length ≤ 1048576) (at_ w c : Nat) (ha : at_ ≤ b.length) (hw : w ≤ 255) (hc : c ≤ 128) (least : Int) (out : List Int) (h1 : 1 ≤ out.length) (left M : Nat) (hM : M = min (8 * c) left) (hob : out.length + M ≤ 5000) :
    Ev (fun k => impl_deltaReader_mini.f k b (at_ : Int) false out ((8 * c : Nat) : Int) (w : Int) least (left : Int)) (if w ≤ 64 ∧ at_ + c * w ≤ b.length then (((at_ + c * w : Nat) : Int), false, accM b at_ w least out M) else ((at_ : Int), true, out)) := by
  unfold impl_deltaReader_mini.f
  have hcw : c * w ≤ 128 * 255 := Nat.mul_le_mul hc hw
  by_cases h64 : (w : Int) > 64
  · rw [if_neg (by omega)]
    refine Ev.pos h64 ?_
    refine Ev.step (fun k => by rw [impl_deltaReader_mini.j0]) ?_
    exact Ev.here (a := ((0 : Int), (at_ : Int), true, out)) rfl (Ev.pos rfl (Ev.now _))
  refine Ev.neg h64 ?_
  refine Ev.step (fun k => by rw [impl_deltaReader_mini.j0]) ?_
  rw [mini_size c w hw hc]
  have w1 : wrap64 ((b.length : Int) - (at_ : Int)) = b.length - at_ := wrap64_id (by omega) (by omega)
  by_cases hlt : at_ + c * w ≤ b.length
  case neg =>
    rw [if_neg (by omega)]
    refine Ev.here (a := ((0 : Int), (at_ : Int), true, out)) ?_ (Ev.pos rfl (Ev.now _))
    unfold impl_deltaReader_take.f
    rw [if_neg (by decide), w1, if_pos (by omega)]
  rw [if_pos ⟨by omega, hlt⟩]
  have e2 : (at_ : Int) + ((c * w : Nat) : Int) = ((at_ + c * w : Nat) : Int) := by omega
  refine Ev.here (a := ((at_ : Int), ((at_ + c * w : Nat) : Int), false, out)) ?_ (Ev.neg Bool.false_ne_true ?_)
  · unfold impl_deltaReader_take.f
    rw [if_neg (by decide), w1, if_neg (by omega), e2, wrap64_id (x := ((at_ + c * w : Nat) : Int)) (by omega) (by omega), wrap64_id (by omega) (by omega)]
    congr 2
    omega
  · dsimp only
    rw [mn_nat _ _ M (by omega)]
    exact Ev.bind (mini_unpacked b hb hl at_ w c M (by omega) hc hlt (by omega)) (impl_add b least _ false at_ w M out h1 hob)
theorem blF_le_iff : ∀ (f n w : Nat), n < 2 ^ f → (blF f n ≤ w ↔ n < 2 ^ w)
  | 0, n, w, h => by
    obtain rfl : n = 0 := by simpa using h
    exact ⟨fun _ => Nat.two_pow_pos w, fun _ => by simp [blF]⟩
  | f + 1, n, w, h => by
    unfold blF
    by_cases h0 : n = 0
    · rw [if_pos h0, h0]
      exact ⟨fun _ => Nat.two_pow_pos w, fun _ => Nat.zero_le _⟩
    · rw [if_neg h0]
      cases w with
      | zero => constructor
                · intro h; omega
                · intro h; simp at h; omega
      | succ w =>
        have := blF_le_iff f (n / 2) w (by rw [Nat.pow_succ] at h; omega)
        rw [Nat.pow_succ]
        constructor
        · intro h2; have := this.1 (by omega); omega
        · intro h2; have := this.2 (by omega); omega
theorem rd_set (out : List Int) (a : Nat) (v : Int) (q : Nat) (ha : a < out.length) : rd (out.set a v) (q : Int) = if q = a then v else rd out (q : Int) := by
  unfold rd
  rw [Int.toNat_natCast, List.getD_eq_getElem?_getD, List.getD_eq_getElem?_getD, List.getElem?_set]
  by_cases h : q = a
  · subst h; rw [if_pos rfl, if_pos ha, if_pos rfl]; rfl
  · rw [if_neg (fun h2 => h h2.symm), if_neg h]
theorem or_u8_nat (a c : Nat) (ha : a < 256) (hc : c < 256) : Go.bits .or .u8 (a : Int) (c : Int) = ((a ||| c : Nat) : Int) := by
  have e : Go.bits .or .u8 (a : Int) (c : Int) = IntKind.u8.wrap (((BitVec.ofInt 8 (a : Int) ||| BitVec.ofInt 8 (c : Int)).toNat : Nat) : Int) := rfl
  have h : a ||| c < 2 ^ 8 := Nat.or_lt_two_pow (by omega) (by omega)
  rw [e, BitVec.ofInt_natCast, BitVec.ofInt_natCast, BitVec.toNat_or, BitVec.toNat_ofNat, BitVec.toNat_ofNat, Nat.mod_eq_of_lt (by omega), Nat.mod_eq_of_lt (by omega), IntKind.wrap_u8]
  omega
theorem shl_u8_bit (d j : Nat) (hd : d ≤ 1) (hj : j < 8) : shl .u8 (d : Int) (j : Int) = ((d * 2 ^ j : Nat) : Int) := by
  unfold shl
  have e : min ((j : Int).toNat) IntKind.u8.bits = j := by
    have : IntKind.u8.bits = 8 := rfl
    rw [this, Int.toNat_natCast]; omega
  have h1 : 2 ^ j ≤ 2 ^ 7 := Nat.pow_le_pow_right (by omega) (by omega)
  have h2 : d * 2 ^ j ≤ 1 * 2 ^ j := Nat.mul_le_mul_right _ hd
  have e2 : ((d : Int) * 2 ^ j) = ((d * 2 ^ j : Nat) : Int) := by push_cast; rfl
  rw [e, e2, IntKind.wrap_u8]; omega
def tb (out : List Int) (p : Nat) : Bool := (rd out ((p / 8 : Nat) : Int)).toNat.testBit (p % 8)
theorem rd_app (a b c : List Int) (q : Nat) (hq : q < b.length) : rd (a ++ b ++ c) ((a.length + q : Nat) : Int) = rd b (q : Int) := by
  rw [rd_eq (by simp; omega), rd_eq (by omega)]
  simp only [Int.toNat_natCast]
  rw [List.getElem_append_left (by simp; omega), List.getElem_append_right (by omega)]
  simp
theorem shr_bit (n k : Nat) (hk : k ≤ 62) : (shr .i64 (n : Int) (k : Int)) % 2 = if n.testBit k = true then 1 else 0 := by
  unfold shr
  have e : min ((k : Int).toNat) IntKind.i64.bits = k := by
    have : IntKind.i64.bits = 64 := rfl
    rw [this, Int.toNat_natCast]; omega
  have e3 : ((n : Int) / 2 ^ k) = ((n / 2 ^ k : Nat) : Int) := by push_cast; rfl
  rw [e, e3, Nat.testBit_eq_decide_div_mod_eq]
  by_cases h : n / 2 ^ k % 2 = 1
  · rw [if_pos (decide_eq_true h)]; omega
  · rw [if_neg (by simpa using h)]; omega
def u64N (x : Int) : Nat := (x % 18446744073709551616).toNat
theorem shr_bitS (x : Int) (k : Nat) (hk : k ≤ 63) : (shr .i64 x (k : Int)) % 2 = if (u64N x).testBit k = true then 1 else 0 := by
  unfold shr
  have e : min ((k : Int).toNat) IntKind.i64.bits = k := by
    have : IntKind.i64.bits = 64 := rfl
    rw [this, Int.toNat_natCast]; omega
  have hu : (u64N x : Int) = x % 18446744073709551616 := by unfold u64N; omega
  have ex : x = (u64N x : Int) + 18446744073709551616 * (x / 18446744073709551616) := by rw [hu]; omega
  have e64 : (18446744073709551616 : Int) = 2 ^ k * 2 ^ (64 - k) := by
    rw [← Int.pow_add, show k + (64 - k) = 64 by omega]; rfl
  have p0 : (0 : Int) < 2 ^ k := Int.pow_pos (by omega)
  have p1 : (2 : Int) ^ (64 - k) = 2 * 2 ^ (63 - k) := by
    rw [show 64 - k = (63 - k) + 1 by omega, Int.pow_succ, Int.mul_comm]
  have hq : x / 2 ^ k = (u64N x : Int) / 2 ^ k + 2 * (2 ^ (63 - k) * (x / 18446744073709551616)) := by
    have e2 : x / 2 ^ k = ((u64N x : Int) + 2 ^ k * (2 * (2 ^ (63 - k) * (x / 18446744073709551616)))) / 2 ^ k := by
      have e3 : 2 ^ k * (2 * (2 ^ (63 - k) * (x / 18446744073709551616))) = 18446744073709551616 * (x / 18446744073709551616) := by
        rw [← Int.mul_assoc 2, ← p1, ← Int.mul_assoc, ← e64]
      rw [e3, ← ex]
    rw [e2, Int.add_mul_ediv_left _ _ (by omega)]
  rw [e, hq, Int.add_mul_emod_self_left]
  have e3 : ((u64N x : Int) / 2 ^ k) = ((u64N x / 2 ^ k : Nat) : Int) := by push_cast; rfl
  rw [e3, Nat.testBit_eq_decide_div_mod_eq]
  by_cases h : u64N x / 2 ^ k % 2 = 1
  · rw [if_pos (decide_eq_true h)]; omega
  · rw [if_neg (by simpa using h)]; omega
def nb (l : List Int) (i k : Nat) : Bool := (u64N (rd l (i : Int))).testBit k
theorem tb_put {n : Nat} {l : List Int} {w i k : Nat} {out : List Int} (h : BOk n out) (hk : k ≤ 63) (hP : (i * w + k) / 8 < n) (p : Nat) :
    tb (bput l w i k out) p = if p = i * w + k then (tb out p || nb l i k) else tb out p := by
  unfold tb bput nb
  have hl : (i * w + k) / 8 < out.length := by rw [h.1]; exact hP
  have hm := h.2 _ (List.getElem_mem hl)
  have er : rd out (((i * w + k) / 8 : Nat) : Int) = out[(i * w + k) / 8] := rd_eq (by omega)
  rw [rd_set _ _ _ _ hl]
  obtain ⟨X, hX⟩ : ∃ X, X = u64N (rd l (i : Int)) := ⟨_, rfl⟩
  obtain ⟨D, hD⟩ := Int.eq_ofNat_of_zero_le hm.1
  generalize hPP : i * w + k = P at *
  rw [shr_bitS _ k hk, ← hX, er, hD]
  have hj : P % 8 < 8 := Nat.mod_lt _ (by omega)
  have hbit : ∃ d : Nat, d ≤ 1 ∧ (if X.testBit k = true then (1 : Int) else 0) = (d : Int) ∧ (d = 1 ↔ X.testBit k = true) := by
    cases hb : X.testBit k
    · exact ⟨0, by omega, by simp, by simp⟩
    · exact ⟨1, by omega, by simp, by simp⟩
  obtain ⟨d, hd1, hd2, hd3⟩ := hbit
  have h2p : 2 ^ (P % 8) ≤ 2 ^ 7 := Nat.pow_le_pow_right (by omega) (by omega)
  have hdp : d * 2 ^ (P % 8) ≤ 1 * 2 ^ (P % 8) := Nat.mul_le_mul_right _ hd1
  rw [hd2, shl_u8_bit d (P % 8) hd1 hj, or_u8_nat D _ (by omega) (by omega)]
  by_cases hq : p / 8 = P / 8
  · rw [if_pos hq, Int.toNat_natCast, Nat.testBit_or, hq, er, hD, Int.toNat_natCast]
    have hbitq : (d * 2 ^ (P % 8)).testBit (p % 8) = (decide (d = 1) && decide (P % 8 = p % 8)) := by
      rcases (show d = 0 ∨ d = 1 by omega) with rfl | rfl
      · simp
      · rw [Nat.one_mul, Nat.testBit_two_pow]; simp
    rw [hbitq]
    by_cases hp : p = P
    · subst hp
      rw [if_pos rfl]
      have : decide (d = 1) = X.testBit k := by
        cases hb : X.testBit k
        · exact decide_eq_false (fun hc => by rw [hd3.1 hc] at hb; cases hb)
        · exact decide_eq_true (hd3.2 hb)
      rw [this]; simp
    · rw [if_neg hp, decide_eq_false (show ¬ P % 8 = p % 8 by omega)]
      simp
  · rw [if_neg hq, if_neg (fun hc => hq (by rw [hc]))]
def TInv (l : List Int) (w n m : Nat) (out : List Int) : Prop := BOk n out ∧ ∀ p, tb out p = (decide (p < m) && nb l (p / w) (p % w))
theorem bits_inv (l : List Int) (w : Nat) (hw0 : 0 < w) (hw : w ≤ 64) : TInv l w ((l.length * w + 7) / 8) (l.length * w) (bitsR l w) := by
  have key : ∀ i, i ≤ l.length → TInv l w ((l.length * w + 7) / 8) (i * w) ((List.range i).foldl (fun o i => brow l w i o) (List.replicate ((l.length * w + 7) / 8) 0)) := by
    intro i
    induction i with
    | zero =>
      intro _
      refine ⟨⟨by simp, fun x hx => by obtain rfl := List.eq_of_mem_replicate hx; omega⟩, fun p => ?_⟩
      have : rd (List.replicate ((l.length * w + 7) / 8) 0) ((p / 8 : Nat) : Int) = 0 := by
        unfold rd
        rw [List.getD_eq_getElem?_getD, Int.toNat_natCast, List.getElem?_replicate]
        split <;> rfl
      have e : tb (List.replicate ((l.length * w + 7) / 8) 0) p = false := by unfold tb; rw [this]; simp
      show tb (List.replicate _ 0) p = _
      rw [e]; simp
    | succ i ih =>
      intro hi
      rw [List.range_succ, List.foldl_append]
      have h0 := ih (by omega)
      generalize (List.range i).foldl (fun o i => brow l w i o) (List.replicate ((l.length * w + 7) / 8) 0) = out at h0
      have hrow : (i + 1) * w ≤ l.length * w := Nat.mul_le_mul_right _ hi
      rw [Nat.add_mul, Nat.one_mul] at hrow
      have row : ∀ k, k ≤ w → TInv l w ((l.length * w + 7) / 8) (i * w + k) ((List.range k).foldl (fun o k => bput l w i k o) out) := by
        intro k
        induction k with
        | zero => intro _; exact h0
        | succ k ihk =>
          intro hk
          obtain ⟨hB, hT⟩ := ihk (by omega)
          rw [List.range_succ, List.foldl_append]
          refine ⟨bput_ok hB, fun p => ?_⟩
          show tb (bput l w i k _) p = _
          rw [tb_put hB (by omega) (by omega) p, hT p]
          by_cases hp : p = i * w + k
          · subst hp
            have e1 : (i * w + k) / w = i := by rw [Nat.mul_comm i w, Nat.mul_add_div hw0, Nat.div_eq_of_lt (by omega), Nat.add_zero]
            have e2 : (i * w + k) % w = k := by rw [Nat.mul_comm i w, Nat.mul_add_mod, Nat.mod_eq_of_lt (by omega)]
            rw [if_pos rfl, e1, e2, decide_eq_false (show ¬ i * w + k < i * w + k by omega), decide_eq_true (show i * w + k < i * w + (k + 1) by omega)]
            simp
          · rw [if_neg hp]
            have : decide (p < i * w + k) = decide (p < i * w + (k + 1)) := by
              apply decide_eq_decide.2; omega
            rw [this]
      have := row w (Nat.le_refl _)
      rw [Nat.add_mul, Nat.one_mul]
      exact this
  exact key l.length (Nat.le_refl _)
theorem bitV_back (pre suf : List Int) (l : List Int) (w : Nat) (hw0 : 0 < w) (hw : w ≤ 64) (i k : Nat) (hi : i < l.length) (hk : k < w) :
    bitV (pre ++ bitsR l w ++ suf) (8 * pre.length + i * w + k) = if (u64N (rd l (i : Int))).testBit k = true then 1 else 0 := by
  obtain ⟨hB, hT⟩ := bits_inv l w hw0 hw
  have hrow : (i + 1) * w ≤ l.length * w := Nat.mul_le_mul_right _ hi
  rw [Nat.add_mul, Nat.one_mul] at hrow
  have h1 := hT (i * w + k)
  have e1 : (i * w + k) / w = i := by rw [Nat.mul_comm i w, Nat.mul_add_div hw0, Nat.div_eq_of_lt (by omega), Nat.add_zero]
  have e2 : (i * w + k) % w = k := by rw [Nat.mul_comm i w, Nat.mul_add_mod, Nat.mod_eq_of_lt (by omega)]
  rw [e1, e2, decide_eq_true (by omega), Bool.true_and] at h1
  unfold tb nb at h1
  unfold bitV
  have e3 : (8 * pre.length + i * w + k) / 8 = pre.length + (i * w + k) / 8 := by omega
  have e4 : (8 * pre.length + i * w + k) % 8 = (i * w + k) % 8 := by omega
  have hq : (i * w + k) / 8 < (bitsR l w).length := by rw [hB.1]; omega
  rw [e3, e4, rd_app _ _ _ _ hq]
  have hm := rd_byte (bitsR l w) hB.2 (((i * w + k) / 8 : Nat) : Int)
  obtain ⟨D, hD⟩ := Int.eq_ofNat_of_zero_le hm.1
  rw [hD, Int.toNat_natCast] at h1
  rw [hD, shr_bit D _ (by omega), h1]
theorem bit_num (X m : Nat) : (if X.testBit m = true then (1 : Int) else 0) = ((X / 2 ^ m % 2 : Nat) : Int) := by
  rw [Nat.testBit_eq_decide_div_mod_eq]
  by_cases hb : X / 2 ^ m % 2 = 1
  · rw [if_pos (decide_eq_true hb), hb]; rfl
  · rw [if_neg (by simpa using hb)]; omega
theorem unumS_step (X m : Nat) (hm : m ≤ 63) : Go.bits .or .i64 (wrap64 ((X % 2 ^ m : Nat) : Int)) (shl .i64 ((X / 2 ^ m % 2 : Nat) : Int) (m : Int)) = wrap64 ((X % 2 ^ (m + 1) : Nat) : Int) := by
  have hp64 : 2 ^ m < 2 ^ 64 := Nat.pow_lt_pow_right (by decide) (by omega)
  have hml : X % 2 ^ m < 2 ^ m := Nat.mod_lt _ (Nat.two_pow_pos m)
  have hmul : X / 2 ^ m % 2 * 2 ^ m ≤ 1 * 2 ^ m := Nat.mul_le_mul_right _ (Nat.le_of_lt_succ (Nat.mod_lt _ (by decide)))
  rw [Nat.one_mul] at hmul
  rw [shl_i64_nat _ m (by omega), or_wrap _ _ (Nat.lt_trans hml hp64) (Nat.lt_of_le_of_lt hmul hp64), or_digit m _ _ hml, Nat.pow_succ, Nat.mod_mul, Nat.mul_comm (2 ^ m)]
theorem unumS_back (b : List Int) (at_ w i X : Nat) (hw : w ≤ 64) (h : ∀ k, k < w → bitV b (8 * at_ + i * w + k) = if X.testBit k = true then 1 else 0) (hX : X < 2 ^ w) : unum b at_ w i = wrap64 (X : Int) := by
  have key : ∀ m, m ≤ w → (List.range m).foldl (fun x k => ubit b at_ w i k x) 0 = wrap64 ((X % 2 ^ m : Nat) : Int) := by
    intro m
    induction m with
    | zero =>
      intro _
      rw [List.range_zero, List.foldl_nil, Nat.pow_zero, Nat.mod_one]
      exact (wrap64_id (x := ((0 : Nat) : Int)) (by decide) (by decide)).symm
    | succ m ih =>
      intro hm
      rw [List.range_succ, List.foldl_append, ih (by omega), List.foldl_cons, List.foldl_nil]
      unfold ubit
      rw [h m (by omega), bit_num, unumS_step X m (by omega)]
  have := key w (Nat.le_refl _)
  unfold unum
  rw [this, Nat.mod_eq_of_lt hX]
theorem wrap_u64N (x : Int) (h0 : -9223372036854775808 ≤ x) (h1 : x ≤ 9223372036854775807) : wrap64 (u64N x : Int) = x := by
  have hu : (u64N x : Int) = x % 18446744073709551616 := by unfold u64N; omega
  rw [hu]; unfold wrap64; omega
theorem bitsS_back (pre suf l : List Int) (w : Nat) (hw : w ≤ 64) (hI : AllI l) (i : Nat) (hi : i < l.length) (hx : u64N (rd l (i : Int)) < 2 ^ w) : unum (pre ++ bitsR l w ++ suf) pre.length w i = rd l (i : Int) := by
  rw [unumS_back _ _ w i (u64N (rd l (i : Int))) hw (fun k hk => bitV_back pre suf l w (by omega) hw i k hi hk) hx]
  exact wrap_u64N _ (rd_I hI _).1 (rd_I hI _).2
theorem widB_lt (x : Int) : u64N x < 2 ^ (widB x).toNat := by
  unfold widB
  rw [Int.toNat_natCast]
  exact (blF_le_iff 64 (u64N x) _ (by unfold u64N; omega)).1 (Nat.le_refl _)
/-! ### Varints: what is put is what is read -/
def digs : Nat → Nat → List Int
  | 0, X => [(X : Int)]
  | f + 1, X => if X < 128 then [(X : Int)] else ((X % 128 + 128 : Nat) : Int) :: digs f (X / 128)
theorem digs_len : ∀ (f X : Nat), 1 ≤ (digs f X).length ∧ (digs f X).length ≤ f + 1
  | 0, X => by simp [digs]
  | f + 1, X => by
    have := digs_len f (X / 128)
    unfold digs
    split
    · simp
    · simp; omega
theorem uvarPut_digs : ∀ (f X : Nat) (out : List Int), X < 128 ^ (f + 1) → X < 18446744073709551616 → out.length + f ≤ 10000 → Ev (fun k => impl_UvarPut.l0 k (X : Int) out) (out ++ digs f X) := by
  intro f
  induction f with
  | zero =>
    intro X out hd h1 ho
    have hX : X < 128 := by simpa using hd
    refine Ev.step (fun k => by rw [impl_UvarPut.l0]) ?_
    refine Ev.neg (by omega) (Ev.pos (by omega) (Ev.const ?_))
    have : (X : Int) % 256 = X := by omega
    rw [this]; rfl
  | succ f ih =>
    intro X out hd h1 ho
    refine Ev.step (fun k => by rw [impl_UvarPut.l0]) ?_
    unfold digs
    by_cases hX : X < 128
    · rw [if_pos hX]
      refine Ev.neg (by omega) (Ev.pos (by omega) (Ev.const ?_))
      have : (X : Int) % 256 = X := by omega
      rw [this]
    · rw [if_neg hX]
      refine Ev.pos (by omega) (Ev.pos (by omega) ?_)
      rw [bits_and_mask_u (X : Int) 127 7 (by omega) rfl]
      have e : (2 : Int) ^ 7 = 128 := rfl
      rw [e, or_u64_128 _ (by omega) (by omega)]
      have e2 : ((X : Int) % 128 + 128) % 256 = ((X % 128 + 128 : Nat) : Int) := by omega
      have e3 : (X : Int) / 128 = ((X / 128 : Nat) : Int) := by omega
      rw [e2, e3]
      have hpow : X / 128 < 128 ^ (f + 1) := by
        rw [Nat.pow_succ] at hd; omega
      have := ih (X / 128) (out ++ [((X % 128 + 128 : Nat) : Int)]) hpow (by omega) (by rw [List.length_append, List.length_singleton]; omega)
      rw [List.append_assoc, List.singleton_append] at this
      exact this
theorem rd_mid (pre t : List Int) (d : Int) : rd (pre ++ (d :: t)) (pre.length : Int) = d := by
  rw [rd_eq (by rw [List.length_append, List.length_cons]; omega)]
  simp
theorem uvarGet_digs (b : List Int) (hb : ∀ x ∈ b, 0 ≤ x ∧ x ≤ 255) (hl : b.length ≤ 1048576) (at_ : Nat) : ∀ (f k Y acc : Nat) (pre suf : List Int), k + f = 9 → acc < 2 ^ (7 * k) → Y < 128 ^ (f + 1) → acc + Y * 2 ^ (7 * k) < 18446744073709551616 → pre.length = at_ + k → b = pre ++ (digs f Y ++ suf) →
    Ev (fun n => impl_UvarGet.l0 n b (at_ : Int) (acc : Int) (k : Int)) (wrap64 ((acc + Y * 2 ^ (7 * k) : Nat) : Int), ((at_ + k + (digs f Y).length : Nat) : Int), true) := by
  have small : ∀ (k Y acc : Nat) (pre suf : List Int), k ≤ 9 → acc < 2 ^ (7 * k) → Y < 128 → (k = 9 → Y ≤ 1) → pre.length = at_ + k → b = pre ++ ((Y : Int) :: suf) →
      Ev (fun n => impl_UvarGet.l0 n b (at_ : Int) (acc : Int) (k : Int)) (wrap64 ((acc + Y * 2 ^ (7 * k) : Nat) : Int), ((at_ + k + 1 : Nat) : Int), true) := by
    intro k Y acc pre suf hk hacc hY h9 hp he
    have hbl : b.length = pre.length + (suf.length + 1) := by rw [he, List.length_append, List.length_cons]
    have hd : rd b ((at_ : Int) + (k : Int)) = (Y : Int) := by
      have := rd_mid pre suf (Y : Int)
      rw [← he, hp] at this
      rw [← this]; congr 1
    obtain ⟨_, eU⟩ := uv_step k acc hk hacc (Y : Int) (by omega) (by omega) (by omega)
    have eY : ((Y : Int) % 128).toNat = Y := by omega
    rw [eY] at eU
    have hc : (at_ : Int) + k + 1 = ((at_ + k + 1 : Nat) : Int) := by omega
    rw [← hc]
    refine uv_impl b hl (at_ : Int) (acc : Int) (Y : Int) k hk (by omega) (by omega) hd _ false (decide_eq_false (by omega)).symm ?_
    rw [eU]
    exact Ev.neg Bool.false_ne_true (Ev.pos (by omega) (Ev.now _))
  intro f
  induction f with
  | zero =>
    intro k Y acc pre suf hk hacc hY hs hp he
    have hY1 : Y < 128 := by simpa using hY
    refine small k Y acc pre suf (by omega) hacc hY1 (fun h9 => ?_) hp he
    subst h9
    have e63 : 2 ^ (7 * 9) = 9223372036854775808 := by decide
    rw [e63] at hs
    omega
  | succ f ih =>
    intro k Y acc pre suf hk hacc hY hs hp he
    unfold digs at he ⊢
    by_cases hY1 : Y < 128
    · rw [if_pos hY1] at he ⊢
      exact small k Y acc pre suf (by omega) hacc hY1 (by omega) hp he
    · rw [if_neg hY1] at he ⊢
      rw [List.cons_append] at he
      have hbl : b.length = pre.length + ((digs f (Y / 128) ++ suf).length + 1) := by rw [he, List.length_append, List.length_cons]
      obtain ⟨d, ed⟩ : ∃ d : Nat, d = Y % 128 + 128 := ⟨_, rfl⟩
      rw [← ed] at he ⊢
      have hd : rd b ((at_ : Int) + (k : Int)) = (d : Int) := by
        have := rd_mid pre (digs f (Y / 128) ++ suf) (d : Int)
        rw [← he, hp] at this
        rw [← this]; congr 1
      obtain ⟨_, eU⟩ := uv_step k acc (by omega) hacc (d : Int) (by omega) (by omega) (by omega)
      have eY : ((d : Int) % 128).toNat = Y % 128 := by omega
      rw [eY] at eU
      have e7 : 2 ^ (7 * (k + 1)) = 2 ^ (7 * k) * 128 := by rw [Nat.mul_add, Nat.pow_add]
      have esum : acc + Y % 128 * 2 ^ (7 * k) + Y / 128 * 2 ^ (7 * (k + 1)) = acc + Y * 2 ^ (7 * k) := by
        rw [e7, Nat.mul_comm (2 ^ (7 * k)) 128, ← Nat.mul_assoc, Nat.add_assoc, ← Nat.add_mul]
        congr 2; omega
      have hacc2 : acc + Y % 128 * 2 ^ (7 * k) < 2 ^ (7 * (k + 1)) := by
        have hD1 : Y % 128 ≤ 127 := by omega
        have hm : Y % 128 * 2 ^ (7 * k) ≤ 127 * 2 ^ (7 * k) := Nat.mul_le_mul_right _ hD1
        rw [e7]; omega
      have hpow : Y / 128 < 128 ^ (f + 1) := by
        rw [Nat.pow_succ] at hY; omega
      have := ih (k + 1) (Y / 128) (acc + Y % 128 * 2 ^ (7 * k)) (pre ++ [(d : Int)]) suf (by omega) hacc2 hpow (by rw [esum]; exact hs) (by rw [List.length_append, List.length_singleton]; omega) (by rw [List.append_assoc, List.singleton_append]; exact he)
      rw [esum] at this
      have el : at_ + (k + 1) + (digs f (Y / 128)).length = at_ + k + (((d : Int)) :: digs f (Y / 128)).length := by rw [List.length_cons]; omega
      rw [el] at this
      refine uv_impl b hl (at_ : Int) (acc : Int) (d : Int) k (by omega) (by omega) (by omega) hd _ false (decide_eq_false (by omega)).symm ?_
      rw [eU]
      exact Ev.neg Bool.false_ne_true (Ev.neg (by omega) this)
theorem uvar_back (x : Int) (h0 : -9223372036854775808 ≤ x) (h1 : x ≤ 9223372036854775807) : ∃ r : List Int, Ev (fun k => spec_UvarPut.f k x) r ∧ Ev (fun k => impl_UvarPut.f k x) r ∧ r.length ≤ 10 ∧ (∀ y ∈ r, 0 ≤ y ∧ y ≤ 255) ∧
    ∀ pre suf : List Int, (∀ y ∈ pre ++ r ++ suf, 0 ≤ y ∧ y ≤ 255) → (pre ++ r ++ suf).length ≤ 1048576 → Ev (fun k => impl_UvarGet.f k (pre ++ r ++ suf) (pre.length : Int)) (x, ((pre.length + r.length : Nat) : Int), true) := by
  obtain ⟨r, r1, r2, r3, r4⟩ := UvarPut_ev x
  have hX : u64N x < 18446744073709551616 := by unfold u64N; omega
  have e : IntKind.u64.wrap x = ((u64N x : Nat) : Int) := by rw [IntKind.wrap_u64]; unfold u64N; omega
  have h128 : (128 : Nat) ^ (9 + 1) = 1180591620717411303424 := by decide
  have hd : r = digs 9 (u64N x) := by
    have := uvarPut_digs 9 (u64N x) [] (by omega) hX (by simp)
    rw [List.nil_append] at this
    refine Ev.det r2 ?_
    unfold impl_UvarPut.f
    rw [e]; exact this
  refine ⟨r, r1, r2, r3, r4, fun pre suf hb hl => ?_⟩
  have := uvarGet_digs (pre ++ r ++ suf) hb hl pre.length 9 0 (u64N x) 0 pre suf (by omega) (by decide) (by omega) (by simpa using hX) (by omega) (by rw [List.append_assoc, hd])
  rw [← hd, Nat.zero_add, Nat.add_zero, show 2 ^ (7 * 0) = 1 from rfl, Nat.mul_one, wrap_u64N x h0 h1] at this
  unfold impl_UvarGet.f
  refine Ev.neg (by omega) ?_
  exact this
theorem xor_neg1_i64 (a : Int) (h0 : -9223372036854775808 ≤ a) (h1 : a ≤ 9223372036854775807) : Go.bits .xor .i64 a (-1) = -1 - a := by
  have e : Go.bits .xor .i64 a (-1) = IntKind.i64.wrap (((BitVec.ofInt 64 a ^^^ BitVec.ofInt 64 (-1)).toNat : Nat) : Int) := rfl
  have z : BitVec.ofInt 64 (-1) = BitVec.allOnes 64 := by decide
  rw [e, z, BitVec.xor_allOnes, BitVec.toNat_not, BitVec.toNat_ofInt, IntKind.wrap_i64]
  have h2 : ((2 ^ 64 : Nat) : Int) = 18446744073709551616 := by decide
  have h3 : (2 : Nat) ^ 64 = 18446744073709551616 := by decide
  rw [h2, h3]
  omega
theorem xor_zero_i64s (x : Int) (h0 : -9223372036854775808 ≤ x) (h1 : x ≤ 9223372036854775807) : Go.bits .xor .i64 x 0 = x := by
  have e : Go.bits .xor .i64 x 0 = IntKind.i64.wrap (((BitVec.ofInt 64 x ^^^ BitVec.ofInt 64 0).toNat : Nat) : Int) := rfl
  have z : BitVec.ofInt 64 0 = 0#64 := rfl
  have h2 : ((2 ^ 64 : Nat) : Int) = 18446744073709551616 := by decide
  rw [e, z, BitVec.xor_zero, BitVec.toNat_ofInt, IntKind.wrap_i64, h2]; omega
theorem zag_zig (x z : Int) (h0 : -9223372036854775808 ≤ x) (h1 : x ≤ 9223372036854775807) (h : impl_Zig.f x = some z) : impl_Zag.f z = some x ∧ -9223372036854775808 ≤ z ∧ z ≤ 9223372036854775807 := by
  unfold impl_Zig.f at h
  have w0 := wrap64_lo (x * 2)
  have w1 := wrap64_hi (x * 2)
  have ew : wrap64 (x * 2) % 18446744073709551616 = (x * 2) % 18446744073709551616 := by unfold wrap64; omega
  have z2 : z = if x < 0 then -1 - wrap64 (x * 2) else wrap64 (x * 2) := by
    by_cases hx : x < 0
    · rw [if_pos hx]
      rw [show x / 9223372036854775808 = -1 by omega, xor_neg1_i64 _ w0 w1] at h
      exact (Option.some.inj h).symm
    · rw [if_neg hx]
      rw [show x / 9223372036854775808 = 0 by omega, xor_zero_i64s _ w0 w1] at h
      exact (Option.some.inj h).symm
  clear h
  generalize wrap64 (x * 2) = W at w0 w1 ew z2
  unfold impl_Zag.f
  rw [and_one]
  have eu : IntKind.u64.wrap z = z % 18446744073709551616 := by rw [IntKind.wrap_u64]
  rw [eu]
  by_cases hx : x < 0
  · rw [if_pos hx] at z2
    have hm : z % 18446744073709551616 = -2 * x - 1 := by omega
    have ho : z % 2 = 1 := by omega
    rw [hm, ho, wrap64_id (x := (-2 * x - 1) / 2) (by omega) (by omega), wrap64_id (x := -1) (by omega) (by omega), xor_neg1_i64 _ (by omega) (by omega)]
    exact ⟨by congr 1; omega, by omega, by omega⟩
  · rw [if_neg hx] at z2
    have hm : z % 18446744073709551616 = 2 * x := by omega
    have ho : z % 2 = 0 := by omega
    rw [hm, ho, wrap64_id (x := 2 * x / 2) (by omega) (by omega), show -(0 : Int) = 0 from rfl, wrap64_id (x := 0) (by omega) (by omega), xor_zero_i64s _ (by omega) (by omega)]
    exact ⟨by congr 1; omega, by omega, by omega⟩
theorem zig_back (x : Int) (h0 : -9223372036854775808 ≤ x) (h1 : x ≤ 9223372036854775807) : ∃ (r : List Int) (z : Int), Ev (fun k => spec_ZigPut.f k x) r ∧ Ev (fun k => impl_ZigPut.f k x) r ∧ r.length ≤ 10 ∧ (∀ y ∈ r, 0 ≤ y ∧ y ≤ 255) ∧ impl_Zag.f z = some x ∧
    ∀ pre suf : List Int, (∀ y ∈ pre ++ r ++ suf, 0 ≤ y ∧ y ≤ 255) → (pre ++ r ++ suf).length ≤ 1048576 → Ev (fun k => impl_UvarGet.f k (pre ++ r ++ suf) (pre.length : Int)) (z, ((pre.length + r.length : Nat) : Int), true) := by
  obtain ⟨z, z1, z2⟩ := Zig_both x h0 h1
  obtain ⟨q1, q2, q3⟩ := zag_zig x z h0 h1 z2
  obtain ⟨r, r1, r2, r3, r4, r5⟩ := uvar_back z q2 q3
  unfold spec_ZigPut.f impl_ZigPut.f
  exact ⟨r, z, Ev.here z1 (Ev.bind r1 (Ev.now _)), Ev.here z2 (Ev.bind r2 (Ev.now _)), r3, r4, q1, r5⟩
theorem rd_left (a b : List Int) (j : Nat) (h : j < a.length) : rd (a ++ b) (j : Int) = rd a (j : Int) := by
  have := rd_app [] a b j h
  simpa using this
theorem rd_last (a : List Int) (v : Int) : rd (a ++ [v]) (a.length : Int) = v := rd_mid a [] v
/-- The numbers of a miniblock lie within its width. -/
theorem mini_fits (d : List Int) (least : Int) (m : Nat) : ∀ j, j < cntD d m → rd (mini d least m).1 (j : Int) = wrap64 (rd d ((32 * m + j : Nat) : Int) - least) ∧ u64N (wrap64 (rd d ((32 * m + j : Nat) : Int) - least)) < 2 ^ (mini d least m).2.toNat := by
  have key : ∀ c, MOk c ((List.range c).foldl (fun s j => nstep d least m j s) ([], 0)) ∧ ∀ j, j < c → rd ((List.range c).foldl (fun s j => nstep d least m j s) ([], 0)).1 (j : Int) = wrap64 (rd d ((32 * m + j : Nat) : Int) - least) ∧ u64N (wrap64 (rd d ((32 * m + j : Nat) : Int) - least)) < 2 ^ ((List.range c).foldl (fun s j => nstep d least m j s) ([], 0)).2.toNat := by
    intro c
    induction c with
    | zero => exact ⟨⟨rfl, by simp, by simp⟩, fun j hj => absurd hj (by omega)⟩
    | succ c ih =>
      obtain ⟨hM, ih⟩ := ih
      rw [List.range_succ, List.foldl_append, List.foldl_cons, List.foldl_nil]
      generalize (List.range c).foldl (fun s j => nstep d least m j s) ([], 0) = s at hM ih
      refine ⟨nstep_ok hM, fun j hj => ?_⟩
      obtain ⟨l1, l2, l3⟩ := hM
      have hv := widB_lt (wrap64 (rd d ((32 * m + c : Nat) : Int) - least))
      unfold nstep
      dsimp only
      by_cases hjc : j < c
      · obtain ⟨i1, i2⟩ := ih j hjc
        refine ⟨by rw [rd_left _ _ _ (by omega)]; exact i1, Nat.lt_of_lt_of_le i2 (Nat.pow_le_pow_right (by decide) ?_)⟩
        split
        · rename_i hw; exact Int.toNat_le_toNat (Int.le_of_lt hw)
        · exact Nat.le_refl _
      · obtain rfl : j = c := by omega
        refine ⟨?_, Nat.lt_of_lt_of_le hv (Nat.pow_le_pow_right (by decide) ?_)⟩
        · have := rd_last s.1 (wrap64 (rd d ((32 * m + j : Nat) : Int) - least))
          rw [l1] at this; exact this
        · split
          · exact Nat.le_refl _
          · rename_i hw; exact Int.toNat_le_toNat (Int.not_lt.1 hw)
  exact (key (cntD d m)).2
theorem mini_AllI (d : List Int) (least : Int) (m : Nat) : AllI (padL (mini d least m).1) := by
  have h1 : AllI (mini d least m).1 := by
    have hM := mini_ok d least m
    intro x hx
    obtain ⟨j, hj, rfl⟩ := List.getElem_of_mem hx
    have := (mini_fits d least m j (by rw [← hM.1]; exact hj)).1
    rw [rd_eq (by omega)] at this
    simp only [Int.toNat_natCast] at this
    rw [this]
    exact ⟨wrap64_lo _, wrap64_hi _⟩
  intro x hx
  unfold padL at hx
  rcases List.mem_append.1 hx with h | h
  · exact h1 x h
  · obtain rfl := List.eq_of_mem_replicate h; omega
def dS (d : List Int) (least : Int) (m : Nat) : List Int × List Int := (List.range m).foldl (fun s m => dstep d least m s) ([], [])
theorem dS_succ (d : List Int) (least : Int) (m : Nat) : dS d least (m + 1) = dstep d least m (dS d least m) := by
  unfold dS; rw [List.range_succ, List.foldl_append]; rfl
theorem dS_widths (d : List Int) (least : Int) : ∀ m, (dS d least m).1 = (List.range m).map (fun i => (mini d least i).2 % 256)
  | 0 => rfl
  | m + 1 => by
    rw [dS_succ, List.range_succ, List.map_append, ← dS_widths d least m]; rfl
theorem dS_more (d : List Int) (least : Int) (i : Nat) : ∀ k, ∃ rest, (dS d least (i + k)).2 = (dS d least i).2 ++ rest
  | 0 => ⟨[], by simp⟩
  | k + 1 => by
    obtain ⟨rest, h⟩ := dS_more d least i k
    rw [← Nat.add_assoc, dS_succ]
    unfold dstep
    dsimp only
    split
    · exact ⟨rest, h⟩
    · rw [h]; exact ⟨rest ++ _, by rw [List.append_assoc]⟩
theorem dS_end (d : List Int) (least : Int) (i : Nat) (h : d.length ≤ 32 * i) : ∀ k, (dS d least (i + k)).2 = (dS d least i).2
  | 0 => rfl
  | k + 1 => by
    rw [← Nat.add_assoc, dS_succ]
    unfold dstep
    dsimp only
    rw [if_pos (by unfold cntD; omega)]
    exact dS_end d least i h k
theorem dS_bytes (d : List Int) (least : Int) : ∀ m, ∀ y ∈ (dS d least m).1 ++ (dS d least m).2, 0 ≤ y ∧ y ≤ 255
  | 0 => by intro y hy; cases hy
  | m + 1 => by
    have ih := dS_bytes d least m
    intro y hy
    rw [dS_succ] at hy
    unfold dstep at hy
    dsimp only at hy
    rcases List.mem_append.1 hy with h | h
    · rcases List.mem_append.1 h with h | h
      · exact ih y (List.mem_append_left _ h)
      · rw [List.mem_singleton.1 h]; omega
    · split at h
      · exact ih y (List.mem_append_right _ h)
      · rcases List.mem_append.1 h with h | h
        · exact ih y (List.mem_append_right _ h)
        · exact (bitsR_ok _ _).2 y h
theorem wrap_sum (a x least : Int) (h0 : -9223372036854775808 ≤ x) (h1 : x ≤ 9223372036854775807) : wrap64 (wrap64 (a + wrap64 (wrap64 (x - a) - least)) + least) = x := by
  have q : ∀ y : Int, ∃ k : Int, wrap64 y = y + 18446744073709551616 * k := fun y => ⟨(wrap64 y - y) / 18446744073709551616, by unfold wrap64; omega⟩
  obtain ⟨k1, e1⟩ := q (x - a)
  rw [e1]
  obtain ⟨k2, e2⟩ := q (x - a + 18446744073709551616 * k1 - least)
  rw [e2]
  obtain ⟨k3, e3⟩ := q (a + (x - a + 18446744073709551616 * k1 - least + 18446744073709551616 * k2))
  rw [e3]
  clear e1 e2 e3 q
  unfold wrap64; omega
theorem take_one (l : List Int) (q : Nat) (h : q < l.length) : l.take (q + 1) = l.take q ++ [rd l (q : Int)] := by
  rw [rd_eq (by omega)]
  simp
theorem acc_take (l : List Int) (hI : AllI l) (hl : l.length ≤ 2000) (b : List Int) (at_ w : Nat) (least : Int) (q : Nat) (hq : 1 ≤ q) : ∀ M, q + M ≤ l.length → (∀ j, j < M → unum b at_ w j = wrap64 (wrap64 (rd l ((q + j : Nat) : Int) - rd l ((q + j - 1 : Nat) : Int)) - least)) → accM b at_ w least (l.take q) M = l.take (q + M) := by
  intro M
  induction M with
  | zero => intro _ _; rfl
  | succ M ih =>
    intro hM hu
    have e : accM b at_ w least (l.take q) (M + 1) = accN least (accM b at_ w least (l.take q) M) (unum b at_ w M) := by unfold accM; rw [List.range_succ, List.foldl_append]; rfl
    rw [e, ih (by omega) (fun j hj => hu j (by omega)), hu M (by omega), ← Nat.add_assoc, take_one l (q + M) (by omega)]
    unfold accN
    have hlen : (l.take (q + M)).length = q + M := by rw [List.length_take]; omega
    have ew : wrap64 (((l.take (q + M)).length : Int) - 1) = ((q + M - 1 : Nat) : Int) := by rw [hlen, wrap64_id (by omega) (by omega)]; omega
    have er : rd (l.take (q + M)) ((q + M - 1 : Nat) : Int) = rd l ((q + M - 1 : Nat) : Int) := by
      have := rd_left (l.take (q + M)) (l.drop (q + M)) (q + M - 1) (by omega)
      rw [List.take_append_drop] at this
      exact this.symm
    have hx := rd_I hI ((q + M : Nat) : Int)
    rw [ew, er, wrap_sum _ _ _ hx.1 hx.2]
theorem diffs_rd (l : List Int) (i : Nat) (h : i + 1 < l.length) : rd (diffs l) (i : Int) = wrap64 (rd l ((i + 1 : Nat) : Int) - rd l (i : Int)) := by
  rw [rd_eq (by rw [diffs_length]; omega)]
  simp only [Int.toNat_natCast]
  unfold diffs
  simp
theorem rd_sub (D : List Int) (p n j : Nat) (h : j < n) (h2 : p + j < D.length) : rd ((D.drop p).take n) (j : Int) = rd D ((p + j : Nat) : Int) := by
  rw [rd_eq (by rw [List.length_take, List.length_drop]; omega), rd_eq (by omega)]
  simp only [List.getElem_take, List.getElem_drop, Int.toNat_natCast]
/-- A miniblock that was written is read. -/
theorem mini_read (l : List Int) (hI : AllI l) (hl : l.length ≤ 2000) (p n : Nat) (hn0 : 0 < n) (hn : n = min 128 (l.length - 1 - p)) (hp : p < l.length - 1) (least : Int) (b : List Int) (hb : ∀ y ∈ b, 0 ≤ y ∧ y ≤ 255) (hbl : b.length ≤ 1048576) (pre suf : List Int)
    (d : List Int) (hd : d = ((diffs l).drop p).take n) (i : Nat) (hi : 32 * i < n) (he : b = pre ++ bitsR (padL (mini d least i).1) (mini d least i).2.toNat ++ suf) :
    Ev (fun k => impl_deltaReader_mini.f k b (pre.length : Int) false (l.take (p + 1 + 32 * i)) ((8 * 4 : Nat) : Int) (mini d least i).2 least ((l.length - (p + 1 + 32 * i) : Nat) : Int)) (((pre.length + 4 * (mini d least i).2.toNat : Nat) : Int), false, l.take (p + 1 + min (32 * i + 32) n)) := by
  have hdl : d.length = n := by rw [hd, List.length_take, List.length_drop, diffs_length]; omega
  obtain ⟨m1, m2, m3⟩ := mini_ok d least i
  have hcnt : cntD d i = min 32 (n - 32 * i) := by unfold cntD; rw [hdl]
  obtain ⟨w, hw⟩ := Int.eq_ofNat_of_zero_le m2
  have hw64 : w ≤ 64 := by omega
  have hwt : (mini d least i).2.toNat = w := by omega
  rw [hwt] at he ⊢
  have hpl : (padL (mini d least i).1).length = 32 := by unfold padL; rw [List.length_append, List.length_replicate]; omega
  have hbits : (bitsR (padL (mini d least i).1) w).length = 4 * w := by rw [(bitsR_ok _ _).1, hpl]; omega
  have hlen : b.length = pre.length + 4 * w + suf.length := by rw [he, List.length_append, List.length_append, hbits]
  have hout : (l.take (p + 1 + 32 * i)).length = p + 1 + 32 * i := by rw [List.length_take]; omega
  have h := impl_mini b hb hbl pre.length w 4 (by omega) (by omega) (by omega) least (l.take (p + 1 + 32 * i)) (by omega) (l.length - (p + 1 + 32 * i)) (cntD d i) (by omega) (by omega)
  rw [if_pos ⟨hw64, by omega⟩] at h
  have hacc := acc_take l hI hl b pre.length w least (p + 1 + 32 * i) (by omega) (cntD d i) (by omega) (fun j hj => by
    obtain ⟨f1, f2⟩ := mini_fits d least i j hj
    rw [hwt] at f2
    have hj32 : j < (mini d least i).1.length := by omega
    have hrp : rd (padL (mini d least i).1) (j : Int) = wrap64 (rd d ((32 * i + j : Nat) : Int) - least) := by
      unfold padL; rw [rd_left _ _ _ hj32]; exact f1
    rw [he, bitsS_back pre suf _ w hw64 (mini_AllI d least i) j (by omega) (by rw [hrp]; exact f2), hrp, hd, rd_sub _ _ _ _ (by omega) (by rw [diffs_length]; omega), diffs_rd l _ (by omega)]
    have e1 : p + (32 * i + j) + 1 = p + 1 + 32 * i + j := by omega
    have e2 : p + (32 * i + j) = p + 1 + 32 * i + j - 1 := by omega
    rw [e1, e2])
  have em : p + 1 + 32 * i + cntD d i = p + 1 + min (32 * i + 32) n := by omega
  rw [hacc, em] at h
  rw [hw]
  exact h
/-- A block that was written is read. -/
theorem block_read (l : List Int) (hI : AllI l) (hl : l.length ≤ 2000) (p n : Nat) (hn : n = min 128 (l.length - 1 - p)) (hp : p < l.length - 1) (b : List Int) (hb : ∀ y ∈ b, 0 ≤ y ∧ y ≤ 255) (hbl : b.length ≤ 1048576) (pre z suf : List Int)
    (d : List Int) (hd : d = ((diffs l).drop p).take n) (v : Int) (hz : impl_Zag.f v = some (leastB d)) (hg : Ev (fun k => impl_UvarGet.f k b (pre.length : Int)) (v, ((pre.length + z.length : Nat) : Int), true))
    (he : b = pre ++ (z ++ (dS d (leastB d) 4).1 ++ (dS d (leastB d) 4).2) ++ suf) (r : List Int × Int × Bool)
    (hr : Ev (fun k => impl_DeltaRead.l0 k b 4 (l.length : Int) ((8 * 4 : Nat) : Int) b ((pre.length + (z ++ (dS d (leastB d) 4).1 ++ (dS d (leastB d) 4).2).length : Nat) : Int) false (l.take (p + n + 1))) r) :
    Ev (fun k => impl_DeltaRead.l0 k b 4 (l.length : Int) ((8 * 4 : Nat) : Int) b (pre.length : Int) false (l.take (p + 1))) r := by
  generalize leastB d = least at *
  have hwl : (dS d least 4).1.length = 4 := by rw [dS_widths]; simp
  have hdl : d.length = n := by rw [hd, List.length_take, List.length_drop, diffs_length]; omega
  have hlen : b.length = pre.length + (z.length + 4 + (dS d least 4).2.length) + suf.length := by rw [he]; simp only [List.length_append, hwl]
  obtain ⟨N, hN⟩ : ∃ N, N = pre.length + z.length := ⟨_, rfl⟩
  have loop : ∀ (f i : Nat), i + f = 4 → Ev (fun k => impl_DeltaRead.l1 k b 4 (l.length : Int) ((8 * 4 : Nat) : Int) least (N : Int) (i : Int) b ((N + 4 + (dS d least i).2.length : Nat) : Int) false (l.take (p + 1 + min (32 * i) n))) r := by
    have fin : ∀ i, i ≤ 4 → n ≤ 32 * i → Ev (fun k => impl_DeltaRead.l0 k b 4 (l.length : Int) ((8 * 4 : Nat) : Int) b ((N + 4 + (dS d least i).2.length : Nat) : Int) false (l.take (p + 1 + min (32 * i) n))) r := by
      intro i hi hni
      have e := dS_end d least i (by omega) (4 - i)
      rw [show i + (4 - i) = 4 by omega] at e
      rw [← e, show p + 1 + min (32 * i) n = p + n + 1 by omega]
      have el : pre.length + (z ++ (dS d least 4).1 ++ (dS d least 4).2).length = N + 4 + (dS d least 4).2.length := by
        simp only [List.length_append, hwl]; omega
      rw [el] at hr
      exact hr
    intro f
    induction f with
    | zero =>
      intro i hi
      obtain rfl : i = 4 := by omega
      refine Ev.step (fun k => by rw [impl_DeltaRead.l1]) ?_
      exact Ev.neg (by omega) (fin 4 (by omega) (by omega))
    | succ f ih =>
      intro i hi
      have hout : (l.take (p + 1 + min (32 * i) n)).length = p + 1 + min (32 * i) n := by rw [List.length_take]; omega
      refine Ev.step (fun k => by rw [impl_DeltaRead.l1]) ?_
      refine Ev.pos (by omega) ?_
      by_cases hin : 32 * i < n
      case neg =>
        exact Ev.neg (by rw [hout]; omega) (fin i (by omega) (by omega))
      have hmin : min (32 * i) n = 32 * i := by omega
      rw [hmin] at hout ⊢
      obtain ⟨m1, m2, m3⟩ := mini_ok d least i
      have ew : Unit → wrap64 ((N : Int) + (i : Int)) = ((N + i : Nat) : Int) := fun _ => by rw [wrap64_id (by omega) (by omega)]; omega
      have eb : rd b ((N + i : Nat) : Int) = (mini d least i).2 := by
        have h1 := rd_app (pre ++ z) (dS d least 4).1 ((dS d least 4).2 ++ suf) i (by omega)
        have h2 : pre ++ z ++ (dS d least 4).1 ++ ((dS d least 4).2 ++ suf) = b := by rw [he]; simp only [List.append_assoc]
        rw [h2, List.length_append, ← hN] at h1
        rw [h1, dS_widths, rd_eq (by simp; omega)]
        simp
        omega
      have ew2 : Unit → wrap64 ((mini d least i).2) = (mini d least i).2 := fun _ => wrap64_id (by omega) (by omega)
      have el : Unit → wrap64 ((l.length : Int) - ((l.take (p + 1 + 32 * i)).length : Int)) = ((l.length - (p + 1 + 32 * i) : Nat) : Int) := fun _ => by rw [hout, wrap64_id (by omega) (by omega)]; omega
      have em : Unit → wrap64 ((i : Int) + 1) = ((i + 1 : Nat) : Int) := fun _ => by rw [wrap64_id (by omega) (by omega)]; omega
      refine Ev.pos (by rw [hout]; omega) (Ev.neg Bool.false_ne_true ?_)
      rw [ew (), eb, ew2 (), el ()]
      refine Ev.pos (by omega) (Ev.pos (by omega) ?_)
      have hcnt : cntD d i ≠ 0 := by unfold cntD; omega
      have hnext : (dS d least (i + 1)).2 = (dS d least i).2 ++ bitsR (padL (mini d least i).1) (mini d least i).2.toNat := by
        rw [dS_succ]; unfold dstep; dsimp only; rw [if_neg hcnt]
      obtain ⟨rest, hrest⟩ := dS_more d least (i + 1) (3 - i)
      rw [show i + 1 + (3 - i) = 4 by omega, hnext] at hrest
      have hpre : (pre ++ z ++ (dS d least 4).1 ++ (dS d least i).2).length = N + 4 + (dS d least i).2.length := by
        simp only [List.length_append, hwl]; omega
      have hm := mini_read l hI hl p n (by omega) hn hp least b hb hbl (pre ++ z ++ (dS d least 4).1 ++ (dS d least i).2) (rest ++ suf) d hd i hin (by rw [he, hrest]; simp only [List.append_assoc])
      rw [hpre] at hm
      refine Ev.bind hm ?_
      dsimp only
      rw [em ()]
      have hbl2 : (bitsR (padL (mini d least i).1) (mini d least i).2.toNat).length = 4 * (mini d least i).2.toNat := by
        have hpl : (padL (mini d least i).1).length = 32 := by
          have hc : cntD d i ≤ 32 := by unfold cntD; omega
          unfold padL; rw [List.length_append, List.length_replicate]; omega
        rw [(bitsR_ok _ _).1, hpl]; omega
      have h := ih (i + 1) (by omega)
      rw [hnext, List.length_append, hbl2] at h
      have e1 : N + 4 + ((dS d least i).2.length + 4 * (mini d least i).2.toNat) = N + 4 + (dS d least i).2.length + 4 * (mini d least i).2.toNat := by omega
      have e2 : 32 * (i + 1) = 32 * i + 32 := by omega
      rw [e1, e2] at h
      exact h
  have hout : (l.take (p + 1)).length = p + 1 := by rw [List.length_take]; omega
  refine Ev.step (fun k => by rw [impl_DeltaRead.l0]) ?_
  refine Ev.pos (by rw [hout]; omega) ?_
  refine Ev.step (fun k => by rw [impl_DeltaRead.j3]) ?_
  rw [← hN] at hg
  have w1 : Unit → wrap64 ((b.length : Int) - (N : Int)) = b.length - N := fun _ => wrap64_id (by omega) (by omega)
  have eN : Unit → wrap64 ((N : Int) + 4) = ((N + 4 : Nat) : Int) := fun _ => by rw [wrap64_id (by omega) (by omega)]; omega
  refine Ev.pos rfl (Ev.bind (uvar_yes _ hg) (Ev.here hz (Ev.here (a := ((N : Int), ((N + 4 : Nat) : Int), false, l.take (p + 1))) ?_ ?_)))
  · unfold impl_deltaReader_take.f
    dsimp only
    rw [if_neg Bool.false_ne_true, w1 (), if_neg (by omega), eN (), wrap64_id (x := ((N + 4 : Nat) : Int) - 4) (by omega) (by omega)]
    congr 2
    omega
  · have h := loop 4 0 (by omega)
    have e0 : (dS d least 0).2.length = 0 := rfl
    rw [e0, show p + 1 + min (32 * 0) n = p + 1 by omega, Nat.add_zero] at h
    exact h
theorem l1In_same (x lo hi : Int) : (if x ≥ lo then some (decide (x ≤ hi)) else some false) = some (decide (lo ≤ x ∧ x ≤ hi)) := by
  by_cases h : x ≥ lo
  · rw [if_pos h]; congr 1; simp; omega
  · rw [if_neg h]; congr 1; symm; simp; omega
theorem within_some (x lo hi : Int) : impl_within.f x lo hi = some (decide (lo ≤ x ∧ x ≤ hi)) := by unfold impl_within.f; exact l1In_same x lo hi
abbrev DR := List Int × Int × Bool
def GoodN (B m n : Int) : Prop := (128 ≤ B ∧ B ≤ 1024) ∧ Int.tmod B 128 = 0 ∧ (1 ≤ m ∧ m ≤ B) ∧ Int.tmod B m = 0 ∧ Int.tmod (wrap64 (Int.tdiv B m)) 32 = 0 ∧ (0 ≤ n ∧ n ≤ 2000)
theorem impl_j0_bad (b : List Int) (B m n z at_ : Int) (f : Bool) (xs : List Int) : Ev (fun k => impl_DeltaRead.j0 k b B m n z true b at_ f xs) (([], 0, false) : DR) :=
  Ev.step (fun k => by rw [impl_DeltaRead.j0]) (by exact Ev.pos rfl (Ev.now _))
theorem impl_j1_bad (b : List Int) (B m n z at_ : Int) (f : Bool) (xs : List Int) : Ev (fun k => impl_DeltaRead.j1 k b B m n z true b at_ f xs) (([], 0, false) : DR) :=
  Ev.step (fun k => by rw [impl_DeltaRead.j1]) (by exact Ev.pos rfl (Ev.now _))
theorem impl_delta (b : List Int) (at_ : Int) (hin : 0 ≤ at_ ∧ at_ ≤ b.length) {q1 q2 q3 q4 : Int × Int × Bool × List Int} {t : Int} (e1 : Ev (fun k => impl_deltaReader_uvar.f k b at_ false []) q1) (e2 : Ev (fun k => impl_deltaReader_uvar.f k b q1.2.1 q1.2.2.1 q1.2.2.2) q2) (e3 : Ev (fun k => impl_deltaReader_uvar.f k b q2.2.1 q2.2.2.1 q2.2.2.2) q3) (e4 : Ev (fun k => impl_deltaReader_uvar.f k b q3.2.1 q3.2.2.1 q3.2.2.2) q4) (hz : impl_Zag.f q4.1 = some t) (res : DR)
    (hn : ¬ (q4.2.2.1 = false ∧ GoodN q1.1 q2.1 q3.1) → res = ([], 0, false))
    (h0 : q4.2.2.1 = false → GoodN q1.1 q2.1 q3.1 → q3.1 = 0 → res = ([], q4.2.1, true))
    (hy : q4.2.2.1 = false → GoodN q1.1 q2.1 q3.1 → q3.1 ≠ 0 → Ev (fun k => impl_DeltaRead.l0 k b q2.1 q3.1 (wrap64 (Int.tdiv q1.1 q2.1)) b q4.2.1 q4.2.2.1 [t]) res) : Ev (fun k => impl_DeltaRead.f k b at_) res := by
  unfold impl_DeltaRead.f
  refine Ev.here (within_some _ _ _) (Ev.pos (decide_eq_true hin) ?_)
  refine Ev.bind e1 (Ev.bind e2 (Ev.bind e3 (Ev.bind e4 (Ev.here hz ?_))))
  have bad : ¬ (q4.2.2.1 = false ∧ GoodN q1.1 q2.1 q3.1) → Ev (fun k => impl_DeltaRead.j0 k b q1.1 q2.1 q3.1 t true b q4.2.1 q4.2.2.1 q4.2.2.2) res := by
    intro h
    rw [hn h]
    exact impl_j0_bad _ _ _ _ _ _ _ _
  clear e1 e2 e3 e4
  by_cases a1 : q4.2.2.1 = true
  · exact Ev.pos a1 (bad fun g => by rw [a1] at g; cases g.1)
  refine Ev.neg a1 ?_
  have a2 : q4.2.2.1 = false := Bool.eq_false_iff.mpr a1
  refine Ev.here (within_some _ _ _) ?_
  by_cases c1 : 128 ≤ q1.1 ∧ q1.1 ≤ 1024
  case neg => exact Ev.neg (by rw [decide_eq_false c1]; exact Bool.false_ne_true) (bad fun g => c1 g.2.1)
  refine Ev.pos (decide_eq_true c1) ?_
  by_cases c2 : Int.tmod q1.1 128 = 0
  case neg => exact Ev.neg c2 (bad fun g => c2 g.2.2.1)
  refine Ev.pos c2 ?_
  refine Ev.here (within_some _ _ _) ?_
  by_cases c3 : 1 ≤ q2.1 ∧ q2.1 ≤ q1.1
  case neg => exact Ev.neg (by rw [decide_eq_false c3]; exact Bool.false_ne_true) (bad fun g => c3 g.2.2.2.1)
  refine Ev.pos (decide_eq_true c3) ?_
  have hm : ¬ q2.1 = 0 := by have := c3.1; intro h; rw [h] at this; exact absurd this (by decide)
  refine Ev.here (within_some _ _ _) ?_
  by_cases c6 : 0 ≤ q3.1 ∧ q3.1 ≤ 2000
  case neg => rw [decide_eq_false c6]; exact bad fun g => c6 g.2.2.2.2.2.2
  rw [decide_eq_true c6]
  refine Ev.step (fun k => by rw [impl_DeltaRead.j0]) ?_
  refine Ev.neg Bool.false_ne_true (Ev.neg hm ?_)
  by_cases c4 : Int.tmod q1.1 q2.1 = 0
  case neg =>
    rw [hn fun g => c4 g.2.2.2.2.1]
    exact Ev.neg c4 (impl_j1_bad _ _ _ _ _ _ _ _)
  refine Ev.pos c4 ?_
  by_cases c5 : Int.tmod (wrap64 (Int.tdiv q1.1 q2.1)) 32 = 0
  case neg =>
    rw [hn fun g => c5 g.2.2.2.2.2.1, show ((Int.tmod (wrap64 (Int.tdiv q1.1 q2.1)) 32) != 0) = true from bne_iff_ne.mpr c5]
    exact impl_j1_bad _ _ _ _ _ _ _ _
  have G : GoodN q1.1 q2.1 q3.1 := ⟨c1, c2, c3, c4, c5, c6⟩
  rw [c5]
  refine Ev.step (fun k => by rw [impl_DeltaRead.j1]) ?_
  refine Ev.neg Bool.false_ne_true ?_
  by_cases z : q3.1 = 0
  · rw [h0 a2 G z]
    exact Ev.pos z (Ev.now _)
  · exact Ev.neg z (Ev.neg hm (hy a2 G z))
def Bytes8 (b : List Int) : Prop := ∀ y ∈ b, 0 ≤ y ∧ y ≤ 255
theorem Bytes8.app {a b : List Int} (h : Bytes8 a) (k : Bytes8 b) : Bytes8 (a ++ b) := fun y hy => by
  rcases List.mem_append.1 hy with q | q
  · exact h y q
  · exact k y q
set_option maxHeartbeats 4000000 in
theorem delta_loop_back (l : List Int) (hI : AllI l) (hl : l.length ≤ 2000) (hD : AllI (diffs l)) : ∀ (f p : Nat), l.length - 1 ≤ p + 128 * f → p ≤ 2000000 →
    ∃ B : List Int, (∀ out : List Int, out.length ≤ 2000 * p + 100000 → Ev (fun k => spec_DeltaPack.l0 k out (diffs l) (p : Int)) (out ++ B, true) ∧ Ev (fun k => impl_DeltaPack.l0 k out ((diffs l).drop p)) (out ++ B, true)) ∧ B.length ≤ 2000 * f ∧ Bytes8 B ∧
      ∀ pre suf : List Int, Bytes8 (pre ++ B ++ suf) → (pre ++ B ++ suf).length ≤ 1048576 → Ev (fun k => impl_DeltaRead.l0 k (pre ++ B ++ suf) 4 (l.length : Int) ((8 * 4 : Nat) : Int) (pre ++ B ++ suf) (pre.length : Int) false (l.take (p + 1))) (l, ((pre.length + B.length : Nat) : Int), true) := by
  have hdl := diffs_length l
  have done : ∀ p : Nat, l.length - 1 ≤ p → p ≤ 2000000 → ∃ B : List Int, (∀ out : List Int, out.length ≤ 2000 * p + 100000 → Ev (fun k => spec_DeltaPack.l0 k out (diffs l) (p : Int)) (out ++ B, true) ∧ Ev (fun k => impl_DeltaPack.l0 k out ((diffs l).drop p)) (out ++ B, true)) ∧ B.length ≤ 0 ∧ Bytes8 B ∧
      ∀ pre suf : List Int, Bytes8 (pre ++ B ++ suf) → (pre ++ B ++ suf).length ≤ 1048576 → Ev (fun k => impl_DeltaRead.l0 k (pre ++ B ++ suf) 4 (l.length : Int) ((8 * 4 : Nat) : Int) (pre ++ B ++ suf) (pre.length : Int) false (l.take (p + 1))) (l, ((pre.length + B.length : Nat) : Int), true) := by
    intro p h hp
    refine ⟨[], fun out ho => ⟨?_, ?_⟩, by simp, fun y hy => (by cases hy), fun pre suf _ _ => ?_⟩
    · rw [List.append_nil]
      exact Ev.step (fun k => by rw [spec_DeltaPack.l0]) (by exact Ev.neg (by omega) (Ev.now _))
    · rw [List.append_nil]
      exact Ev.step (fun k => by rw [impl_DeltaPack.l0]) (by exact Ev.neg (by rw [List.length_drop]; omega) (Ev.now _))
    · rw [List.take_of_length_le (by omega)]
      refine Ev.step (fun k => by rw [impl_DeltaRead.l0]) ?_
      refine Ev.neg (by omega) ?_
      exact Ev.step (fun k => by rw [impl_DeltaRead.j3]) (by exact Ev.neg Bool.false_ne_true (Ev.neg Bool.false_ne_true (Ev.now _)))
  intro f
  induction f with
  | zero =>
    intro p h hp
    exact done p (by omega) hp
  | succ f ih =>
    intro p h hp
    by_cases hx : l.length - 1 ≤ p
    · obtain ⟨B, b1, b2, b3⟩ := done p hx hp
      exact ⟨B, b1, by omega, b3⟩
    have hdd : ((diffs l).drop p).length = l.length - 1 - p := by rw [List.length_drop]; omega
    obtain ⟨n, hn⟩ : ∃ n, n = min 128 (l.length - 1 - p) := ⟨_, rfl⟩
    obtain ⟨d, hd⟩ : ∃ d, d = ((diffs l).drop p).take n := ⟨_, rfl⟩
    have hch : d.length = n := by rw [hd, List.length_take]; omega
    have hdI : AllI d := fun x hx => by rw [hd] at hx; exact hD x (List.mem_of_mem_drop (List.mem_of_mem_take hx))
    have hlb := leastB_I hdI
    obtain ⟨z, v, z1, z2, z3, z4, z5, z6⟩ := zig_back (leastB d) hlb.1 hlb.2
    have q1 := spec_block_ev d hdI (by omega) (by omega) z z1 z3
    have q2 := impl_block_ev d hdI (by omega) (by omega) z z2 z3
    obtain ⟨K, hK⟩ : ∃ K, K = z ++ (dS d (leastB d) 4).1 ++ (dS d (leastB d) 4).2 := ⟨_, rfl⟩
    have hq1 : Ev (fun k => spec_l9Block.f k d) K := by rw [hK]; exact q1
    have hq2 : Ev (fun k => impl_blockOf.f k d) K := by rw [hK]; exact q2
    have hKl : K.length ≤ 2000 := by
      obtain ⟨r, _, r2, r3⟩ := block_both d hdI (by omega) (by omega)
      rw [Ev.det hq2 r2]; exact r3
    have hKb : Bytes8 K := by
      rw [hK, List.append_assoc]
      exact Bytes8.app z4 (dS_bytes d (leastB d) 4)
    clear q1 q2
    obtain ⟨B, b1, b2, b3, b4⟩ := ih (p + 128) (by omega) (by omega)
    refine ⟨K ++ B, fun out ho => ⟨?_, ?_⟩, by rw [List.length_append]; omega, Bytes8.app hKb b3, fun pre suf hb hbl => ?_⟩
    · have r1 := (b1 (out ++ K) (by rw [List.length_append]; omega)).1
      refine Ev.step (fun k => by rw [spec_DeltaPack.l0]) ?_
      have hm : spec_l1Min.f (wrap64 ((p : Int) + 128)) ((diffs l).length : Int) = some ((p + n : Nat) : Int) := by
        rw [wrap64_id (by omega) (by omega)]
        unfold spec_l1Min.f
        split <;> (congr 1; omega)
      refine Ev.pos (by omega) (Ev.here hm (Ev.pos (by omega) (Ev.pos (by omega) (Ev.pos (by omega) ?_))))
      rw [wrap64_id (x := (p : Int) + 128) (by omega) (by omega), Int.toNat_natCast, Int.toNat_natCast]
      have e : ((diffs l).take (p + n)).drop p = d := by rw [hd, List.drop_take, Nat.add_sub_cancel_left]
      rw [e]
      refine Ev.bind hq1 (Ev.pos (by omega) ?_)
      have e2 : ((p + 128 : Nat) : Int) = (p : Int) + 128 := by omega
      rw [e2, List.append_assoc] at r1
      exact r1
    · have r2 := (b1 (out ++ K) (by rw [List.length_append]; omega)).2
      refine Ev.step (fun k => by rw [impl_DeltaPack.l0]) ?_
      have hm : mn 128 (((diffs l).drop p).length : Int) = (n : Int) := by
        unfold mn; split <;> omega
      rw [hm, Int.toNat_natCast, ← hd]
      refine Ev.pos (by omega) (Ev.pos (by omega) (Ev.pos (by omega) (Ev.bind hq2 (Ev.pos (by omega) ?_))))
      rw [List.append_assoc] at r2
      rw [List.drop_drop]
      by_cases h128 : n = 128
      · rw [h128]; exact r2
      · have e3 : (diffs l).drop (p + n) = (diffs l).drop (p + 128) := by
          rw [List.drop_eq_nil_of_le (by omega), List.drop_eq_nil_of_le (by omega)]
        rw [e3]; exact r2
    · have e1 : pre ++ (K ++ B) ++ suf = pre ++ K ++ B ++ suf := by simp only [List.append_assoc]
      have e2 : pre ++ (K ++ B) ++ suf = pre ++ z ++ ((dS d (leastB d) 4).1 ++ (dS d (leastB d) 4).2 ++ B ++ suf) := by rw [hK]; simp only [List.append_assoc]
      have e3 : pre ++ (K ++ B) ++ suf = pre ++ K ++ (B ++ suf) := by simp only [List.append_assoc]
      have hg : Ev (fun k => impl_UvarGet.f k (pre ++ (K ++ B) ++ suf) (pre.length : Int)) (v, ((pre.length + z.length : Nat) : Int), true) := by
        have := z6 pre ((dS d (leastB d) 4).1 ++ (dS d (leastB d) 4).2 ++ B ++ suf) (by rw [← e2]; exact hb) (by rw [← e2]; exact hbl)
        rw [← e2] at this
        exact this
      have hnext : Ev (fun k => impl_DeltaRead.l0 k (pre ++ (K ++ B) ++ suf) 4 (l.length : Int) ((8 * 4 : Nat) : Int) (pre ++ (K ++ B) ++ suf) ((pre.length + K.length : Nat) : Int) false (l.take (p + n + 1))) (l, ((pre.length + (K ++ B).length : Nat) : Int), true) := by
        have := b4 (pre ++ K) suf (by rw [← e1]; exact hb) (by rw [← e1]; exact hbl)
        rw [← e1, List.length_append] at this
        have et : l.take (p + 128 + 1) = l.take (p + n + 1) := by
          by_cases h128 : n = 128
          · rw [h128]
          · rw [List.take_of_length_le (by omega), List.take_of_length_le (by omega)]
        rw [et] at this
        rw [List.length_append, ← Nat.add_assoc]
        exact this
      rw [hK] at hnext
      rw [hK] at hb hbl hg e3 ⊢
      exact block_read l hI hl p n hn (by omega) _ hb hbl pre z (B ++ suf) d hd v z5 hg e3 _ hnext
theorem delta_back (l : List Int) (hI : AllI l) (hl : l.length ≤ 2000) : ∃ B : List Int, Ev (fun k => spec_DeltaPack.f k l) (B, true) ∧ Ev (fun k => impl_DeltaPack.f k l) (B, true) ∧ B.length ≤ 100000 ∧
    ∀ x : Int, 0 ≤ x → x ≤ 255 → Ev (fun k => impl_DeltaRead.f k (B ++ [x]) 0) (l, (B.length : Int), true) := by
  have hdl := diffs_length l
  have hdI : AllI (diffs l) := by
    intro x hx
    unfold diffs at hx
    obtain ⟨i, _, rfl⟩ := List.mem_map.1 hx
    exact ⟨wrap64_lo _, wrap64_hi _⟩
  obtain ⟨a, a1, a2, a3, a4, a5⟩ := uvar_back 128 (by omega) (by omega)
  obtain ⟨b, b1, b2, b3, b4, b5⟩ := uvar_back 4 (by omega) (by omega)
  obtain ⟨c, c1, c2, c3, c4, c5⟩ := uvar_back (l.length : Int) (by omega) (by omega)
  have first : ∃ x : Int, (-9223372036854775808 ≤ x ∧ x ≤ 9223372036854775807) ∧ (0 < l.length → x = rd l 0) ∧ (l.length = 0 → x = 0) := by
    by_cases h : 0 < l.length
    · exact ⟨rd l 0, rd_I hI 0, fun _ => rfl, fun h' => absurd h (by omega)⟩
    · exact ⟨0, by omega, fun h' => absurd h' h, fun _ => rfl⟩
  obtain ⟨x, xI, x1, x2⟩ := first
  obtain ⟨z, v, z1, z2, z3, z4, z5, z6⟩ := zig_back x xI.1 xI.2
  obtain ⟨B, p1, p2, p3, p4⟩ := delta_loop_back l hI hl hdI 16 0 (by omega) (by omega)
  obtain ⟨H, hH⟩ : ∃ H, H = a ++ b ++ c ++ z := ⟨_, rfl⟩
  have hHl : H.length = a.length + b.length + c.length + z.length := by rw [hH]; simp only [List.length_append]
  have hHb : Bytes8 H := by rw [hH]; exact Bytes8.app (Bytes8.app (Bytes8.app a4 b4) c4) z4
  obtain ⟨r1, r2⟩ := p1 H (by omega)
  rw [hH] at r1 r2
  have s0 : Ev (fun k => spec_DeltaPack.j0 k l x) (H ++ B, true) := by
    refine Ev.step (fun k => by rw [spec_DeltaPack.j0]) ?_
    rw [hH]
    exact Ev.bind a1 (Ev.bind b1 (Ev.pos (by omega) (Ev.here rfl (Ev.bind c1 (Ev.pos (by rw [List.length_append]; omega) (Ev.here rfl (Ev.bind z1 (Ev.pos (by simp only [List.length_append]; omega) (Ev.bind (spec_Differences_ev l (by omega)) r1)))))))))
  have i0 : Ev (fun k => impl_DeltaPack.j0 k l x) (H ++ B, true) := by
    refine Ev.step (fun k => by rw [impl_DeltaPack.j0]) ?_
    rw [hH]
    exact Ev.bind a2 (Ev.bind b2 (Ev.pos (by omega) (Ev.here rfl (Ev.bind c2 (Ev.pos (by rw [List.length_append]; omega) (Ev.here rfl (Ev.bind z2 (Ev.pos (by simp only [List.length_append]; omega) (Ev.bind (impl_Differences_ev l (by omega)) (by rw [List.drop_zero] at r2; exact r2))))))))))
  refine ⟨H ++ B, ?_, ?_, by rw [List.length_append]; omega, fun y y0 y1 => ?_⟩
  · unfold spec_DeltaPack.f
    by_cases h0 : 0 < l.length
    · rw [← x1 h0]; exact Ev.neg (by omega) (Ev.pos (by omega) (Ev.pos (by omega) s0))
    · rw [x2 (by omega)] at s0; exact Ev.neg (by omega) (Ev.neg (by omega) s0)
  · unfold impl_DeltaPack.f
    by_cases h0 : 0 < l.length
    · rw [← x1 h0]; exact Ev.neg (by omega) (Ev.pos (by omega) (Ev.pos (by omega) i0))
    · rw [x2 (by omega)] at i0; exact Ev.neg (by omega) (Ev.neg (by omega) i0)
  · obtain ⟨W, hW⟩ : ∃ W, W = H ++ B ++ [y] := ⟨_, rfl⟩
    have hWb : Bytes8 W := by rw [hW]; exact Bytes8.app (Bytes8.app hHb p3) (fun q hq => by rw [List.mem_singleton.1 hq]; exact ⟨y0, y1⟩)
    have hWl : W.length = H.length + B.length + 1 := by rw [hW, List.length_append, List.length_append]; rfl
    have w1 : W = [] ++ a ++ (b ++ c ++ z ++ B ++ [y]) := by rw [hW, hH]; simp only [List.append_assoc, List.nil_append]
    have w2 : W = a ++ b ++ (c ++ z ++ B ++ [y]) := by rw [hW, hH]; simp only [List.append_assoc]
    have w3 : W = (a ++ b) ++ c ++ (z ++ B ++ [y]) := by rw [hW, hH]; simp only [List.append_assoc]
    have w4 : W = (a ++ b ++ c) ++ z ++ (B ++ [y]) := by rw [hW, hH]; simp only [List.append_assoc]
    have g1 := a5 [] (b ++ c ++ z ++ B ++ [y]) (by rw [← w1]; exact hWb) (by rw [← w1]; omega)
    have g2 := b5 a (c ++ z ++ B ++ [y]) (by rw [← w2]; exact hWb) (by rw [← w2]; omega)
    have g3 := c5 (a ++ b) (z ++ B ++ [y]) (by rw [← w3]; exact hWb) (by rw [← w3]; omega)
    have g4 := z6 (a ++ b ++ c) (B ++ [y]) (by rw [← w4]; exact hWb) (by rw [← w4]; omega)
    have g5 := p4 H [y] (by rw [← hW]; exact hWb) (by rw [← hW]; omega)
    rw [← hW] at g5 ⊢
    rw [← w1] at g1
    rw [← w2] at g2
    rw [← w3] at g3
    rw [← w4] at g4
    have l1 : (([] : List Int).length + a.length : Nat) = a.length := by simp
    have l3 : (a ++ b).length = a.length + b.length := List.length_append
    have l4 : (a ++ b ++ c).length = a.length + b.length + c.length := by rw [List.length_append, List.length_append]
    rw [l1] at g1
    rw [l3] at g3
    rw [l4] at g4
    clear w1 w2 w3 w4 hW a1 a2 a5 b1 b2 b5 c1 c2 c5 z1 z2 z6 p1 p4 r1 r2 s0 i0
    have h8 : wrap64 (Int.tdiv 128 4) = ((8 * 4 : Nat) : Int) := by
      rw [show Int.tdiv 128 4 = 32 from by decide, wrap64_id (by decide) (by decide)]; rfl
    have G : GoodN 128 4 (l.length : Int) := ⟨by omega, by decide, by omega, by decide, by rw [h8]; decide, by omega⟩
    refine impl_delta W 0 (by omega) (uvar_yes [] g1) (uvar_yes [] g2) (uvar_yes [] g3) (uvar_yes [] g4) z5 _ (fun g => absurd ⟨rfl, G⟩ g) (fun _ _ h => ?_) (fun _ _ h => ?_)
    · dsimp only at h ⊢
      have hl0 : l = [] := List.eq_nil_of_length_eq_zero (by omega)
      have hB0 : B.length = 0 := by
        have t := p2
        have : Ev (fun k => impl_DeltaRead.l0 k W 4 (l.length : Int) ((8 * 4 : Nat) : Int) W (H.length : Int) false (l.take (0 + 1))) (l, (H.length : Int), true) := by
          rw [hl0]
          refine Ev.step (fun k => by rw [impl_DeltaRead.l0]) ?_
          refine Ev.neg (by simp) ?_
          exact Ev.step (fun k => by rw [impl_DeltaRead.j3]) (by exact Ev.neg Bool.false_ne_true (Ev.neg Bool.false_ne_true (Ev.now _)))
        have := congrArg (fun r : List Int × Int × Bool => r.2.1) (Ev.det this g5)
        dsimp only at this
        omega
      rw [hl0, List.length_append, hB0, hHl]
      rfl
    · dsimp only at h ⊢
      have hpos : 0 < l.length := by omega
      have et : l.take (0 + 1) = [x] := by
        rw [take_one l 0 hpos, x1 hpos]; rfl
      rw [et] at g5
      rw [h8, List.length_append, ← hHl]
      exact g5
theorem sameInts_ev (l : List Int) (hl : l.length ≤ 1048576) : Ev (fun k => laws_sameInts.f k l l) true := by
  have key : ∀ (d i : Nat), i + d = l.length → Ev (fun k => laws_sameInts.l0 k l l (i : Int)) true := by
    intro d
    induction d with
    | zero => intro i hi; exact Ev.step (fun k => by rw [laws_sameInts.l0]) (by exact Ev.neg (by omega) (Ev.now _))
    | succ d ih =>
      intro i hi
      have h := ih (i + 1) (by omega)
      refine Ev.step (fun k => by rw [laws_sameInts.l0]) ?_
      rw [wrap64_id (x := (i : Int) + 1) (by omega) (by omega)]
      exact Ev.pos (by omega) (Ev.pos (by omega) (Ev.pos (by omega) (Ev.pos rfl (by simpa using h))))
  unfold laws_sameInts.f
  exact Ev.pos rfl (key l.length 0 (by omega))
theorem sum_ev (l B : List Int) (hI : AllI l) (hl : l.length ≤ 2000) : ∀ (d i : Nat), i + d = l.length - 1 → ∀ s : Int, (0 < l.length → s = rd l (i : Int)) →
    Ev (fun k => laws_FnDelta.l0 k l B l (B.length : Int) true (diffs l) s (i : Int)) true := by
  have hdl := diffs_length l
  have wsum : ∀ a x : Int, -9223372036854775808 ≤ x → x ≤ 9223372036854775807 → wrap64 (a + wrap64 (x - a)) = x := by
    intro a x h0 h1
    have q : ∃ k : Int, wrap64 (x - a) = x - a + 18446744073709551616 * k := ⟨(wrap64 (x - a) - (x - a)) / 18446744073709551616, by unfold wrap64; omega⟩
    obtain ⟨k, e⟩ := q
    rw [e]; unfold wrap64; omega
  intro d
  induction d with
  | zero =>
    intro i hi s hs
    refine Ev.step (fun k => by rw [laws_FnDelta.l0]) ?_
    refine Ev.neg (by omega) (Ev.pos rfl (Ev.pos rfl (Ev.bind (sameInts_ev l (by omega)) (Ev.pos rfl ?_))))
    have w : Unit → wrap64 ((l.length : Int) - 1) = (l.length : Int) - 1 := fun _ => wrap64_id (by omega) (by omega)
    rw [w ()]
    by_cases h0 : (l.length : Int) = 0
    · exact Ev.pos h0 (Ev.pos (by omega) (Ev.now _))
    · refine Ev.neg h0 (Ev.pos (by omega) (Ev.pos (by omega) (Ev.pos (by omega) (Ev.const ?_))))
      have e : (i : Int) = (l.length : Int) - 1 := by omega
      rw [hs (by omega), e]
      simp
  | succ d ih =>
    intro i hi s hs
    have hx := rd_I hI ((i + 1 : Nat) : Int)
    have h := ih (i + 1) (by omega) (rd l ((i + 1 : Nat) : Int)) (fun _ => rfl)
    refine Ev.step (fun k => by rw [laws_FnDelta.l0]) ?_
    refine Ev.pos (by omega) (Ev.pos (by omega) ?_)
    have e1 : ((i + 1 : Nat) : Int) = (i : Int) + 1 := by omega
    rw [hs (by omega), diffs_rd l i (by omega), wsum _ _ hx.1 hx.2, wrap64_id (x := (i : Int) + 1) (by omega) (by omega), ← e1]
    exact h
theorem FnDelta : ∀ (x0 : List (Int)), (x0.length ≤ maxLen ∧ ∀ y ∈ x0, (Lit.int .u8 y).wf = true) → ∃ k, laws_FnDelta.f k x0 = some true := by
  intro l hx
  refine Ev.rounds ?_
  unfold laws_FnDelta.f
  by_cases hb : (l.length : Int) > 1048576
  · exact Ev.here (a := true) (by unfold laws_big.f; simp [hb]) (Ev.pos rfl (Ev.now _))
  refine Ev.here (a := false) (by unfold laws_big.f; simp [hb]) (Ev.neg (by decide) ?_)
  obtain ⟨d, e, hI, hd⟩ := drawDelta_ev l (by omega)
  refine Ev.bind e ?_
  by_cases h2 : d.length ≤ 2000
  case neg =>
    have es : Ev (fun k => spec_DeltaPack.f k d) (([], false) : List Int × Bool) := by unfold spec_DeltaPack.f; exact Ev.pos (by omega) (Ev.now _)
    have ei : Ev (fun k => impl_DeltaPack.f k d) (([], false) : List Int × Bool) := by unfold impl_DeltaPack.f; exact Ev.pos (by omega) (Ev.now _)
    exact Ev.bind ei (Ev.bind es (Ev.neg (by decide) (Ev.neg Bool.false_ne_true (Ev.now _))))
  obtain ⟨B, es, ei, hB, hr⟩ := delta_back d hI h2
  obtain ⟨a, ha⟩ : ∃ a : Int, laws_at.f l 1 = some a := by
    unfold laws_at.f
    by_cases h : (1 : Int) < (l.length : Int)
    · exact ⟨_, by rw [if_pos h, if_pos (by decide)]⟩
    · exact ⟨_, by rw [if_neg h]⟩
  have hrd := hr (a % 256) (by omega) (by omega)
  refine Ev.bind ei (Ev.bind es (Ev.neg (by simp) (Ev.pos rfl (Ev.here rfl (Ev.pos (by simp; omega) (Ev.here rfl (Ev.here ha (Ev.pos (by simp; omega) ?_))))))))
  rw [List.nil_append]
  refine Ev.bind hrd (Ev.bind (impl_Differences_ev d (by omega)) ?_)
  have j0 : ∀ s : Int, (0 < d.length → s = rd d 0) → Ev (fun k => laws_FnDelta.j0 k d B d (B.length : Int) true (diffs d) s) true := by
    intro s hs
    refine Ev.step (fun k => by rw [laws_FnDelta.j0]) ?_
    exact sum_ev d B hI h2 (d.length - 1) 0 (by omega) s hs
  by_cases h0 : (d.length : Int) > 0
  · exact Ev.pos h0 (Ev.pos (by omega) (j0 _ (fun _ => rfl)))
  · exact Ev.neg h0 (j0 _ (fun h => absurd h (by omega)))
end Go.Proofs.Ytgcanbeckamjeaa.Pure
