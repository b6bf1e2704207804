/- The pure statement of FnExactFrontRead: the printed functions answer as the law says, for all arguments. No condition. -/
import Derived.Test.YtgcanbeckamjeaaVFnExactFrontRead
import Derived.Test.YtgcanbeckamjeaaPFnExactFrontReadx
import Derived.Test.YtgcanbeckamjeaaArgFnExactFrontRead
namespace Go.Proofs.Ytgcanbeckamjeaa.Pure
open Go.RowKit Go.Proofs.Ytgcanbeckamjeaa.PFnExactFrontRead Go.Proofs.Ytgcanbeckamjeaa.Core Go.Proofs.YtgcanbeckamjeaaW.PrintWords Go.Proofs.YtgcanbeckamjeaaW.PrintLast Go.Proofs.YtgcanbeckamjeaaW.PrintMore Go.Proofs.YtgcanbeckamjeaaW.PrintMore2 Go.Proofs.Ytgcanbeckamjeaa.AFnExactFrontRead
set_option linter.unusedVariables false
set_option linter.unusedSimpArgs false
theorem toByteS_ev (l : List Int) (hl : l.length ≤ 281474976710656) : Ev (fun k => laws_toByteS.f k l) l := by
  unfold laws_toByteS.f
  refine Ev.pos (by omega) (Ev.pos (by omega) ?_)
  have := copy_loop (fun k out i => laws_toByteS.l0 k l out i) l id (fun out i r h ho hr => ?_) (fun out ho => ?_) (List.replicate ((l.length : Int)).toNat 0) (by simp)
  · simpa using this
  · refine Ev.step (fun k => by rw [laws_toByteS.l0]) ?_
    refine Ev.pos (by omega) (Ev.pos (by omega) (Ev.pos (by omega) ?_))
    rw [wrap64_id (by omega) (by omega), rd_eq (by simpa using h)]
    simpa using hr
  · exact Ev.step (fun k => by rw [laws_toByteS.l0]) (by exact Ev.neg (by omega) (Ev.now _))
theorem eqByteS_ev (l : List Int) (hl : l.length ≤ 9223372036854775806) : Ev (fun k => laws_eqByteS.f k l l) true := by
  unfold laws_eqByteS.f
  refine Ev.pos rfl ?_
  refine same_loop (fun k i => laws_eqByteS.l0 k l l i) l.length (fun i r h hr => ?_) ?_
  · refine Ev.step (fun k => by rw [laws_eqByteS.l0]) ?_
    refine Ev.pos (by omega) (Ev.pos (by omega) (Ev.pos (by omega) (Ev.pos rfl ?_)))
    rw [wrap64_id (by omega) (by omega)]
    simpa using hr
  · exact Ev.step (fun k => by rw [laws_eqByteS.l0]) (by exact Ev.neg (by omega) (Ev.now _))
theorem markByteS_evm (l : List Int) (c : Int) (hc : 0 ≤ c) (hl : c + l.length ≤ 9223372036854775806) : ∃ m ys, m = c + l.length ∧ Ev (fun k => laws_markByteS.f k l c) (m, ys) ∧ True := by
  have key : ∀ (d i : Nat) (xs : List Int) (c : Int), 0 ≤ c → i + d = xs.length → c + d ≤ 9223372036854775806 → xs.length ≤ 9223372036854775806 → ∃ ys, Ev (fun k => laws_markByteS.l0 k xs c (i : Int)) (c + d, ys) := by
    intro d
    induction d with
    | zero => intro i xs c h0 hi hc hx; exact ⟨xs, Ev.cast (Ev.step (fun k => by rw [laws_markByteS.l0]) (by exact Ev.neg (by omega) (Ev.now _))) (by simp)⟩
    | succ d ih =>
      intro i xs c h0 hi hc hx
      obtain ⟨ys, hy⟩ := ih (i + 1) (xs.set i (c % 256)) (c + 1) (by omega) (by simp; omega) (by omega) (by simpa using hx)
      refine ⟨ys, Ev.step (fun k => by rw [laws_markByteS.l0]) (Ev.pos (by omega) (Ev.pos (by omega) ?_))⟩
      rw [wrap64_id (x := c + 1) (by omega) (by omega), wrap64_id (x := (i : Int) + 1) (by omega) (by omega)]
      have e : c + 1 + (d : Int) = c + ((d + 1 : Nat) : Int) := by omega
      rw [e] at hy
      simpa using hy
  obtain ⟨ys, hy⟩ := key l.length 0 l c hc (by omega) hl (by omega)
  exact ⟨_, ys, rfl, hy, trivial⟩
theorem eqVal_ev (a : S59) : laws_eqVal.f a.f0 a.f1 a.f0 a.f1 = some true := by
  unfold laws_eqVal.f
  simp
theorem eqValS_ev (l : List S59) (hl : l.length ≤ 9223372036854775806) : Ev (fun k => laws_eqValS.f k l l) true := by
  unfold laws_eqValS.f
  refine Ev.pos rfl ?_
  refine same_loop (fun k i => laws_eqValS.l0 k l l i) l.length (fun i r h hr => ?_) ?_
  · refine Ev.step (fun k => by rw [laws_eqValS.l0]) ?_
    refine Ev.pos (by omega) (Ev.pos (by omega) (Ev.pos (by omega) (Ev.here (eqVal_ev _) (Ev.pos rfl ?_))))
    rw [wrap64_id (by omega) (by omega)]
    simpa using hr
  · exact Ev.step (fun k => by rw [laws_eqValS.l0]) (by exact Ev.neg (by omega) (Ev.now _))
theorem markText_l0_ev : ∀ (n : Nat) (c : Int) (out : ByteArray), 0 ≤ c → c < 10 ^ n → c ≤ 9223372036854775807 → out.size + n + 1 ≤ 1000 → ∃ t, Ev (fun k => laws_markText.l0 k c out) t := by
  intro n
  induction n with
  | zero =>
    intro c out h0 h1 hb hs
    obtain rfl : c = 0 := by simp at h1; omega
    exact ⟨_, Ev.step (fun k => by rw [laws_markText.l0]) (by exact Ev.neg (by omega) (Ev.pos (by omega) (Ev.now _)))⟩
  | succ n ih =>
    intro c out h0 h1 hb hs
    by_cases hc : c > 0
    · have h2 : c / 10 < 10 ^ n := by
        rw [Int.pow_succ] at h1
        exact Int.ediv_lt_of_lt_mul (by omega) h1
      obtain ⟨t, ht⟩ := ih (c / 10) (strOfNums [(wrap64 (48 + (Int.tmod c 10))) % 256] ++ out) (by omega) h2 (by omega) (by
        rw [ByteArray.size_append, strOfNums_size]; simp; omega)
      refine ⟨t, Ev.step (fun k => by rw [laws_markText.l0]) ?_⟩
      refine Ev.pos hc (Ev.here rfl (Ev.pos (by rw [strOfNums_size]; simp; omega) ?_))
      rw [Int.tdiv_eq_ediv_of_nonneg h0, wrap64_id (x := c / 10) (by omega) (by omega)]
      exact ht
    · obtain rfl : c = 0 := by omega
      exact ⟨_, Ev.step (fun k => by rw [laws_markText.l0]) (by exact Ev.neg (by omega) (Ev.pos (by omega) (Ev.now _)))⟩
theorem markText_ev (c : Int) (h : c ≤ 9223372036854775807) : ∃ t, Ev (fun k => laws_markText.f k c) t := by
  unfold laws_markText.f
  by_cases hc : c ≤ 0
  · exact ⟨_, Ev.pos hc (Ev.now _)⟩
  · obtain ⟨t, ht⟩ := markText_l0_ev 19 c (⟨#[]⟩ : ByteArray) (by omega) (by omega) h (by decide)
    exact ⟨t, Ev.neg hc ht⟩
noncomputable def mtxt (c : Int) : ByteArray := if h : c ≤ 9223372036854775807 then (markText_ev c h).choose else ByteArray.empty
theorem mtxt_ev {c : Int} (h : c ≤ 9223372036854775807) : Ev (fun k => laws_markText.f k c) (mtxt c) := by
  unfold mtxt
  rw [dif_pos h]
  exact (markText_ev c h).choose_spec
theorem markValS_ev (l : List S59) (c : Int) (hc : 0 ≤ c) (hl : c + 2 * l.length ≤ 9223372036854775806) : ∃ m ys, m = c + 2 * l.length ∧ Ev (fun k => laws_markValS.f k l c) (m, ys) ∧ Ev (fun k => laws_heldValS.f k ys c) m := by
  obtain ⟨m, ys, _, hm, h1, h2⟩ := marks_held 2 9223372036854775807 (by omega) (fun c (_ : S59) => (⟨c, mtxt (c + 1)⟩ : S59)) (fun k xs c i => laws_markValS.l0 k xs c i) (fun k xs c i => laws_heldValS.l0 k xs c i)
    (fun xs c i r h hb h0 hB hr => by
      refine Ev.step (fun k => by rw [laws_markValS.l0]) ?_
      refine Ev.pos (by omega) (Ev.pos (by omega) ?_)
      rw [wrap64_id (x := c + 1) (by omega) (by omega), wrap64_id (x := c + 1 + 1) (by omega) (by omega), wrap64_id (x := (i : Int) + 1) (by omega) (by omega)]
      refine Ev.here rfl ?_
      refine Ev.bind (mtxt_ev (by omega)) ?_
      have e : c + 1 + 1 = c + 2 := by omega
      simpa [rd_T59, h, e] using hr)
    (fun xs c => Ev.step (fun k => by rw [laws_markValS.l0]) (by exact Ev.neg (by omega) (Ev.now _)))
    (fun xs c i r z h hb h0 hB hz hr => by
      have e : rd_T59 xs (i : Int) = xs[i] := getD_eq (by simpa using h)
      refine Ev.step (fun k => by rw [laws_heldValS.l0]) ?_
      refine Ev.pos (by omega) (Ev.pos (by omega) ?_)
      rw [wrap64_id (x := c + 1) (by omega) (by omega), wrap64_id (x := c + 1 + 1) (by omega) (by omega), wrap64_id (x := (i : Int) + 1) (by omega) (by omega)]
      refine Ev.pos (by rw [e, hz]) ?_
      refine Ev.bind (mtxt_ev (by omega)) (Ev.pos (by rw [e, hz]) ?_)
      have e : c + 1 + 1 = c + 2 := by omega
      simpa [e] using hr)
    (fun xs c => Ev.step (fun k => by rw [laws_heldValS.l0]) (by exact Ev.neg (by omega) (Ev.now _)))
    l c hc (by omega)
  exact ⟨m, ys, by omega, h1, h2⟩
theorem l1In_same (x lo hi : Int) : (if x ≥ lo then some (decide (x ≤ hi)) else some false) = some (decide (lo ≤ x ∧ x ≤ hi)) := by
  by_cases h : x ≥ lo
  · rw [if_pos h]; congr 1; simp; omega
  · rw [if_neg h]; congr 1; symm; simp; omega
theorem within_some (x lo hi : Int) : impl_within.f x lo hi = some (decide (lo ≤ x ∧ x ≤ hi)) := by unfold impl_within.f; exact l1In_same x lo hi
theorem l1In_some (x lo hi : Int) : spec_l1In.f x lo hi = some (decide (lo ≤ x ∧ x ≤ hi)) := by unfold spec_l1In.f; exact l1In_same x lo hi
theorem bv_ofInt_wrap (x : Int) : BitVec.ofInt 64 (wrap64 x) = BitVec.ofInt 64 x := by
  apply BitVec.eq_of_toNat_eq
  rw [BitVec.toNat_ofInt, BitVec.toNat_ofInt]
  congr 1
  unfold wrap64; omega
theorem or_wrap (a c : Nat) (ha : a < 2 ^ 64) (hc : c < 2 ^ 64) : Go.bits .or .i64 (wrap64 (a : Int)) (wrap64 (c : Int)) = wrap64 ((a ||| c : Nat) : Int) := by
  have e : Go.bits .or .i64 (wrap64 (a : Int)) (wrap64 (c : Int)) = IntKind.i64.wrap (((BitVec.ofInt 64 (wrap64 (a : Int)) ||| BitVec.ofInt 64 (wrap64 (c : Int))).toNat : Nat) : Int) := rfl
  rw [e, bv_ofInt_wrap, bv_ofInt_wrap, BitVec.ofInt_natCast, BitVec.ofInt_natCast, BitVec.toNat_or, BitVec.toNat_ofNat, BitVec.toNat_ofNat, Nat.mod_eq_of_lt ha, Nat.mod_eq_of_lt hc, IntKind.wrap_i64]
  unfold wrap64; omega
theorem or_digit (m a d : Nat) (ha : a < 2 ^ m) : a ||| d * 2 ^ m = a + d * 2 ^ m := by
  have := Nat.shiftLeft_add_eq_or_of_lt ha d
  rw [Nat.shiftLeft_eq] at this
  rw [Nat.or_comm, ← this, Nat.add_comm]
theorem emod_digit (x p : Int) (hp : 0 < p) : x % (p * 256) = x % p + (x / p) % 256 * p := by
  have h1 := Int.mul_ediv_add_emod x p
  have h2 := Int.mul_ediv_add_emod (x / p) 256
  have a0 := Int.emod_nonneg x (show p ≠ 0 by omega)
  have a1 := Int.emod_lt_of_pos x hp
  have b0 := Int.emod_nonneg (x / p) (show (256 : Int) ≠ 0 by omega)
  have b1 := Int.emod_lt_of_pos (x / p) (show (0 : Int) < 256 by omega)
  have e : x = (x % p + (x / p) % 256 * p) + (p * 256) * (x / p / 256) := by
    have e3 : p * (x / p) = p * (256 * (x / p / 256) + x / p % 256) := by rw [h2]
    rw [Int.mul_add] at e3
    have e4 : p * (256 * (x / p / 256)) = (p * 256) * (x / p / 256) := by rw [Int.mul_assoc]
    have e5 : p * (x / p % 256) = x / p % 256 * p := Int.mul_comm _ _
    omega
  have m0 : 0 ≤ (x / p) % 256 * p := Int.mul_nonneg b0 (by omega)
  have m1 : (x / p) % 256 * p ≤ 255 * p := Int.mul_le_mul_of_nonneg_right (by omega) (by omega)
  generalize hr : x % p + (x / p) % 256 * p = r at *
  conv => lhs; rw [e]
  rw [Int.add_mul_emod_self_left, Int.emod_eq_of_lt (by omega) (by omega)]
theorem bits_and_mask (x m : Int) (k : Nat) (hk : k ≤ 63) (hm : m = 2 ^ k - 1) : Go.bits .and .i64 x m = x % 2 ^ k := by
  have p0 : (0 : Int) < 2 ^ k := Int.pow_pos (by omega)
  have eP : (2 : Int) ^ k = ((2 ^ k : Nat) : Int) := by push_cast; rfl
  have h63 : 2 ^ k ≤ 2 ^ 63 := Nat.pow_le_pow_right (by omega) hk
  have n0 : 0 < 2 ^ k := Nat.pow_pos (by omega)
  have e : Go.bits .and .i64 x m = IntKind.i64.wrap ((((BitVec.ofInt 64 x) &&& (BitVec.ofInt 64 m)).toNat : Nat) : Int) := rfl
  rw [e, BitVec.toNat_and, BitVec.toNat_ofInt, BitVec.toNat_ofInt]
  have em : (m % ((2 ^ 64 : Nat) : Int)).toNat = 2 ^ k - 1 := by
    rw [hm, eP, Int.emod_eq_of_lt (by omega) (by omega)]; omega
  rw [em, Nat.and_two_pow_sub_one_eq_mod]
  have hlt : (x % ((2 ^ 64 : Nat) : Int)).toNat % 2 ^ k < 2 ^ k := Nat.mod_lt _ n0
  rw [wraps_i64 _ (by omega) (by omega), eP, Int.natCast_emod]
  rw [Int.toNat_of_nonneg (Int.emod_nonneg _ (by omega))]
  apply Int.emod_emod_of_dvd
  refine Int.natCast_dvd_natCast.2 (Nat.pow_dvd_pow 2 (by omega))
theorem u64_id {x : Int} (h0 : 0 ≤ x) (h1 : x < 18446744073709551616) : IntKind.u64.wrap x = x := by rw [IntKind.wrap_u64]; omega
theorem bits_and_mask_u (x m : Int) (k : Nat) (hk : k ≤ 63) (hm : m = 2 ^ k - 1) : Go.bits .and .u64 x m = x % 2 ^ k := by
  have p0 : (0 : Int) < 2 ^ k := Int.pow_pos (by omega)
  have eP : (2 : Int) ^ k = ((2 ^ k : Nat) : Int) := by push_cast; rfl
  have h63 : 2 ^ k ≤ 2 ^ 63 := Nat.pow_le_pow_right (by omega) hk
  have n0 : 0 < 2 ^ k := Nat.pow_pos (by omega)
  have e : Go.bits .and .u64 x m = IntKind.u64.wrap ((((BitVec.ofInt 64 x) &&& (BitVec.ofInt 64 m)).toNat : Nat) : Int) := rfl
  rw [e, BitVec.toNat_and, BitVec.toNat_ofInt, BitVec.toNat_ofInt]
  have em : (m % ((2 ^ 64 : Nat) : Int)).toNat = 2 ^ k - 1 := by
    rw [hm, eP, Int.emod_eq_of_lt (by omega) (by omega)]; omega
  rw [em, Nat.and_two_pow_sub_one_eq_mod]
  have hlt : (x % ((2 ^ 64 : Nat) : Int)).toNat % 2 ^ k < 2 ^ k := Nat.mod_lt _ n0
  rw [u64_id (by omega) (by omega), eP, Int.natCast_emod]
  rw [Int.toNat_of_nonneg (Int.emod_nonneg _ (by omega))]
  apply Int.emod_emod_of_dvd
  refine Int.natCast_dvd_natCast.2 (Nat.pow_dvd_pow 2 (by omega))
theorem and_u8_127 (c : Int) (h0 : 0 ≤ c) (h1 : c ≤ 255) : Go.bits .and .u8 c 127 = c % 128 := by
  obtain ⟨n, rfl⟩ := Int.eq_ofNat_of_zero_le h0
  have hn : n < 2 ^ 8 := by omega
  have e := (bits_nat .u8 8 (by decide) (fun m h0 h1 => wraps_u8 m h0 h1) n 127 hn (by decide)).1
  have e2 : n &&& 127 = n % 128 := Nat.and_two_pow_sub_one_eq_mod n 7
  have e3 : Go.bits .and .u8 (n : Int) 127 = ((n &&& 127 : Nat) : Int) := e
  rw [e3, e2]; push_cast; rfl
theorem shl_i64_nat (d j : Nat) (hj : j ≤ 64) : shl .i64 (d : Int) (j : Int) = wrap64 ((d * 2 ^ j : Nat) : Int) := by
  unfold shl
  have e2 : min ((j : Int)).toNat IntKind.i64.bits = j := by
    have : IntKind.i64.bits = 64 := rfl
    omega
  rw [e2, IntKind.wrap_i64]
  push_cast
  unfold wrap64; rfl
theorem shl_u64_nat (d j : Nat) (hj : j ≤ 64) (h : d * 2 ^ j < 2 ^ 64) : shl .u64 (d : Int) (j : Int) = ((d * 2 ^ j : Nat) : Int) := by
  unfold shl
  have e2 : min ((j : Int)).toNat IntKind.u64.bits = j := by
    have : IntKind.u64.bits = 64 := rfl
    omega
  have e3 : ((d : Int) * 2 ^ j) = ((d * 2 ^ j : Nat) : Int) := by push_cast; rfl
  rw [e2, e3, u64_id (by omega) (by omega)]
theorem or_u64_nat (a c : Nat) (ha : a < 2 ^ 64) (hc : c < 2 ^ 64) : Go.bits .or .u64 (a : Int) (c : Int) = ((a ||| c : Nat) : Int) :=
  (bits_nat .u64 64 (by decide) (fun m h0 h1 => u64_id h0 (by simpa using h1)) a c ha hc).2
/-- What a varint that is read comes to: a number, the place behind it, whether there is one. -/
def UG (b : List Int) (at_ : Int) (r : Int × Int × Bool) : Prop := (-9223372036854775808 ≤ r.1 ∧ r.1 ≤ 9223372036854775807) ∧ (r.2.2 = true → at_ < r.2.1 ∧ r.2.1 ≤ b.length) ∧ (r.2.2 = false → r = (0, 0, false))
theorem UG_bad (b : List Int) (at_ : Int) : UG b at_ (0, 0, false) := ⟨by simp, by simp, fun _ => rfl⟩
/-- The seven bits of a byte, put into their place: both sides. -/
theorem uv_step (k X : Nat) (hk : k ≤ 9) (hX : X < 2 ^ (7 * k)) (d : Int) (h0 : 0 ≤ d) (h1 : d ≤ 255) (hc : k ≤ 8 ∨ d ≤ 1) :
    Go.bits .or .i64 (wrap64 (X : Int)) (shl .i64 (Go.bits .and .i64 d 127) (wrap64 (7 * (k : Int)))) = wrap64 ((X + (d % 128).toNat * 2 ^ (7 * k) : Nat) : Int) ∧
    Go.bits .or .u64 (X : Int) (shl .u64 (IntKind.u64.wrap (Go.bits .and .u8 d 127)) (wrap64 (7 * (k : Int)))) = ((X + (d % 128).toNat * 2 ^ (7 * k) : Nat) : Int) := by
  have hD : d % 128 = (((d % 128).toNat : Nat) : Int) := by omega
  have hD1 : (d % 128).toNat < 128 := by omega
  have hD2 : d ≤ 1 → (d % 128).toNat ≤ 1 := by omega
  have w : wrap64 (7 * (k : Int)) = ((7 * k : Nat) : Int) := by rw [wrap64_id (by omega) (by omega)]; push_cast; rfl
  have e1 : Go.bits .and .i64 d 127 = d % 128 := bits_and_mask d 127 7 (by omega) rfl
  have e2 := and_u8_127 d h0 h1
  rw [w, e1, e2, hD]
  generalize (d % 128).toNat = D at hD1 hD2
  have hj : 7 * k ≤ 63 := by omega
  have h63 : 2 ^ (7 * k) ≤ 2 ^ 63 := Nat.pow_le_pow_right (by omega) hj
  have h56 : k ≤ 8 → 2 ^ (7 * k) ≤ 2 ^ 56 := fun h => Nat.pow_le_pow_right (by omega) (by omega)
  generalize hJ : 7 * k = J at *
  have hS : D * 2 ^ J < 2 ^ 64 := by
    rcases hc with h | h
    · have := h56 h
      have : D * 2 ^ J ≤ 127 * 2 ^ 56 := Nat.mul_le_mul (by omega) this
      omega
    · have : D * 2 ^ J ≤ 1 * 2 ^ J := Nat.mul_le_mul_right _ (hD2 h)
      omega
  have hX2 : X < 2 ^ 64 := by omega
  have eOr : X ||| D * 2 ^ J = X + D * 2 ^ J := or_digit J X D hX
  constructor
  · rw [shl_i64_nat D J (by omega), or_wrap X (D * 2 ^ J) hX2 hS, eOr, Int.toNat_natCast]
  · rw [u64_id (by omega) (by omega), shl_u64_nat D J (by omega) hS, or_u64_nat X (D * 2 ^ J) hX2 hS, eOr, Int.toNat_natCast]
theorem uv_spec (b : List Int) (hl : b.length ≤ 1048576) (at_ x d : Int) (k : Nat) (hk : k ≤ 9) (a0 : 0 ≤ at_) (hin : at_ + k < b.length) (hd : rd b (at_ + (k : Int)) = d) (h0 : 0 ≤ d) (h1 : d ≤ 255) (r : Int × Int × Bool)
    (h : Ev (fun n => if d < 128 then (if (k : Int) = 9 then (if d > 1 then (some ((0 : Int), (0 : Int), false)) else (some (Go.bits .or .i64 x (shl .i64 (Go.bits .and .i64 d 127) (wrap64 (7 * (k : Int)))), at_ + k + 1, true))) else (some (Go.bits .or .i64 x (shl .i64 (Go.bits .and .i64 d 127) (wrap64 (7 * (k : Int)))), at_ + k + 1, true))) else (spec_UvarGet.l0 n b at_ (Go.bits .or .i64 x (shl .i64 (Go.bits .and .i64 d 127) (wrap64 (7 * (k : Int))))) ((k + 1 : Nat) : Int))) r) :
    Ev (fun n => spec_UvarGet.l0 n b at_ x (k : Int)) r := by
  have w1 : wrap64 (at_ + (k : Int)) = at_ + k := wrap64_id (by omega) (by omega)
  have w2 : wrap64 (at_ + (k : Int) + 1) = at_ + k + 1 := wrap64_id (by omega) (by omega)
  have w3 : wrap64 d = d := wrap64_id (by omega) (by omega)
  have w4 : wrap64 ((k : Int) + 1) = ((k + 1 : Nat) : Int) := by rw [wrap64_id (by omega) (by omega)]; push_cast; rfl
  have w5 : 0 ≤ wrap64 (7 * (k : Int)) := by rw [wrap64_id (by omega) (by omega)]; omega
  refine Ev.step (fun k => by rw [spec_UvarGet.l0]) ?_
  refine Ev.pos (by omega) ?_
  refine Ev.step (fun k => by rw [spec_UvarGet.j2]) ?_
  rw [w1, hd, w3, w2, w4]
  exact Ev.pos (decide_eq_true hin) (Ev.pos (by omega) (Ev.pos hin (Ev.pos w5 h)))
theorem uv_impl (b : List Int) (hl : b.length ≤ 1048576) (at_ x d : Int) (k : Nat) (hk : k ≤ 9) (a0 : 0 ≤ at_) (hin : at_ + k < b.length) (hd : rd b (at_ + (k : Int)) = d) (r : Int × Int × Bool) (bb : Bool) (hbb : bb = decide ((k : Int) = 9 ∧ d > 1))
    (h : Ev (fun n => if bb = true then (some ((0 : Int), (0 : Int), false)) else (if d < 128 then (some (wrap64 (Go.bits .or .u64 x (shl .u64 (IntKind.u64.wrap (Go.bits .and .u8 d 127)) (wrap64 (7 * (k : Int))))), at_ + k + 1, true)) else (impl_UvarGet.l0 n b at_ (Go.bits .or .u64 x (shl .u64 (IntKind.u64.wrap (Go.bits .and .u8 d 127)) (wrap64 (7 * (k : Int))))) ((k + 1 : Nat) : Int)))) r) :
    Ev (fun n => impl_UvarGet.l0 n b at_ x (k : Int)) r := by
  have w1 : wrap64 (at_ + (k : Int)) = at_ + k := wrap64_id (by omega) (by omega)
  have w2 : wrap64 (at_ + (k : Int) + 1) = at_ + k + 1 := wrap64_id (by omega) (by omega)
  have w4 : wrap64 ((k : Int) + 1) = ((k + 1 : Nat) : Int) := by rw [wrap64_id (by omega) (by omega)]; push_cast; rfl
  have w5 : 0 ≤ wrap64 (7 * (k : Int)) := by rw [wrap64_id (by omega) (by omega)]; omega
  have w6 : wrap64 ((b.length : Int) - at_) = b.length - at_ := wrap64_id (by omega) (by omega)
  have hj2 : Ev (fun n => impl_UvarGet.j2 n b at_ x (k : Int) d bb) r := by
    refine Ev.step (fun k => by rw [impl_UvarGet.j2]) ?_
    rw [w1, w2, w4]
    cases bb with
    | true => exact Ev.congr (fun n => by rw [if_pos (show true = true from rfl), if_pos (show true = true from rfl)]) h
    | false => exact Ev.congr (fun n => by rw [if_neg (show ¬ (false = true) by decide), if_neg (show ¬ (false = true) by decide), if_pos w5]) h
  refine Ev.step (fun k => by rw [impl_UvarGet.l0]) ?_
  refine Ev.pos (by omega) ?_
  refine Ev.step (fun k => by rw [impl_UvarGet.j1]) ?_
  rw [w1, hd, w6]
  refine Ev.pos (decide_eq_true (by omega)) (Ev.pos (by omega) (Ev.pos hin ?_))
  by_cases h9 : (k : Int) = 9
  · refine Ev.pos h9 ?_
    have : decide (d > 1) = bb := by rw [hbb]; simp [h9]
    rw [this]; exact hj2
  · refine Ev.neg h9 ?_
    have : false = bb := by rw [hbb]; simp [h9]
    rw [this]; exact hj2
theorem uvarGet_loop (b : List Int) (hb : ∀ x ∈ b, 0 ≤ x ∧ x ≤ 255) (hl : b.length ≤ 1048576) (at_ : Int) (a0 : 0 ≤ at_) (a1 : at_ ≤ b.length) : ∀ (m k X : Nat), k + m = 10 → (k ≤ 9 → X < 2 ^ (7 * k)) →
    ∃ r, Ev (fun n => spec_UvarGet.l0 n b at_ (wrap64 (X : Int)) (k : Int)) r ∧ (k ≤ 9 → Ev (fun n => impl_UvarGet.l0 n b at_ (X : Int) (k : Int)) r) ∧ UG b at_ r := by
  have last : ∀ x : Int, Ev (fun n => spec_UvarGet.l0 n b at_ x ((10 : Nat) : Int)) ((0, 0, false) : Int × Int × Bool) := fun x => by
    refine Ev.step (fun k => by rw [spec_UvarGet.l0]) ?_
    refine Ev.neg (by omega) ?_
    exact Ev.step (fun k => by rw [spec_UvarGet.j2]) (by exact Ev.neg (by decide) (Ev.now _))
  intro m
  induction m with
  | zero =>
    intro k X hk _
    obtain rfl : k = 10 := by omega
    exact ⟨(0, 0, false), last _, by omega, UG_bad _ _⟩
  | succ m ih =>
    intro k X hk hX
    have hk9 : k ≤ 9 := by omega
    have hX' := hX hk9
    by_cases hin : at_ + k < b.length
    · have er : rd b (at_ + (k : Int)) = b[(at_ + (k : Int)).toNat]'(by omega) := rd_eq (by omega)
      have hby := hb _ (List.getElem_mem (show (at_ + (k : Int)).toNat < b.length by omega))
      rw [← er] at hby
      generalize hd : rd b (at_ + (k : Int)) = d at hby
      clear er hX
      by_cases hbad : (k : Int) = 9 ∧ d > 1
      · refine ⟨(0, 0, false), uv_spec b hl at_ _ d k hk9 a0 hin hd hby.1 hby.2 _ ?_, fun _ => uv_impl b hl at_ _ d k hk9 a0 hin hd _ true (decide_eq_true hbad).symm (Ev.pos rfl (Ev.now _)), UG_bad _ _⟩
        by_cases h128 : d < 128
        · exact Ev.pos h128 (Ev.pos hbad.1 (Ev.pos hbad.2 (Ev.now _)))
        · obtain rfl : k = 9 := by omega
          exact Ev.neg h128 (last _)
      · have hc : k ≤ 8 ∨ d ≤ 1 := by omega
        obtain ⟨eI, eU⟩ := uv_step k X hk9 hX' d hby.1 hby.2 hc
        by_cases h128 : d < 128
        · refine ⟨(wrap64 ((X + (d % 128).toNat * 2 ^ (7 * k) : Nat) : Int), at_ + k + 1, true), uv_spec b hl at_ _ d k hk9 a0 hin hd hby.1 hby.2 _ ?_, fun _ => uv_impl b hl at_ _ d k hk9 a0 hin hd _ false (decide_eq_false hbad).symm ?_, ⟨⟨wrap64_lo _, wrap64_hi _⟩, fun _ => ⟨?_, ?_⟩, fun h => absurd h (by simp)⟩⟩
          · rw [eI]
            refine Ev.pos h128 ?_
            by_cases h9 : (k : Int) = 9
            · exact Ev.pos h9 (Ev.neg (fun h => hbad ⟨h9, h⟩) (Ev.now _))
            · exact Ev.neg h9 (Ev.now _)
          · rw [eU]
            exact Ev.neg (by decide) (Ev.pos h128 (Ev.now _))
          · dsimp only; clear eI eU hX'; omega
          · dsimp only; clear eI eU hX'; omega
        · have hk8 : k ≤ 8 := by clear eI eU hX'; omega
          have hnext : X + (d % 128).toNat * 2 ^ (7 * k) < 2 ^ (7 * (k + 1)) := by
            have e7 : 2 ^ (7 * (k + 1)) = 2 ^ (7 * k) * 128 := by rw [Nat.mul_add, Nat.pow_add]
            have hD1 : (d % 128).toNat ≤ 127 := by clear eI eU hX' e7; omega
            have hm : (d % 128).toNat * 2 ^ (7 * k) ≤ 127 * 2 ^ (7 * k) := Nat.mul_le_mul_right _ hD1
            clear eI eU ih last
            rw [e7]
            generalize 2 ^ (7 * k) = P at *
            omega
          obtain ⟨r, r1, r2, r3⟩ := ih (k + 1) (X + (d % 128).toNat * 2 ^ (7 * k)) (by omega) (fun _ => hnext)
          refine ⟨r, uv_spec b hl at_ _ d k hk9 a0 hin hd hby.1 hby.2 _ ?_, fun _ => uv_impl b hl at_ _ d k hk9 a0 hin hd _ false (decide_eq_false hbad).symm ?_, r3⟩
          · rw [eI]; exact Ev.neg h128 r1
          · rw [eU]; exact Ev.neg (by decide) (Ev.neg h128 (r2 (by omega)))
    · refine ⟨(0, 0, false), ?_, fun _ => ?_, UG_bad _ _⟩
      · refine Ev.step (fun k => by rw [spec_UvarGet.l0]) ?_
        refine Ev.pos (by omega) ?_
        refine Ev.step (fun k => by rw [spec_UvarGet.j2]) ?_
        rw [wrap64_id (x := at_ + (k : Int)) (by omega) (by omega)]
        exact Ev.neg (by simp; omega) (Ev.now _)
      · refine Ev.step (fun k => by rw [impl_UvarGet.l0]) ?_
        refine Ev.pos (by omega) ?_
        refine Ev.step (fun k => by rw [impl_UvarGet.j1]) ?_
        rw [wrap64_id (x := (b.length : Int) - at_) (by omega) (by omega)]
        exact Ev.neg (by simp; omega) (Ev.now _)
theorem UvarGet_both (b : List Int) (hb : ∀ x ∈ b, 0 ≤ x ∧ x ≤ 255) (hl : b.length ≤ 1048576) (at_ : Int) (i0 : -9223372036854775808 ≤ at_) (i1 : at_ ≤ 9223372036854775807) :
    ∃ r, Ev (fun n => spec_UvarGet.f n b at_) r ∧ Ev (fun n => impl_UvarGet.f n b at_) r ∧ UG b at_ r := by
  unfold spec_UvarGet.f impl_UvarGet.f
  have bad : Ev (fun n => spec_UvarGet.j0 n b at_ true) ((0, 0, false) : Int × Int × Bool) := Ev.step (fun k => by rw [spec_UvarGet.j0]) (by exact Ev.pos rfl (Ev.now _))
  by_cases h0 : at_ < 0
  · exact ⟨(0, 0, false), Ev.pos h0 bad, Ev.pos h0 (Ev.now _), UG_bad _ _⟩
  by_cases h1 : at_ ≥ (b.length : Int)
  · refine ⟨(0, 0, false), Ev.neg h0 ?_, Ev.neg h0 ?_, UG_bad _ _⟩
    · rw [decide_eq_true h1]; exact bad
    · refine Ev.step (fun k => by rw [impl_UvarGet.l0]) ?_
      refine Ev.pos (by omega) ?_
      refine Ev.step (fun k => by rw [impl_UvarGet.j1]) ?_
      have : decide (0 < wrap64 ((b.length : Int) - at_)) = false := by
        apply decide_eq_false
        rw [wrap64_id (by omega) (by omega)]; omega
      rw [this]
      exact Ev.neg (by decide) (Ev.now _)
  · obtain ⟨r, r1, r2, r3⟩ := uvarGet_loop b hb hl at_ (by omega) (by omega) 10 0 0 (by omega) (by simp)
    refine ⟨r, Ev.neg h0 ?_, Ev.neg h0 (by simpa using r2 (by omega)), r3⟩
    rw [decide_eq_false h1]
    refine Ev.step (fun k => by rw [spec_UvarGet.j0]) ?_
    refine Ev.neg (by decide) ?_
    have e : wrap64 ((0 : Nat) : Int) = 0 := by unfold wrap64; omega
    rw [e] at r1
    exact r1
theorem rd_byte (b : List Int) (hb : ∀ x ∈ b, 0 ≤ x ∧ x ≤ 255) (j : Int) : 0 ≤ rd b j ∧ rd b j ≤ 255 := by
  by_cases h : j.toNat < b.length
  · rw [rd_eq h]; exact hb _ (List.getElem_mem h)
  · unfold rd; rw [List.getD_eq_getElem?_getD, List.getElem?_eq_none (by omega)]; simp
theorem and_one (x : Int) : Go.bits .and .i64 x 1 = x % 2 := bits_and_mask x 1 1 (by omega) rfl
theorem and_u8_one (c : Int) (h0 : 0 ≤ c) (h1 : c ≤ 255) : Go.bits .and .u8 c 1 = c % 2 := by
  obtain ⟨n, rfl⟩ := Int.eq_ofNat_of_zero_le h0
  have hn : n < 2 ^ 8 := by omega
  have e := (bits_nat .u8 8 (by decide) (fun m h0 h1 => wraps_u8 m h0 h1) n 1 hn (by decide)).1
  have e2 : n &&& 1 = n % 2 := Nat.and_two_pow_sub_one_eq_mod n 1
  have e3 : Go.bits .and .u8 (n : Int) 1 = ((n &&& 1 : Nat) : Int) := e
  rw [e3, e2]; push_cast; rfl
theorem l2Down1' (x : Int) (h0 : -9223372036854775808 ≤ x) (h1 : x ≤ 9223372036854775807) : ∃ c : Nat, spec_l2Down.f x 1 = some (c : Int) ∧ wrap64 ((IntKind.u64.wrap x) / 2) = (c : Int) ∧ c < 9223372036854775808 := by
  refine ⟨(x / 2 % 9223372036854775808).toNat, ?_, ?_, by omega⟩
  · unfold spec_l2Down.f
    rw [if_neg (by decide), if_pos (by decide), wrap64_id (x := 64 - 1) (by omega) (by omega), if_pos (by decide)]
    have e1 : shr .i64 x 1 = x / 2 := rfl
    have e2 : shl .i64 1 (64 - 1) = -9223372036854775808 := by
      unfold shl; rw [IntKind.wrap_i64]; rfl
    have e3 : wrap64 (-9223372036854775808 - 1) = 9223372036854775807 := by unfold wrap64; omega
    rw [e1, e2, e3, bits_and_mask (x / 2) 9223372036854775807 63 (by omega) rfl]
    congr 1
    have : (2 : Int) ^ 63 = 9223372036854775808 := by decide
    rw [this]; omega
  · have e : IntKind.u64.wrap x = x % 18446744073709551616 := by rw [IntKind.wrap_u64]
    rw [e, wrap64_id (by omega) (by omega)]; omega
/-- The bit number p of bytes. -/
def bitV (b : List Int) (p : Nat) : Int := (shr .i64 (rd b ((p / 8 : Nat) : Int)) ((p % 8 : Nat) : Int)) % 2
theorem spec_bit (b : List Int) (hb : ∀ x ∈ b, 0 ≤ x ∧ x ≤ 255) (p : Nat) (hp : p / 8 < b.length) (hl : b.length ≤ 1048576) : spec_l1Bit.f b (p : Int) = some (bitV b p) := by
  unfold spec_l1Bit.f bitV
  rw [Int.tdiv_eq_ediv_of_nonneg (by omega), Int.tmod_eq_emod_of_nonneg (by omega)]
  have e1 : wrap64 ((p : Int) / 8) = ((p / 8 : Nat) : Int) := by rw [wrap64_id (by omega) (by omega)]; omega
  have e2 : (p : Int) % 8 = ((p % 8 : Nat) : Int) := by omega
  have hd := rd_byte b hb ((p / 8 : Nat) : Int)
  rw [e1, e2, if_pos (by omega), if_pos (by omega), if_pos (by omega), wrap64_id (x := rd b _) (by omega) (by omega), and_one]
theorem impl_bit (b : List Int) (hb : ∀ x ∈ b, 0 ≤ x ∧ x ≤ 255) (p : Nat) (hp : p / 8 < b.length) (hl : b.length ≤ 1048576) : impl_BitAt.f b (p : Int) = some (bitV b p) := by
  unfold impl_BitAt.f bitV
  rw [Int.tdiv_eq_ediv_of_nonneg (by omega), Int.tmod_eq_emod_of_nonneg (by omega)]
  have e1 : wrap64 ((p : Int) / 8) = ((p / 8 : Nat) : Int) := by rw [wrap64_id (by omega) (by omega)]; omega
  have e2 : (p : Int) % 8 = ((p % 8 : Nat) : Int) := by omega
  have hd := rd_byte b hb ((p / 8 : Nat) : Int)
  rw [e1, e2, if_neg (by omega), if_neg (by omega), if_pos (by omega), if_pos (by omega), if_pos (by omega)]
  generalize rd b ((p / 8 : Nat) : Int) = d at hd
  have hm : p % 8 < 8 := Nat.mod_lt _ (by omega)
  generalize p % 8 = j at hm
  have s1 : shr .u8 d (j : Int) = d / 2 ^ j := by
    unfold shr
    have : min ((j : Int)).toNat IntKind.u8.bits = j := by
      have : IntKind.u8.bits = 8 := rfl
      omega
    rw [this]
  have s2 : shr .i64 d (j : Int) = d / 2 ^ j := by
    unfold shr
    have : min ((j : Int)).toNat IntKind.i64.bits = j := by
      have : IntKind.i64.bits = 64 := rfl
      omega
    rw [this]
  have p0 : (0 : Int) < 2 ^ j := Int.pow_pos (by omega)
  have q0 : 0 ≤ d / 2 ^ j := Int.ediv_nonneg hd.1 (by omega)
  have q1 : d / 2 ^ j ≤ 255 := Int.le_trans (Int.ediv_le_self _ hd.1) hd.2
  rw [s1, s2, and_u8_one _ q0 q1, wrap64_id (by omega) (by omega)]
def ubit (b : List Int) (at_ w i k : Nat) (x : Int) : Int := Go.bits .or .i64 x (shl .i64 (bitV b (8 * at_ + i * w + k)) (k : Int))
def unum (b : List Int) (at_ w i : Nat) : Int := (List.range w).foldl (fun x k => ubit b at_ w i k x) 0
theorem bit_place (at_ w i k c L : Nat) (h : at_ + c * w ≤ L) (hi : i < 8 * c) (hk : k < w) : (8 * at_ + i * w + k) / 8 < L ∧ i * w + k < 8 * (c * w) := by
  have h1 : (i + 1) * w ≤ (8 * c) * w := Nat.mul_le_mul_right _ hi
  rw [Nat.add_mul, Nat.one_mul, Nat.mul_assoc] at h1
  omega
theorem place_eq (at_ w i k : Nat) (h1 : at_ ≤ 1048576) (h2 : i * w + k ≤ 10000000) : wrap64 ((wrap64 ((wrap64 (8 * (at_ : Int))) + (wrap64 ((i : Int) * (w : Int))))) + (k : Int)) = ((8 * at_ + i * w + k : Nat) : Int) := by
  have hc : ((i : Int) * (w : Int)) = ((i * w : Nat) : Int) := by push_cast; rfl
  rw [hc, wrap64_id (x := 8 * (at_ : Int)) (by omega) (by omega), wrap64_id (x := ((i * w : Nat) : Int)) (by omega) (by omega), wrap64_id (x := 8 * (at_ : Int) + ((i * w : Nat) : Int)) (by omega) (by omega), wrap64_id (by omega) (by omega)]
  push_cast; rfl
theorem mn_nat (a b : Int) (m : Nat) (h : (m : Int) = min a b) : mn a b = (m : Int) := by
  unfold mn; split <;> omega
theorem xor_comm_i64 (x y : Int) : Go.bits .xor .i64 x y = Go.bits .xor .i64 y x := by
  have e : ∀ a c : Int, Go.bits .xor .i64 a c = IntKind.i64.wrap (((BitVec.ofInt 64 a ^^^ BitVec.ofInt 64 c).toNat : Nat) : Int) := fun _ _ => rfl
  rw [e, e, BitVec.xor_comm]
theorem xor_zero_i64 (x : Int) (h0 : 0 ≤ x) (h1 : x < 9223372036854775808) : Go.bits .xor .i64 x 0 = x := by
  have e : Go.bits .xor .i64 x 0 = IntKind.i64.wrap (((BitVec.ofInt 64 x ^^^ BitVec.ofInt 64 0).toNat : Nat) : Int) := rfl
  have z : BitVec.ofInt 64 0 = 0#64 := rfl
  rw [e, z, BitVec.xor_zero, BitVec.toNat_ofInt, IntKind.wrap_i64]; omega
theorem Zag_both (x : Int) (h0 : -9223372036854775808 ≤ x) (h1 : x ≤ 9223372036854775807) : ∃ z : Int, spec_Zag.f x = some z ∧ impl_Zag.f x = some z := by
  obtain ⟨c, e1, e2, e3⟩ := l2Down1' x h0 h1
  unfold spec_Zag.f impl_Zag.f
  rw [and_one, e1, e2]
  by_cases h : x % 2 = 1
  · refine ⟨Go.bits .xor .i64 (-1) (c : Int), ?_, ?_⟩
    · rw [if_pos h]; rfl
    · rw [h, show wrap64 (-1) = -1 from wrap64_id (by omega) (by omega), xor_comm_i64]
  · refine ⟨(c : Int), ?_, ?_⟩
    · rw [if_neg h]; rfl
    · rw [show x % 2 = 0 by omega, show wrap64 (-0) = 0 from wrap64_id (by omega) (by omega), xor_zero_i64 _ (by omega) (by omega)]
theorem uvar_yes {b : List Int} {at_ n nx : Int} (xs : List Int) (h : Ev (fun k => impl_UvarGet.f k b at_) (n, nx, true)) : Ev (fun k => impl_deltaReader_uvar.f k b at_ false xs) (n, nx, false, xs) := by
  unfold impl_deltaReader_uvar.f
  exact Ev.bind h (Ev.neg (by decide) (Ev.pos rfl (Ev.now _)))
theorem uvar_no {b : List Int} {at_ n nx : Int} (xs : List Int) (h : Ev (fun k => impl_UvarGet.f k b at_) (n, nx, false)) : Ev (fun k => impl_deltaReader_uvar.f k b at_ false xs) (0, at_, true, xs) := by
  unfold impl_deltaReader_uvar.f
  exact Ev.bind h (Ev.neg (by decide) (Ev.neg Bool.false_ne_true (Ev.now _)))
theorem uvar_bad {b : List Int} {at_ : Int} {r : Int × Int × Bool} (xs : List Int) (h : Ev (fun k => impl_UvarGet.f k b at_) r) : Ev (fun k => impl_deltaReader_uvar.f k b at_ true xs) (0, at_, true, xs) := by
  unfold impl_deltaReader_uvar.f
  exact Ev.bind h (Ev.pos rfl (Ev.now _))
theorem zig_yes {b : List Int} {at_ n nx z : Int} (h : Ev (fun k => spec_UvarGet.f k b at_) (n, nx, true)) (hz : spec_Zag.f n = some z) : Ev (fun k => spec_ZigGet.f k b at_) (z, nx, true) := by
  unfold spec_ZigGet.f
  exact Ev.bind h (Ev.pos rfl (Ev.here hz (Ev.now _)))
theorem zig_no {b : List Int} {at_ n nx : Int} (h : Ev (fun k => spec_UvarGet.f k b at_) (n, nx, false)) : Ev (fun k => spec_ZigGet.f k b at_) (0, 0, false) := by
  unfold spec_ZigGet.f
  exact Ev.bind h (Ev.neg Bool.false_ne_true (Ev.now _))
/-- The numbers of a miniblock. -/
def mNums (b : List Int) (at_ w m : Nat) : List Int := (List.range m).map (fun i => unum b at_ w i)
theorem mini_unpacked (b : List Int) (hb : ∀ x ∈ b, 0 ≤ x ∧ x ≤ 255) (hl : b.length ≤ 1048576) (at_ w c m : Nat) (hw : w ≤ 64) (hc : c ≤ 128) (h : at_ + c * w ≤ b.length) (hm : m ≤ 8 * c) :
    Ev (fun k => impl_unpacked.f k b (at_ : Int) (m : Int) (w : Int)) (mNums b at_ w m) := by
  unfold impl_unpacked.f mNums
  have hcw : c * w ≤ 128 * 64 := Nat.mul_le_mul hc hw
  refine append_loop (fun k out i => impl_unpacked.l0 k b (at_ : Int) (w : Int) out (m : Int) i) (fun i => unum b at_ w i) m _ (fun i s hi hs hr => ?_) ?_
  · refine Ev.step (fun k => by rw [impl_unpacked.l0]) ?_
    refine Ev.pos (by omega) ?_
    refine loop_cps (fun k x j => impl_unpacked.l1 k b (at_ : Int) (w : Int) s (i : Int) x (m : Int) (i : Int) (w : Int) j) (fun k x => ubit b at_ w i k x) w _ (fun k x hk hr2 => ?_) 0 ?_
    · obtain ⟨p1, p2⟩ := bit_place at_ w i k c b.length h (by omega) hk
      refine Ev.step (fun k => by rw [impl_unpacked.l1]) ?_
      rw [place_eq at_ w i k (by omega) (by omega), wrap64_id (x := (k : Int) + 1) (by omega) (by omega)]
      have e : ((k + 1 : Nat) : Int) = (k : Int) + 1 := by push_cast; rfl
      rw [e] at hr2
      exact Ev.pos (by omega) (Ev.here (impl_bit b hb _ p1 hl) (Ev.pos (by omega) hr2))
    · refine Ev.step (fun k => by rw [impl_unpacked.l1]) ?_
      rw [wrap64_id (x := (i : Int) + 1) (by omega) (by omega)]
      have e : ((i + 1 : Nat) : Int) = (i : Int) + 1 := by push_cast; rfl
      rw [e] at hr
      exact Ev.neg (by omega) (Ev.pos (by omega) hr)
  · exact Ev.step (fun k => by rw [impl_unpacked.l0]) (by exact Ev.neg (by omega) (Ev.now _))
theorem mini_size (c w : Nat) (hw : w ≤ 255) (hc : c ≤ 128) : wrap64 (Int.tdiv (wrap64 (((8 * c : Nat) : Int) * (w : Int))) 8) = ((c * w : Nat) : Int) := by
  have hcw : c * w ≤ 128 * 255 := Nat.mul_le_mul hc hw
  have e : (((8 * c : Nat) : Int) * (w : Int)) = ((8 * (c * w) : Nat) : Int) := by push_cast; rw [Int.mul_assoc]
  rw [e, wrap64_id (x := ((8 * (c * w) : Nat) : Int)) (by omega) (by omega), Int.tdiv_eq_ediv_of_nonneg (by omega), wrap64_id (by omega) (by omega)]
  omega
theorem spec_mini (b : List Int) (hb : ∀ x ∈ b, 0 ≤ x ∧ x ≤ 255) (hl : b.length ≤ 1048576) (at_ w c : Nat) (ha : at_ ≤ b.length) (hw : w ≤ 255) (hc : c ≤ 128) :
    Ev (fun k => spec_l9Mini.f k b (at_ : Int) ((8 * c : Nat) : Int) (w : Int)) (if w ≤ 64 ∧ at_ + c * w ≤ b.length then (mNums b at_ w (8 * c), ((at_ + c * w : Nat) : Int), true) else ([], 0, false)) := by
  unfold spec_l9Mini.f
  have hcw : c * w ≤ 128 * 255 := Nat.mul_le_mul hc hw
  have bad : Ev (fun k => spec_l9Mini.j0 k b (at_ : Int) ((8 * c : Nat) : Int) (w : Int) [] true) (([], 0, false) : List Int × Int × Bool) := Ev.step (fun k => by rw [spec_l9Mini.j0]) (by exact Ev.pos rfl (Ev.now _))
  refine Ev.here rfl ?_
  by_cases h64 : (w : Int) > 64
  · rw [if_neg (by omega)]
    exact Ev.pos h64 bad
  refine Ev.neg h64 ?_
  rw [mini_size c w hw hc, wrap64_id (x := (b.length : Int) - (at_ : Int)) (by omega) (by omega)]
  by_cases hlt : at_ + c * w ≤ b.length
  case neg =>
    rw [if_neg (by omega), decide_eq_true (by omega)]
    exact bad
  rw [if_pos ⟨by omega, hlt⟩, decide_eq_false (by omega)]
  refine Ev.step (fun k => by rw [spec_l9Mini.j0]) ?_
  refine Ev.neg (by decide) ?_
  unfold mNums
  refine append_loop (fun k out i => spec_l9Mini.l0 k b (at_ : Int) ((8 * c : Nat) : Int) (w : Int) out i) (fun i => unum b at_ w i) (8 * c) _ (fun i s hi hs hr => ?_) ?_
  · refine Ev.step (fun k => by rw [spec_l9Mini.l0]) ?_
    refine Ev.pos (by omega) ?_
    refine loop_cps (fun k x j => spec_l9Mini.l1 k b (at_ : Int) ((8 * c : Nat) : Int) (w : Int) s (i : Int) x j) (fun k x => ubit b at_ w i k x) w _ (fun k x hk hr2 => ?_) 0 ?_
    · obtain ⟨p1, p2⟩ := bit_place at_ w i k c b.length hlt hi hk
      refine Ev.step (fun k => by rw [spec_l9Mini.l1]) ?_
      rw [place_eq at_ w i k (by omega) (by omega), wrap64_id (x := (k : Int) + 1) (by omega) (by omega)]
      have e : ((k + 1 : Nat) : Int) = (k : Int) + 1 := by push_cast; rfl
      rw [e] at hr2
      exact Ev.pos (by omega) (Ev.here (spec_bit b hb _ p1 hl) (Ev.pos (by omega) hr2))
    · refine Ev.step (fun k => by rw [spec_l9Mini.l1]) ?_
      rw [wrap64_id (x := (i : Int) + 1) (by omega) (by omega)]
      have e : ((i + 1 : Nat) : Int) = (i : Int) + 1 := by push_cast; rfl
      rw [e] at hr
      exact Ev.neg (by omega) (Ev.pos (by omega) hr)
  · refine Ev.step (fun k => by rw [spec_l9Mini.l0]) ?_
    refine Ev.neg (by omega) (Ev.const ?_)
    rw [mini_size c w hw hc, wrap64_id (by omega) (by omega)]
    have : (at_ : Int) + ((c * w : Nat) : Int) = ((at_ + c * w : Nat) : Int) := by omega
    rw [this]
/-- Differences are added up behind what stands there. -/
def accN (least : Int) (out : List Int) (x : Int) : List Int := out ++ [wrap64 (wrap64 (rd out (wrap64 ((out.length : Int) - 1)) + x) + least)]
def accM (b : List Int) (at_ w : Nat) (least : Int) (out : List Int) (m : Nat) : List Int := (List.range m).foldl (fun o i => accN least o (unum b at_ w i)) out
theorem accM_length (b : List Int) (at_ w : Nat) (least : Int) (out : List Int) (m : Nat) : (accM b at_ w least out m).length = out.length + m := by
  unfold accM
  induction m with
  | zero => rfl
  | succ m ih => rw [List.range_succ, List.foldl_append]; simp only [List.foldl_cons, List.foldl_nil, accN, List.length_append, List.length_singleton] at ih ⊢; omega
theorem mNums_rd (b : List Int) (at_ w m i : Nat) (h : i < m) : rd (mNums b at_ w m) (i : Int) = unum b at_ w i := by
  rw [rd_eq (by simp [mNums]; omega)]
  simp [mNums]
theorem spec_add (b : List Int) (at1 : Int) (block minis many : Int) (x7 : List Int) (least x18 x20 : Int) (at_ w S M : Nat) (out : List Int) (h1 : 1 ≤ out.length) (hS : M ≤ S) (hSb : S ≤ 4096) (hMm : M = S ∨ ((out.length + M : Nat) : Int) = many) (hm : ((out.length + M : Nat) : Int) ≤ many) (hmany : many ≤ 2000) {γ : List Int × Int × Bool}
    (h : Ev (fun k => spec_DeltaRead.l1 k b at1 x7 block minis many (accM b at_ w least out M) least x18 (wrap64 (x20 + 1))) γ) :
    Ev (fun k => spec_DeltaRead.l2 k b at1 x7 block minis many out least x18 x20 (mNums b at_ w S) 0) γ := by
  have hlen : (mNums b at_ w S).length = S := by simp [mNums]
  have key : ∀ (d i : Nat), i + d = M → Ev (fun k => spec_DeltaRead.l2 k b at1 x7 block minis many (accM b at_ w least out i) least x18 x20 (mNums b at_ w S) (i : Int)) γ := by
    intro d
    induction d with
    | zero =>
      intro i hi
      obtain rfl : i = M := by omega
      have hl := accM_length b at_ w least out i
      refine Ev.step (fun k => by rw [spec_DeltaRead.l2]) ?_
      rw [hlen]
      by_cases hc : i < S
      · exact Ev.pos (by omega) (Ev.neg (by omega) h)
      · exact Ev.neg (by omega) h
    | succ d ih =>
      intro i hi
      have hl := accM_length b at_ w least out i
      refine Ev.step (fun k => by rw [spec_DeltaRead.l2]) ?_
      rw [hlen, mNums_rd b at_ w S i (by omega), wrap64_id (x := (i : Int) + 1) (by omega) (by omega)]
      have hw1 : wrap64 (((accM b at_ w least out i).length : Int) - 1) = (accM b at_ w least out i).length - 1 := wrap64_id (by omega) (by omega)
      refine Ev.pos (by omega) (Ev.pos (by omega) (Ev.pos (by rw [hw1]; omega) (Ev.pos (by rw [hw1]; omega) (Ev.pos (by omega) (Ev.pos (by omega) ?_)))))
      have h2 := ih (i + 1) (by omega)
      have e : accM b at_ w least out (i + 1) = accN least (accM b at_ w least out i) (unum b at_ w i) := by unfold accM; rw [List.range_succ, List.foldl_append]; rfl
      rw [e] at h2
      simpa [accN] using h2
  have := key M 0 (by omega)
  simpa [accM] using this
theorem impl_add (b : List Int) (least at1 : Int) (bad : Bool) (at_ w M : Nat) (out : List Int) (h1 : 1 ≤ out.length) (hb : out.length + M ≤ 5000) :
    Ev (fun k => impl_deltaReader_mini.l0 k least (mNums b at_ w M) ((mNums b at_ w M).length : Int) 0 b at1 bad out) (at1, bad, accM b at_ w least out M) := by
  have hlen : (mNums b at_ w M).length = M := by simp [mNums]
  rw [hlen]
  have key : ∀ (d i : Nat), i + d = M → Ev (fun k => impl_deltaReader_mini.l0 k least (mNums b at_ w M) (M : Int) (i : Int) b at1 bad (accM b at_ w least out i)) (at1, bad, accM b at_ w least out M) := by
    intro d
    induction d with
    | zero =>
      intro i hi
      obtain rfl : i = M := by omega
      exact Ev.step (fun k => by rw [impl_deltaReader_mini.l0]) (by exact Ev.neg (by omega) (Ev.now _))
    | succ d ih =>
      intro i hi
      have hl := accM_length b at_ w least out i
      refine Ev.step (fun k => by rw [impl_deltaReader_mini.l0]) ?_
      rw [hlen, mNums_rd b at_ w M i (by omega), wrap64_id (x := (i : Int) + 1) (by omega) (by omega)]
      have hw1 : wrap64 (((accM b at_ w least out i).length : Int) - 1) = (accM b at_ w least out i).length - 1 := wrap64_id (by omega) (by omega)
      refine Ev.pos (by omega) (Ev.pos (by omega) (Ev.pos (by omega) (Ev.pos (by rw [hw1]; omega) (Ev.pos (by rw [hw1]; omega) (Ev.pos (by omega) ?_)))))
      have h2 := ih (i + 1) (by omega)
      have e : accM b at_ w least out (i + 1) = accN least (accM b at_ w least out i) (unum b at_ w i) := by unfold accM; rw [List.range_succ, List.foldl_append]; rfl
      rw [e] at h2
      simpa [accN] using h2
  have := key M 0 (by omega)
  simpa [accM] using this
theorem impl_mini (b : List Int) (hb : ∀ x ∈ b, 0 ≤ x ∧ x ≤ 255) (hl : b.length ≤ 1048576) (at_ w c : Nat) (ha : at_ ≤ b.length) (hw : w ≤ 255) (hc : c ≤ 128) (least : Int) (out : List Int) (h1 : 1 ≤ out.length) (left M : Nat) (hM : M = min (8 * c) left) (hob : out.length + M ≤ 5000) :
    Ev (fun k => impl_deltaReader_mini.f k b (at_ : Int) false out ((8 * c : Nat) : Int) (w : Int) least (left : Int)) (if w ≤ 64 ∧ at_ + c * w ≤ b.length then (((at_ + c * w : Nat) : Int), false, accM b at_ w least out M) else ((at_ : Int), true, out)) := by
  unfold impl_deltaReader_mini.f
  have hcw : c * w ≤ 128 * 255 := Nat.mul_le_mul hc hw
  by_cases h64 : (w : Int) > 64
  · rw [if_neg (by omega)]
    refine Ev.pos h64 ?_
    refine Ev.step (fun k => by rw [impl_deltaReader_mini.j0]) ?_
    exact Ev.here (a := ((0 : Int), (at_ : Int), true, out)) rfl (Ev.pos rfl (Ev.now _))
  refine Ev.neg h64 ?_
  refine Ev.step (fun k => by rw [impl_deltaReader_mini.j0]) ?_
  rw [mini_size c w hw hc]
  have w1 : wrap64 ((b.length : Int) - (at_ : Int)) = b.length - at_ := wrap64_id (by omega) (by omega)
  by_cases hlt : at_ + c * w ≤ b.length
  case neg =>
    rw [if_neg (by omega)]
    refine Ev.here (a := ((0 : Int), (at_ : Int), true, out)) ?_ (Ev.pos rfl (Ev.now _))
    unfold impl_deltaReader_take.f
    rw [if_neg (by decide), w1, if_pos (by omega)]
  rw [if_pos ⟨by omega, hlt⟩]
  have e2 : (at_ : Int) + ((c * w : Nat) : Int) = ((at_ + c * w : Nat) : Int) := by omega
  refine Ev.here (a := ((at_ : Int), ((at_ + c * w : Nat) : Int), false, out)) ?_ (Ev.neg Bool.false_ne_true ?_)
  · unfold impl_deltaReader_take.f
    rw [if_neg (by decide), w1, if_neg (by omega), e2, wrap64_id (x := ((at_ + c * w : Nat) : Int)) (by omega) (by omega), wrap64_id (by omega) (by omega)]
    congr 2
    omega
  · dsimp only
    rw [mn_nat _ _ M (by omega)]
    exact Ev.bind (mini_unpacked b hb hl at_ w c M (by omega) hc hlt (by omega)) (impl_add b least _ false at_ w M out h1 hob)
abbrev DR := List Int × Int × Bool
/-- What the loops over blocks come to, on both sides. -/
theorem delta_fail_spec (b : List Int) (block minis many : Int) (out : List Int) (z at1 : Int) : Ev (fun k => spec_DeltaRead.j3 k b [] block minis many out z at1 true) (([], 0, false) : DR) :=
  Ev.step (fun k => by rw [spec_DeltaRead.j3]) (by exact Ev.pos rfl (Ev.now _))
theorem delta_fail_impl (b : List Int) (minis many size at1 : Int) (out : List Int) : Ev (fun k => impl_DeltaRead.l0 k b minis many size b at1 true out) (([], 0, false) : DR) := by
  have h : Ev (fun k => impl_DeltaRead.j3 k b minis many size false b at1 true out) (([], 0, false) : DR) := Ev.step (fun k => by rw [impl_DeltaRead.j3]) (by exact Ev.neg (by decide) (Ev.pos rfl (Ev.now _)))
  refine Ev.step (fun k => by rw [impl_DeltaRead.l0]) ?_
  by_cases hc : (out.length : Int) < many
  · exact Ev.pos hc h
  · exact Ev.neg hc h
theorem delta_fail_l1 (b : List Int) (minis many size z x14 x15 at1 : Int) (out : List Int) : Ev (fun k => impl_DeltaRead.l1 k b minis many size z x14 x15 b at1 true out) (([], 0, false) : DR) := by
  refine Ev.step (fun k => by rw [impl_DeltaRead.l1]) ?_
  by_cases h1 : x15 < minis
  · refine Ev.pos h1 ?_
    by_cases h2 : (out.length : Int) < many
    · exact Ev.pos h2 (Ev.pos rfl (delta_fail_impl b minis many size at1 out))
    · exact Ev.neg h2 (delta_fail_impl b minis many size at1 out)
  · exact Ev.neg h1 (delta_fail_impl b minis many size at1 out)
/-- Both sides' outer loops come to the same. -/
def DSame (b : List Int) (block : Int) (minis c many : Nat) (out : List Int) (at_ : Nat) : Prop :=
  ∃ r : DR, Ev (fun k => spec_DeltaRead.l0 k b (at_ : Int) [] block (minis : Int) (many : Int) out) r ∧ Ev (fun k => impl_DeltaRead.l0 k b (minis : Int) (many : Int) ((8 * c : Nat) : Int) b (at_ : Int) false out) r ∧ r.1.length ≤ 2000 ∧ 0 ≤ r.2.1 ∧ r.2.1 ≤ b.length
set_option maxHeartbeats 4000000 in
theorem delta_inner (b : List Int) (hb : ∀ x ∈ b, 0 ≤ x ∧ x ≤ 255) (hl : b.length ≤ 1048576) (block : Int) (minis c many : Nat) (hc0 : 1 ≤ c) (hc : c ≤ 128) (hm0 : 1 ≤ minis) (hmi : minis ≤ 1024) (hmany : many ≤ 2000)
    (hS : Unit → wrap64 (Int.tdiv block (minis : Int)) = ((8 * c : Nat) : Int)) (least : Int) (nx : Nat) (hnx : nx + minis ≤ b.length) (o0 : Nat) (ho0 : 1 ≤ o0)
    (ih : ∀ (out : List Int) (at_ : Nat), o0 < out.length → out.length ≤ many → at_ ≤ b.length → DSame b block minis c many out at_) :
    ∀ (d m : Nat), m + d = minis → ∀ (out : List Int) (at_ : Nat), (m = 0 ∧ out.length = o0 ∧ o0 < many ∨ o0 < out.length) → out.length ≤ many → at_ ≤ b.length →
      ∃ r : DR, Ev (fun k => spec_DeltaRead.l1 k b (at_ : Int) [] block (minis : Int) (many : Int) out least (nx : Int) (m : Int)) r ∧ Ev (fun k => impl_DeltaRead.l1 k b (minis : Int) (many : Int) ((8 * c : Nat) : Int) least (nx : Int) (m : Int) b (at_ : Int) false out) r ∧ r.1.length ≤ 2000 ∧ 0 ≤ r.2.1 ∧ r.2.1 ≤ b.length := by
  intro d
  induction d with
  | zero =>
    intro m hm out at_ ho hle hat
    obtain ⟨r, r1, r2, r3⟩ := ih out at_ (by omega) hle hat
    refine ⟨r, ?_, ?_, r3⟩
    · refine Ev.step (fun k => by rw [spec_DeltaRead.l1]) ?_
      refine Ev.neg (by omega) ?_
      refine Ev.step (fun k => by rw [spec_DeltaRead.j5]) ?_
      exact Ev.neg (by decide) r1
    · refine Ev.step (fun k => by rw [impl_DeltaRead.l1]) ?_
      exact Ev.neg (by omega) r2
  | succ d ihd =>
    intro m hm out at_ ho hle hat
    by_cases hlt : out.length < many
    case neg =>
      obtain ⟨r, r1, r2, r3⟩ := ih out at_ (by omega) hle hat
      refine ⟨r, ?_, ?_, r3⟩
      · refine Ev.step (fun k => by rw [spec_DeltaRead.l1]) ?_
        refine Ev.pos (by omega) ?_
        rw [decide_eq_false (by omega)]
        refine Ev.step (fun k => by rw [spec_DeltaRead.j5]) ?_
        exact Ev.neg (by decide) r1
      · refine Ev.step (fun k => by rw [impl_DeltaRead.l1]) ?_
        exact Ev.pos (by omega) (Ev.neg (by omega) r2)
    have hrd := rd_byte b hb ((nx + m : Nat) : Int)
    obtain ⟨w, hw⟩ := Int.eq_ofNat_of_zero_le hrd.1
    have hw255 : w ≤ 255 := by omega
    have ew : Unit → wrap64 ((nx : Int) + (m : Int)) = ((nx + m : Nat) : Int) := fun _ => by rw [wrap64_id (by omega) (by omega)]; omega
    have ew2 : Unit → wrap64 (w : Int) = (w : Int) := fun _ => wrap64_id (by omega) (by omega)
    have hcw : c * w ≤ 128 * 255 := Nat.mul_le_mul hc hw255
    obtain ⟨M, hM⟩ : ∃ M, M = min (8 * c) (many - out.length) := ⟨_, rfl⟩
    have hs := spec_mini b hb hl at_ w c hat hw255 hc
    have hi := impl_mini b hb hl at_ w c hat hw255 hc least out (by omega) (many - out.length) M hM (by omega)
    have el : Unit → wrap64 ((many : Int) - (out.length : Int)) = ((many - out.length : Nat) : Int) := fun _ => by rw [wrap64_id (by omega) (by omega)]; omega
    have spec_go : ∀ r : DR, Ev (fun k => ((spec_l9Mini.f k b (at_ : Int) ((8 * c : Nat) : Int) (w : Int)).bind fun bt223 => (if bt223.2.2 = true then (spec_DeltaRead.l2 k b bt223.2.1 [] block (minis : Int) (many : Int) out least (nx : Int) (m : Int) bt223.1 0) else (some (([] : List Int), 0, false))))) r → Ev (fun k => spec_DeltaRead.l1 k b (at_ : Int) [] block (minis : Int) (many : Int) out least (nx : Int) (m : Int)) r := by
      intro r h
      refine Ev.step (fun k => by rw [spec_DeltaRead.l1]) ?_
      refine Ev.pos (by omega) ?_
      rw [decide_eq_true (by omega)]
      refine Ev.step (fun k => by rw [spec_DeltaRead.j5]) ?_
      rw [ew (), hw, ew2 (), hS ()]
      exact Ev.pos rfl (Ev.neg (by omega) (Ev.pos (by omega) (Ev.pos (by omega) h)))
    have impl_go : ∀ r : DR, Ev (fun k => ((impl_deltaReader_mini.f k b (at_ : Int) false out ((8 * c : Nat) : Int) (w : Int) least ((many - out.length : Nat) : Int)).bind fun bt174 => (impl_DeltaRead.l1 k b (minis : Int) (many : Int) ((8 * c : Nat) : Int) least (nx : Int) (wrap64 ((m : Int) + 1)) b bt174.1 bt174.2.1 bt174.2.2))) r → Ev (fun k => impl_DeltaRead.l1 k b (minis : Int) (many : Int) ((8 * c : Nat) : Int) least (nx : Int) (m : Int) b (at_ : Int) false out) r := by
      intro r h
      refine Ev.step (fun k => by rw [impl_DeltaRead.l1]) ?_
      rw [ew (), hw, ew2 (), el ()]
      exact Ev.pos (by omega) (Ev.pos (by omega) (Ev.neg (by decide) (Ev.pos (by omega) (Ev.pos (by omega) h))))
    clear ew ew2 el hS
    by_cases hok : w ≤ 64 ∧ at_ + c * w ≤ b.length
    case neg =>
      rw [if_neg hok] at hs hi
      exact ⟨([], 0, false), spec_go _ (Ev.bind hs (Ev.neg Bool.false_ne_true (Ev.now _))), impl_go _ (Ev.bind hi (delta_fail_l1 _ _ _ _ _ _ _ _ _)), by simp⟩
    rw [if_pos hok] at hs hi
    have hal := accM_length b at_ w least out M
    obtain ⟨r, r1, r2, r3⟩ := ihd (m + 1) (by omega) (accM b at_ w least out M) (at_ + c * w) (by omega) (by omega) hok.2
    have em : Unit → wrap64 ((m : Int) + 1) = ((m + 1 : Nat) : Int) := fun _ => by rw [wrap64_id (by omega) (by omega)]; omega
    refine ⟨r, spec_go _ (Ev.bind hs (Ev.pos rfl ?_)), impl_go _ (Ev.bind hi ?_), r3⟩
    · exact spec_add b _ block (minis : Int) (many : Int) [] least (nx : Int) (m : Int) at_ w (8 * c) M out (by omega) (by omega) (by omega) (by omega) (by omega) (by omega) (by rw [em ()]; exact r1)
    · rw [em ()]; exact r2
set_option maxHeartbeats 4000000 in
theorem delta_outer (b : List Int) (hb : ∀ x ∈ b, 0 ≤ x ∧ x ≤ 255) (hl : b.length ≤ 1048576) (block : Int) (minis c many : Nat) (hc0 : 1 ≤ c) (hc : c ≤ 128) (hm0 : 1 ≤ minis) (hmi : minis ≤ 1024) (hmany : many ≤ 2000)
    (hS : Unit → wrap64 (Int.tdiv block (minis : Int)) = ((8 * c : Nat) : Int)) : ∀ (n : Nat) (out : List Int) (at_ : Nat), many - out.length ≤ n → 1 ≤ out.length → out.length ≤ many → at_ ≤ b.length → DSame b block minis c many out at_ := by
  have fin : ∀ (out : List Int) (at_ : Nat), out.length = many → at_ ≤ b.length → DSame b block minis c many out at_ := by
    intro out at_ he hat
    refine ⟨(out, (at_ : Int), true), ?_, ?_, by show out.length ≤ 2000 ∧ 0 ≤ (at_ : Int) ∧ (at_ : Int) ≤ b.length; omega⟩
    · exact Ev.step (fun k => by rw [spec_DeltaRead.l0]) (by exact Ev.neg (by omega) (Ev.now _))
    · refine Ev.step (fun k => by rw [impl_DeltaRead.l0]) ?_
      refine Ev.neg (by omega) ?_
      exact Ev.step (fun k => by rw [impl_DeltaRead.j3]) (by exact Ev.neg (by decide) (Ev.neg (by decide) (Ev.now _)))
  intro n
  induction n with
  | zero => intro out at_ h0 h1 h2 h3; exact fin out at_ (by omega) h3
  | succ n ih =>
    intro out at_ h0 h1 h2 h3
    by_cases hlt : out.length < many
    case neg => exact fin out at_ (by omega) h3
    obtain ⟨r, s1, i1, hU⟩ := UvarGet_both b hb hl (at_ : Int) (by omega) (by omega)
    obtain ⟨v, nx, ok⟩ := r
    obtain ⟨hv, hyes, hno⟩ := hU
    dsimp only at hv hyes hno
    have impl_go : ∀ r : DR, Ev (fun k => impl_DeltaRead.j3 k b (minis : Int) (many : Int) ((8 * c : Nat) : Int) true b (at_ : Int) false out) r → Ev (fun k => impl_DeltaRead.l0 k b (minis : Int) (many : Int) ((8 * c : Nat) : Int) b (at_ : Int) false out) r := by
      intro r h
      refine Ev.step (fun k => by rw [impl_DeltaRead.l0]) ?_
      exact Ev.pos (by omega) h
    cases ok with
    | false =>
      refine ⟨([], 0, false), ?_, impl_go _ ?_, by simp⟩
      · refine Ev.step (fun k => by rw [spec_DeltaRead.l0]) ?_
        exact Ev.pos (by omega) (Ev.bind (zig_no s1) (Ev.neg Bool.false_ne_true (delta_fail_spec _ _ _ _ _ _ _)))
      · refine Ev.step (fun k => by rw [impl_DeltaRead.j3]) ?_
        obtain ⟨z, _, z2⟩ := Zag_both 0 (by omega) (by omega)
        exact Ev.pos rfl (Ev.bind (uvar_no out i1) (Ev.here z2 (Ev.here (a := ((0 : Int), (at_ : Int), true, out)) rfl (delta_fail_l1 _ _ _ _ _ _ _ _ _))))
    | true =>
      obtain ⟨z, z1, z2⟩ := Zag_both v hv.1 hv.2
      obtain ⟨hy1, hy2⟩ := hyes rfl
      obtain ⟨N, rfl⟩ := Int.eq_ofNat_of_zero_le (show 0 ≤ nx by omega)
      have w1 : Unit → wrap64 ((b.length : Int) - (N : Int)) = b.length - N := fun _ => wrap64_id (by omega) (by omega)
      by_cases hfit : N + minis ≤ b.length
      case neg =>
        refine ⟨([], 0, false), ?_, impl_go _ ?_, by simp⟩
        · refine Ev.step (fun k => by rw [spec_DeltaRead.l0]) ?_
          refine Ev.pos (by omega) (Ev.bind (zig_yes s1 z1) (Ev.pos rfl ?_))
          dsimp only
          rw [w1 (), decide_eq_true (by omega)]
          exact delta_fail_spec _ _ _ _ _ _ _
        · refine Ev.step (fun k => by rw [impl_DeltaRead.j3]) ?_
          refine Ev.pos rfl (Ev.bind (uvar_yes out i1) (Ev.here z2 (Ev.here (a := ((0 : Int), (N : Int), true, out)) ?_ (delta_fail_l1 _ _ _ _ _ _ _ _ _))))
          unfold impl_deltaReader_take.f
          rw [if_neg Bool.false_ne_true, w1 (), if_pos (by omega)]
      have eN : Unit → wrap64 ((N : Int) + (minis : Int)) = ((N + minis : Nat) : Int) := fun _ => by rw [wrap64_id (by omega) (by omega)]; omega
      obtain ⟨r, r1, r2, r3⟩ := delta_inner b hb hl block minis c many hc0 hc hm0 hmi hmany hS z N hfit out.length h1
        (fun out' at' g1 g2 g3 => ih out' at' (by omega) (by omega) g2 g3) minis 0 (by omega) out (N + minis) (.inl ⟨rfl, rfl, hlt⟩) h2 hfit
      refine ⟨r, ?_, impl_go _ ?_, r3⟩
      · refine Ev.step (fun k => by rw [spec_DeltaRead.l0]) ?_
        refine Ev.pos (by omega) (Ev.bind (zig_yes s1 z1) (Ev.pos rfl ?_))
        dsimp only
        rw [w1 (), decide_eq_false (by omega)]
        refine Ev.step (fun k => by rw [spec_DeltaRead.j3]) ?_
        rw [eN ()]
        exact Ev.neg (by decide) r1
      · refine Ev.step (fun k => by rw [impl_DeltaRead.j3]) ?_
        refine Ev.pos rfl (Ev.bind (uvar_yes out i1) (Ev.here z2 (Ev.here (a := ((N : Int), ((N + minis : Nat) : Int), false, out)) ?_ r2)))
        unfold impl_deltaReader_take.f
        dsimp only
        rw [if_neg Bool.false_ne_true, w1 (), if_neg (by omega), eN (), wrap64_id (x := ((N + minis : Nat) : Int) - (minis : Int)) (by omega) (by omega)]
        congr 2
        omega
/-- The head of the bytes: a number and where it ends. -/
theorem delta_uvar (b : List Int) (hb : ∀ x ∈ b, 0 ≤ x ∧ x ≤ 255) (hl : b.length ≤ 1048576) (at_ : Int) (i0 : -9223372036854775808 ≤ at_) (i1 : at_ ≤ 9223372036854775807) (bad : Bool) (xs : List Int) :
    ∃ q : Int × Int × Bool × List Int, Ev (fun k => impl_deltaReader_uvar.f k b at_ bad xs) q ∧ q.2.2.2 = xs ∧ (bad = true → q = (0, at_, true, xs)) ∧
      (bad = false → ∃ r : Int × Int × Bool, Ev (fun k => spec_UvarGet.f k b at_) r ∧ UG b at_ r ∧ (r.2.2 = true → q = (r.1, r.2.1, false, xs)) ∧ (r.2.2 = false → q = (0, at_, true, xs))) := by
  obtain ⟨r, s1, i1', hU⟩ := UvarGet_both b hb hl at_ i0 i1
  cases bad with
  | true => exact ⟨_, uvar_bad xs i1', rfl, fun _ => rfl, fun h => (by cases h)⟩
  | false =>
    obtain ⟨v, nx, ok⟩ := r
    cases ok with
    | true => exact ⟨_, uvar_yes xs i1', rfl, fun h => (by cases h), fun _ => ⟨_, s1, hU, fun _ => rfl, fun h => (by cases h)⟩⟩
    | false => exact ⟨_, uvar_no xs i1', rfl, fun h => (by cases h), fun _ => ⟨_, s1, hU, fun h => (by cases h), fun _ => rfl⟩⟩
theorem spec_uvar_any (b : List Int) (hb : ∀ x ∈ b, 0 ≤ x ∧ x ≤ 255) (hl : b.length ≤ 1048576) (at_ : Int) (i0 : -9223372036854775808 ≤ at_) (i1 : at_ ≤ 9223372036854775807) : ∃ r, Ev (fun k => spec_UvarGet.f k b at_) r ∧ UG b at_ r := by
  obtain ⟨r, s1, _, hU⟩ := UvarGet_both b hb hl at_ i0 i1
  exact ⟨r, s1, hU⟩
def GoodN (B m n : Int) : Prop := (128 ≤ B ∧ B ≤ 1024) ∧ Int.tmod B 128 = 0 ∧ (1 ≤ m ∧ m ≤ B) ∧ Int.tmod B m = 0 ∧ Int.tmod (wrap64 (Int.tdiv B m)) 32 = 0 ∧ (0 ≤ n ∧ n ≤ 2000)
theorem spec_j0_bad (b : List Int) (at_ B m n z : Int) : Ev (fun k => spec_DeltaRead.j0 k b at_ [] B m n z true) (([], 0, false) : DR) :=
  Ev.step (fun k => by rw [spec_DeltaRead.j0]) (by exact Ev.pos rfl (Ev.now _))
theorem spec_delta (b : List Int) (at_ : Int) (hin : 0 ≤ at_ ∧ at_ ≤ b.length) {r1 r2 r3 r4 : Int × Int × Bool} (e1 : Ev (fun k => spec_UvarGet.f k b at_) r1) (e2 : Ev (fun k => spec_UvarGet.f k b r1.2.1) r2) (e3 : Ev (fun k => spec_UvarGet.f k b r2.2.1) r3) (e4 : Ev (fun k => spec_ZigGet.f k b r3.2.1) r4) (res : DR)
    (hn : ¬ (r1.2.2 = true ∧ r2.2.2 = true ∧ r3.2.2 = true ∧ r4.2.2 = true ∧ GoodN r1.1 r2.1 r3.1) → res = ([], 0, false))
    (hy : r1.2.2 = true ∧ r2.2.2 = true ∧ r3.2.2 = true ∧ r4.2.2 = true ∧ GoodN r1.1 r2.1 r3.1 → Ev (fun k => spec_DeltaRead.j0 k b r4.2.1 [] r1.1 r2.1 r3.1 r4.1 false) res) : Ev (fun k => spec_DeltaRead.f k b at_) res := by
  unfold spec_DeltaRead.f
  refine Ev.here rfl (Ev.here (l1In_some _ _ _) (Ev.pos (decide_eq_true hin) ?_))
  refine Ev.bind e1 (Ev.bind e2 (Ev.bind e3 (Ev.bind e4 ?_)))
  have bad : ¬ (r1.2.2 = true ∧ r2.2.2 = true ∧ r3.2.2 = true ∧ r4.2.2 = true ∧ GoodN r1.1 r2.1 r3.1) → Ev (fun k => spec_DeltaRead.j0 k b r4.2.1 [] r1.1 r2.1 r3.1 r4.1 true) res := by
    intro h
    rw [hn h]
    exact spec_j0_bad _ _ _ _ _ _
  clear hn e1 e2 e3 e4
  by_cases a1 : r1.2.2 = true
  case neg => exact Ev.neg a1 (bad fun g => a1 g.1)
  refine Ev.pos a1 ?_
  by_cases a2 : r2.2.2 = true
  case neg => exact Ev.neg a2 (bad fun g => a2 g.2.1)
  refine Ev.pos a2 ?_
  by_cases a3 : r3.2.2 = true
  case neg => exact Ev.neg a3 (bad fun g => a3 g.2.2.1)
  refine Ev.pos a3 ?_
  by_cases a4 : r4.2.2 = true
  case neg => exact Ev.neg a4 (bad fun g => a4 g.2.2.2.1)
  refine Ev.pos a4 ?_
  refine Ev.here (l1In_some _ _ _) ?_
  by_cases c1 : 128 ≤ r1.1 ∧ r1.1 ≤ 1024
  case neg => exact Ev.neg (by rw [decide_eq_false c1]; exact Bool.false_ne_true) (bad fun g => c1 g.2.2.2.2.1)
  refine Ev.pos (decide_eq_true c1) ?_
  by_cases c2 : Int.tmod r1.1 128 = 0
  case neg => exact Ev.neg c2 (bad fun g => c2 g.2.2.2.2.2.1)
  refine Ev.pos c2 ?_
  refine Ev.here (l1In_some _ _ _) ?_
  by_cases c3 : 1 ≤ r2.1 ∧ r2.1 ≤ r1.1
  case neg => exact Ev.neg (by rw [decide_eq_false c3]; exact Bool.false_ne_true) (bad fun g => c3 g.2.2.2.2.2.2.1)
  refine Ev.pos (decide_eq_true c3) (Ev.neg (by have := c3.1; intro h; rw [h] at this; exact absurd this (by decide)) ?_)
  by_cases c4 : Int.tmod r1.1 r2.1 = 0
  case neg => exact Ev.neg c4 (bad fun g => c4 g.2.2.2.2.2.2.2.1)
  refine Ev.pos c4 ?_
  by_cases c5 : Int.tmod (wrap64 (Int.tdiv r1.1 r2.1)) 32 = 0
  case neg => exact Ev.neg c5 (bad fun g => c5 g.2.2.2.2.2.2.2.2.1)
  refine Ev.pos c5 ?_
  refine Ev.here (l1In_some _ _ _) ?_
  by_cases c6 : 0 ≤ r3.1 ∧ r3.1 ≤ 2000
  case neg => rw [decide_eq_false c6]; exact bad fun g => c6 g.2.2.2.2.2.2.2.2.2
  rw [decide_eq_true c6]
  exact hy ⟨a1, a2, a3, a4, c1, c2, c3, c4, c5, c6⟩
theorem impl_j0_bad (b : List Int) (B m n z at_ : Int) (f : Bool) (xs : List Int) : Ev (fun k => impl_DeltaRead.j0 k b B m n z true b at_ f xs) (([], 0, false) : DR) :=
  Ev.step (fun k => by rw [impl_DeltaRead.j0]) (by exact Ev.pos rfl (Ev.now _))
theorem impl_j1_bad (b : List Int) (B m n z at_ : Int) (f : Bool) (xs : List Int) : Ev (fun k => impl_DeltaRead.j1 k b B m n z true b at_ f xs) (([], 0, false) : DR) :=
  Ev.step (fun k => by rw [impl_DeltaRead.j1]) (by exact Ev.pos rfl (Ev.now _))
theorem impl_delta (b : List Int) (at_ : Int) (hin : 0 ≤ at_ ∧ at_ ≤ b.length) {q1 q2 q3 q4 : Int × Int × Bool × List Int} {t : Int} (e1 : Ev (fun k => impl_deltaReader_uvar.f k b at_ false []) q1) (e2 : Ev (fun k => impl_deltaReader_uvar.f k b q1.2.1 q1.2.2.1 q1.2.2.2) q2) (e3 : Ev (fun k => impl_deltaReader_uvar.f k b q2.2.1 q2.2.2.1 q2.2.2.2) q3) (e4 : Ev (fun k => impl_deltaReader_uvar.f k b q3.2.1 q3.2.2.1 q3.2.2.2) q4) (hz : impl_Zag.f q4.1 = some t) (res : DR)
    (hn : ¬ (q4.2.2.1 = false ∧ GoodN q1.1 q2.1 q3.1) → res = ([], 0, false))
    (h0 : q4.2.2.1 = false → GoodN q1.1 q2.1 q3.1 → q3.1 = 0 → res = ([], q4.2.1, true))
    (hy : q4.2.2.1 = false → GoodN q1.1 q2.1 q3.1 → q3.1 ≠ 0 → Ev (fun k => impl_DeltaRead.l0 k b q2.1 q3.1 (wrap64 (Int.tdiv q1.1 q2.1)) b q4.2.1 q4.2.2.1 [t]) res) : Ev (fun k => impl_DeltaRead.f k b at_) res := by
  unfold impl_DeltaRead.f
  refine Ev.here (within_some _ _ _) (Ev.pos (decide_eq_true hin) ?_)
  refine Ev.bind e1 (Ev.bind e2 (Ev.bind e3 (Ev.bind e4 (Ev.here hz ?_))))
  have bad : ¬ (q4.2.2.1 = false ∧ GoodN q1.1 q2.1 q3.1) → Ev (fun k => impl_DeltaRead.j0 k b q1.1 q2.1 q3.1 t true b q4.2.1 q4.2.2.1 q4.2.2.2) res := by
    intro h
    rw [hn h]
    exact impl_j0_bad _ _ _ _ _ _ _ _
  clear e1 e2 e3 e4
  by_cases a1 : q4.2.2.1 = true
  · exact Ev.pos a1 (bad fun g => by rw [a1] at g; cases g.1)
  refine Ev.neg a1 ?_
  have a2 : q4.2.2.1 = false := Bool.eq_false_iff.mpr a1
  refine Ev.here (within_some _ _ _) ?_
  by_cases c1 : 128 ≤ q1.1 ∧ q1.1 ≤ 1024
  case neg => exact Ev.neg (by rw [decide_eq_false c1]; exact Bool.false_ne_true) (bad fun g => c1 g.2.1)
  refine Ev.pos (decide_eq_true c1) ?_
  by_cases c2 : Int.tmod q1.1 128 = 0
  case neg => exact Ev.neg c2 (bad fun g => c2 g.2.2.1)
  refine Ev.pos c2 ?_
  refine Ev.here (within_some _ _ _) ?_
  by_cases c3 : 1 ≤ q2.1 ∧ q2.1 ≤ q1.1
  case neg => exact Ev.neg (by rw [decide_eq_false c3]; exact Bool.false_ne_true) (bad fun g => c3 g.2.2.2.1)
  refine Ev.pos (decide_eq_true c3) ?_
  have hm : ¬ q2.1 = 0 := by have := c3.1; intro h; rw [h] at this; exact absurd this (by decide)
  refine Ev.here (within_some _ _ _) ?_
  by_cases c6 : 0 ≤ q3.1 ∧ q3.1 ≤ 2000
  case neg => rw [decide_eq_false c6]; exact bad fun g => c6 g.2.2.2.2.2.2
  rw [decide_eq_true c6]
  refine Ev.step (fun k => by rw [impl_DeltaRead.j0]) ?_
  refine Ev.neg Bool.false_ne_true (Ev.neg hm ?_)
  by_cases c4 : Int.tmod q1.1 q2.1 = 0
  case neg =>
    rw [hn fun g => c4 g.2.2.2.2.1]
    exact Ev.neg c4 (impl_j1_bad _ _ _ _ _ _ _ _)
  refine Ev.pos c4 ?_
  by_cases c5 : Int.tmod (wrap64 (Int.tdiv q1.1 q2.1)) 32 = 0
  case neg =>
    rw [hn fun g => c5 g.2.2.2.2.2.1, show ((Int.tmod (wrap64 (Int.tdiv q1.1 q2.1)) 32) != 0) = true from bne_iff_ne.mpr c5]
    exact impl_j1_bad _ _ _ _ _ _ _ _
  have G : GoodN q1.1 q2.1 q3.1 := ⟨c1, c2, c3, c4, c5, c6⟩
  rw [c5]
  refine Ev.step (fun k => by rw [impl_DeltaRead.j1]) ?_
  refine Ev.neg Bool.false_ne_true ?_
  by_cases z : q3.1 = 0
  · rw [h0 a2 G z]
    exact Ev.pos z (Ev.now _)
  · exact Ev.neg z (Ev.neg hm (hy a2 G z))
theorem UG_range {b : List Int} {at_ : Int} {r : Int × Int × Bool} (h : UG b at_ r) (h0 : 0 ≤ at_) : 0 ≤ r.2.1 ∧ r.2.1 ≤ b.length := by
  obtain ⟨_, hy, hn⟩ := h
  by_cases e : r.2.2 = true
  · have := hy e; omega
  · rw [hn (Bool.eq_false_iff.mpr e)]; simp
theorem good_c {B m n : Int} (h : GoodN B m n) : ∃ c : Nat, wrap64 (Int.tdiv B m) = ((8 * c : Nat) : Int) ∧ 1 ≤ c ∧ c ≤ 128 := by
  obtain ⟨h1, _, h3, h4, h5, _⟩ := h
  obtain ⟨M, rfl⟩ := Int.eq_ofNat_of_zero_le (show 0 ≤ m by omega)
  obtain ⟨b, rfl⟩ := Int.eq_ofNat_of_zero_le (show 0 ≤ B by omega)
  have e : Int.tdiv (b : Int) (M : Int) = ((b / M : Nat) : Int) := by rw [Int.tdiv_eq_ediv_of_nonneg (by omega)]; rfl
  have l1 : b / M ≤ b := Nat.div_le_self _ _
  have l2 : 1 ≤ b / M := (Nat.one_le_div_iff (by omega)).mpr (by omega)
  obtain ⟨s, hs⟩ : ∃ s, s = b / M := ⟨_, rfl⟩
  rw [e, ← hs, wrap64_id (by omega) (by omega)] at h5
  rw [e, ← hs, wrap64_id (by omega) (by omega)]
  rw [Int.tmod_eq_emod_of_nonneg (by omega)] at h5
  exact ⟨s / 8, by omega, by omega, by omega⟩
set_option maxHeartbeats 4000000 in
theorem DeltaRead_both (b : List Int) (hb : ∀ x ∈ b, 0 ≤ x ∧ x ≤ 255) (hl : b.length ≤ 1048576) (at_ : Int) (i0 : -9223372036854775808 ≤ at_) (i1 : at_ ≤ 9223372036854775807) :
    ∃ r : DR, Ev (fun k => spec_DeltaRead.f k b at_) r ∧ Ev (fun k => impl_DeltaRead.f k b at_) r ∧ r.1.length ≤ 2000 ∧ 0 ≤ r.2.1 ∧ r.2.1 ≤ b.length := by
  by_cases hin : 0 ≤ at_ ∧ at_ ≤ b.length
  case neg =>
    refine ⟨([], 0, false), ?_, ?_, by simp⟩
    · unfold spec_DeltaRead.f
      exact Ev.here rfl (Ev.here (l1In_some _ _ _) (Ev.neg (by rw [decide_eq_false hin]; exact Bool.false_ne_true) (Ev.now _)))
    · unfold impl_DeltaRead.f
      exact Ev.here (within_some _ _ _) (Ev.neg (by rw [decide_eq_false hin]; exact Bool.false_ne_true) (Ev.now _))
  obtain ⟨r1, s1, j1, U1⟩ := UvarGet_both b hb hl at_ i0 i1
  have g1 := UG_range U1 hin.1
  obtain ⟨r2, s2, j2, U2⟩ := UvarGet_both b hb hl r1.2.1 (by omega) (by omega)
  have g2 := UG_range U2 g1.1
  obtain ⟨r3, s3, j3, U3⟩ := UvarGet_both b hb hl r2.2.1 (by omega) (by omega)
  have g3 := UG_range U3 g2.1
  obtain ⟨r4, s4, j4, U4⟩ := UvarGet_both b hb hl r3.2.1 (by omega) (by omega)
  have g4 := UG_range U4 g3.1
  obtain ⟨z, zs, zi⟩ := Zag_both r4.1 U4.1.1 U4.1.2
  obtain ⟨z0, _, zi0⟩ := Zag_both 0 (by omega) (by omega)
  obtain ⟨v1, n1, o1⟩ := r1
  obtain ⟨v2, n2, o2⟩ := r2
  obtain ⟨v3, n3, o3⟩ := r3
  obtain ⟨v4, n4, o4⟩ := r4
  dsimp only at s1 j1 g1 s2 j2 g2 s3 j3 g3 s4 j4 g4 zs zi
  have sz : ∃ y : Int × Int × Bool, Ev (fun k => spec_ZigGet.f k b n3) y ∧ (o4 = true → y = (z, n4, true)) ∧ (o4 = false → y.2.2 = false) := by
    cases o4 with
    | true => exact ⟨_, zig_yes s4 zs, fun _ => rfl, fun h => by cases h⟩
    | false => exact ⟨_, zig_no s4, (fun h => by cases h), fun _ => rfl⟩
  obtain ⟨y, ys, yy, yn⟩ := sz
  by_cases ok : o1 = true ∧ o2 = true ∧ o3 = true ∧ o4 = true
  case neg =>
    refine ⟨([], 0, false), spec_delta b at_ hin s1 s2 s3 ys _ (fun _ => rfl) (fun g => ?_), ?_, by simp⟩
    · exfalso
      refine ok ⟨g.1, g.2.1, g.2.2.1, ?_⟩
      by_cases h : o4 = true
      · exact h
      · have := yn (Bool.eq_false_iff.mpr h)
        rw [this] at g
        exact absurd g.2.2.2.1 Bool.false_ne_true
    · cases o1 with
      | false => exact impl_delta b at_ hin (uvar_no [] j1) (uvar_bad [] j1) (uvar_bad [] j1) (uvar_bad [] j1) zi0 _ (fun _ => rfl) (fun h => by cases h) (fun h => by cases h)
      | true =>
        cases o2 with
        | false => exact impl_delta b at_ hin (uvar_yes [] j1) (uvar_no [] j2) (uvar_bad [] j2) (uvar_bad [] j2) zi0 _ (fun _ => rfl) (fun h => by cases h) (fun h => by cases h)
        | true =>
          cases o3 with
          | false => exact impl_delta b at_ hin (uvar_yes [] j1) (uvar_yes [] j2) (uvar_no [] j3) (uvar_bad [] j3) zi0 _ (fun _ => rfl) (fun h => by cases h) (fun h => by cases h)
          | true =>
            cases o4 with
            | false => exact impl_delta b at_ hin (uvar_yes [] j1) (uvar_yes [] j2) (uvar_yes [] j3) (uvar_no [] j4) zi0 _ (fun _ => rfl) (fun h => by cases h) (fun h => by cases h)
            | true => exact absurd ⟨rfl, rfl, rfl, rfl⟩ ok
  obtain ⟨rfl, rfl, rfl, rfl⟩ := ok
  obtain rfl := yy rfl
  clear yy yn U1 U2 U3 U4 zi0
  by_cases G : GoodN v1 v2 v3
  case neg =>
    refine ⟨([], 0, false), spec_delta b at_ hin s1 s2 s3 ys _ (fun _ => rfl) (fun g => absurd g.2.2.2.2 G), ?_, by simp⟩
    exact impl_delta b at_ hin (uvar_yes [] j1) (uvar_yes [] j2) (uvar_yes [] j3) (uvar_yes [] j4) zi _ (fun _ => rfl) (fun _ g => absurd g G) (fun _ g => absurd g G)
  by_cases h0 : v3 = 0
  · refine ⟨([], n4, true), spec_delta b at_ hin s1 s2 s3 ys _ (fun g => absurd ⟨rfl, rfl, rfl, rfl, G⟩ g) (fun _ => ?_), ?_, by simp, g4.1, g4.2⟩
    · refine Ev.step (fun k => by rw [spec_DeltaRead.j0]) ?_
      refine Ev.neg Bool.false_ne_true (Ev.here rfl (Ev.neg (by dsimp only; omega) ?_))
      refine Ev.step (fun k => by rw [spec_DeltaRead.j1]) ?_
      refine Ev.step (fun k => by rw [spec_DeltaRead.l0]) ?_
      exact Ev.neg (by simp; omega) (Ev.now _)
    · exact impl_delta b at_ hin (uvar_yes [] j1) (uvar_yes [] j2) (uvar_yes [] j3) (uvar_yes [] j4) zi _ (fun g => absurd ⟨rfl, G⟩ g) (fun _ _ _ => rfl) (fun _ _ h => absurd h0 h)
  obtain ⟨c, hS, c1, c2⟩ := good_c G
  have hG := G
  obtain ⟨k1, _, k3, _, _, k6⟩ := hG
  obtain ⟨M, rfl⟩ := Int.eq_ofNat_of_zero_le (show 0 ≤ v2 by omega)
  obtain ⟨n, rfl⟩ := Int.eq_ofNat_of_zero_le (show 0 ≤ v3 by omega)
  obtain ⟨a, rfl⟩ := Int.eq_ofNat_of_zero_le (show 0 ≤ n4 by omega)
  have hS' : Unit → wrap64 (Int.tdiv v1 (M : Int)) = ((8 * c : Nat) : Int) := fun _ => hS
  clear hS
  obtain ⟨r, x1, x2, x3⟩ := delta_outer b hb hl v1 M c n c1 c2 (by omega) (by omega) (by omega) hS' n [z] a (by omega) (by simp) (by simp; omega) (by omega)
  refine ⟨r, spec_delta b at_ hin s1 s2 s3 ys _ (fun g => absurd ⟨rfl, rfl, rfl, rfl, G⟩ g) (fun _ => ?_), ?_, x3⟩
  · refine Ev.step (fun k => by rw [spec_DeltaRead.j0]) ?_
    refine Ev.neg Bool.false_ne_true (Ev.here rfl (Ev.pos (by dsimp only; omega) (Ev.pos (by decide) ?_)))
    refine Ev.step (fun k => by rw [spec_DeltaRead.j1]) ?_
    exact x1
  · refine impl_delta b at_ hin (uvar_yes [] j1) (uvar_yes [] j2) (uvar_yes [] j3) (uvar_yes [] j4) zi _ (fun g => absurd ⟨rfl, G⟩ g) (fun _ _ h => absurd h h0) (fun _ _ _ => ?_)
    dsimp only
    rw [hS' ()]
    exact x2
abbrev LR := List S59 × Int × Bool
def LRok (b : List Int) (r : LR) : Prop := r.1.length ≤ 2000 ∧ 0 ≤ r.2.1 ∧ r.2.1 ≤ b.length ∧ ∀ v ∈ r.1, v.f1.size ≤ 40
theorem LRok_no (b : List Int) : LRok b ([], 0, false) := ⟨by simp, by simp, by simp, by simp⟩
theorem cut_size (b : List Int) (at_ n : Nat) (h : at_ + n ≤ b.length) : (strOfNums ((b.take (at_ + n)).drop at_)).size = n := by
  have e : ∀ xs : List Int, (strOfNums xs).size = xs.length := fun xs => by simp [strOfNums, ByteArray.size]
  rw [e, List.length_drop, List.length_take]; omega
set_option maxHeartbeats 4000000 in
theorem length_loops (b : List Int) (hl : b.length ≤ 1048576) (lens : List Int) (hn : lens.length ≤ 2000) : ∀ (d i : Nat), i + d = lens.length → ∀ (out : List S59) (at_ : Nat), out.length = i → at_ ≤ b.length → (∀ v ∈ out, v.f1.size ≤ 40) →
    ∃ r : LR, Ev (fun k => spec_LengthRead.l0 k b (at_ : Int) [] lens out (i : Int)) r ∧ Ev (fun k => impl_LengthRead.l0 k b (at_ : Int) out lens (lens.length : Int) (i : Int)) r ∧ LRok b r := by
  intro d
  induction d with
  | zero =>
    intro i hi out at_ ho ha hv
    refine ⟨(out, (at_ : Int), true), ?_, ?_, by show out.length ≤ 2000; omega, by show (0 : Int) ≤ (at_ : Int); omega, by show (at_ : Int) ≤ b.length; omega, hv⟩
    · exact Ev.step (fun k => by rw [spec_LengthRead.l0]) (by exact Ev.neg (by omega) (Ev.now _))
    · exact Ev.step (fun k => by rw [impl_LengthRead.l0]) (by exact Ev.neg (by omega) (Ev.now _))
  | succ d ih =>
    intro i hi out at_ ho ha hv
    have w1 : Unit → wrap64 ((b.length : Int) - (at_ : Int)) = b.length - at_ := fun _ => wrap64_id (by omega) (by omega)
    by_cases h1 : 0 ≤ rd lens (i : Int) ∧ rd lens (i : Int) ≤ 40
    case neg =>
      refine ⟨([], 0, false), ?_, ?_, LRok_no b⟩
      · refine Ev.step (fun k => by rw [spec_LengthRead.l0]) ?_
        exact Ev.pos (by omega) (Ev.pos (by omega) (Ev.here (l1In_some _ _ _) (Ev.neg (by rw [decide_eq_false h1]; exact Bool.false_ne_true) (Ev.now _))))
      · refine Ev.step (fun k => by rw [impl_LengthRead.l0]) ?_
        exact Ev.pos (by omega) (Ev.pos (by omega) (Ev.pos (by omega) (Ev.here (within_some _ _ _) (Ev.neg (by rw [decide_eq_false h1]; exact Bool.false_ne_true) (Ev.now _)))))
    obtain ⟨n, en⟩ := Int.eq_ofNat_of_zero_le h1.1
    by_cases h2 : at_ + n ≤ b.length
    case neg =>
      refine ⟨([], 0, false), ?_, ?_, LRok_no b⟩
      · refine Ev.step (fun k => by rw [spec_LengthRead.l0]) ?_
        exact Ev.pos (by omega) (Ev.pos (by omega) (Ev.here (l1In_some _ _ _) (Ev.pos (decide_eq_true h1) (Ev.pos (by rw [w1 ()]; omega) (Ev.now _)))))
      · refine Ev.step (fun k => by rw [impl_LengthRead.l0]) ?_
        exact Ev.pos (by omega) (Ev.pos (by omega) (Ev.pos (by omega) (Ev.here (within_some _ _ _) (Ev.pos (decide_eq_true h1) (Ev.pos (by rw [w1 ()]; omega) (Ev.now _))))))
    have w2 : Unit → wrap64 ((at_ : Int) + rd lens (i : Int)) = ((at_ + n : Nat) : Int) := fun _ => by rw [en, wrap64_id (by omega) (by omega)]; omega
    have w3 : Unit → wrap64 ((i : Int) + 1) = ((i + 1 : Nat) : Int) := fun _ => by rw [wrap64_id (by omega) (by omega)]; omega
    have sz := cut_size b at_ n h2
    obtain ⟨r, r1, r2, r3⟩ := ih (i + 1) (by omega) (out ++ [(⟨0, strOfNums ((b.take (at_ + n)).drop at_)⟩ : S59)]) (at_ + n) (by rw [List.length_append]; simp; omega) h2 (by
      intro v hv'
      rcases List.mem_append.1 hv' with h | h
      · exact hv v h
      · rw [List.mem_singleton.1 h]; show (strOfNums ((b.take (at_ + n)).drop at_)).size ≤ 40; omega)
    refine ⟨r, ?_, ?_, r3⟩
    · refine Ev.step (fun k => by rw [spec_LengthRead.l0]) ?_
      refine Ev.pos (by omega) (Ev.pos (by omega) (Ev.here (l1In_some _ _ _) (Ev.pos (decide_eq_true h1) (Ev.neg (by rw [w1 ()]; omega) ?_))))
      rw [w2 (), w3 ()]
      exact Ev.pos (by omega) (Ev.pos (by omega) (Ev.pos (by omega) (Ev.pos (by omega) r1)))
    · refine Ev.step (fun k => by rw [impl_LengthRead.l0]) ?_
      refine Ev.pos (by omega) (Ev.pos (by omega) (Ev.pos (by omega) (Ev.here (within_some _ _ _) (Ev.pos (decide_eq_true h1) (Ev.neg (by rw [w1 ()]; omega) ?_)))))
      rw [w2 (), w3 ()]
      exact Ev.pos (by omega) (Ev.pos (by omega) (Ev.pos (by omega) (Ev.pos (by omega) r2)))
theorem LengthRead_both (b : List Int) (hb : ∀ x ∈ b, 0 ≤ x ∧ x ≤ 255) (hl : b.length ≤ 1048576) (at_ : Int) (i0 : -9223372036854775808 ≤ at_) (i1 : at_ ≤ 9223372036854775807) :
    ∃ r : LR, Ev (fun k => spec_LengthRead.f k b at_) r ∧ Ev (fun k => impl_LengthRead.f k b at_) r ∧ LRok b r := by
  obtain ⟨q, s, j, n1, n2, n3⟩ := DeltaRead_both b hb hl at_ i0 i1
  unfold spec_LengthRead.f impl_LengthRead.f
  by_cases ok : q.2.2 = true
  case neg => exact ⟨([], 0, false), Ev.here rfl (Ev.bind s (Ev.neg ok (Ev.now _))), Ev.bind j (Ev.neg ok (Ev.now _)), LRok_no b⟩
  obtain ⟨a, ea⟩ := Int.eq_ofNat_of_zero_le n2
  obtain ⟨r, r1, r2, r3⟩ := length_loops b hl q.1 n1 q.1.length 0 (by omega) [] a rfl (by omega) (by simp)
  refine ⟨r, Ev.here rfl (Ev.bind s (Ev.pos ok ?_)), Ev.bind j (Ev.pos ok ?_), r3⟩
  · rw [ea]; exact r1
  · rw [ea]; exact r2
theorem front_size (l t : ByteArray) (n : Nat) (h : n ≤ l.size) : (l.extract 0 n ++ t).size = n + t.size := by
  rw [ByteArray.size_append, ByteArray.size_extract]; omega
set_option maxHeartbeats 4000000 in
theorem front_loops (b : List Int) (pre : List Int) (hn : pre.length ≤ 2000) (rest : List S59) (hr : rest.length = pre.length) (hs : ∀ v ∈ rest, v.f1.size ≤ 40) (fin : Int) (hf : 0 ≤ fin ∧ fin ≤ b.length) : ∀ (d i : Nat), i + d = pre.length → ∀ (out : List S59) (last : ByteArray), out.length = i → last.size ≤ 40 → (∀ v ∈ out, v.f1.size ≤ 40) →
    ∃ r : LR, Ev (fun k => spec_FrontRead.l0 k [] pre rest fin out last (i : Int)) r ∧ Ev (fun k => impl_FrontRead.l0 k rest fin out last pre (pre.length : Int) (i : Int)) r ∧ LRok b r := by
  intro d
  induction d with
  | zero =>
    intro i hi out last ho ha hv
    refine ⟨(out, fin, true), ?_, ?_, by show out.length ≤ 2000; omega, hf.1, hf.2, hv⟩
    · exact Ev.step (fun k => by rw [spec_FrontRead.l0]) (by exact Ev.neg (by omega) (Ev.now _))
    · exact Ev.step (fun k => by rw [impl_FrontRead.l0]) (by exact Ev.neg (by omega) (Ev.now _))
  | succ d ih =>
    intro i hi out last ho ha hv
    by_cases h1 : 0 ≤ rd pre (i : Int) ∧ rd pre (i : Int) ≤ (last.size : Int)
    case neg =>
      refine ⟨([], 0, false), ?_, ?_, LRok_no b⟩
      · refine Ev.step (fun k => by rw [spec_FrontRead.l0]) ?_
        exact Ev.pos (by omega) (Ev.pos (by omega) (Ev.here (l1In_some _ _ _) (Ev.neg (by rw [decide_eq_false h1]; exact Bool.false_ne_true) (Ev.now _))))
      · refine Ev.step (fun k => by rw [impl_FrontRead.l0]) ?_
        exact Ev.pos (by omega) (Ev.pos (by omega) (Ev.pos (by omega) (Ev.here (within_some _ _ _) (Ev.neg (by rw [decide_eq_false h1]; exact Bool.false_ne_true) (Ev.now _)))))
    obtain ⟨n, en⟩ := Int.eq_ofNat_of_zero_le h1.1
    have ht : ((rd_T59 rest (i : Int)).f1).size ≤ 40 := by
      have e : rd_T59 rest (i : Int) = rest[i]'(by omega) := getD_eq (by omega)
      rw [e]; exact hs _ (List.getElem_mem _)
    obtain ⟨t, et⟩ : ∃ t, t = (rd_T59 rest (i : Int)).f1 := ⟨_, rfl⟩
    rw [← et] at ht
    have hnl : n ≤ last.size := by omega
    have sz := front_size last t n hnl
    have e0 : ((n : Int)).toNat = n := by omega
    have w1 : Unit → wrap64 ((n : Int) + (t.size : Int)) = ((n + t.size : Nat) : Int) := fun _ => by rw [wrap64_id (by omega) (by omega)]; omega
    have w3 : Unit → wrap64 ((i : Int) + 1) = ((i + 1 : Nat) : Int) := fun _ => by rw [wrap64_id (by omega) (by omega)]; omega
    have hes : (last.extract 0 n).size = n := by rw [ByteArray.size_extract]; omega
    by_cases h2 : n + t.size ≤ 40
    case neg =>
      refine ⟨([], 0, false), ?_, ?_, LRok_no b⟩
      · refine Ev.step (fun k => by rw [spec_FrontRead.l0]) ?_
        refine Ev.pos (by omega) (Ev.pos (by omega) (Ev.here (l1In_some _ _ _) (Ev.pos (decide_eq_true h1) ?_)))
        rw [← et, en, e0]
        exact Ev.pos (by omega) (Ev.pos (by omega) (Ev.pos (by omega) (Ev.pos (by omega) (Ev.pos (by omega) (Ev.now _)))))
      · refine Ev.step (fun k => by rw [impl_FrontRead.l0]) ?_
        refine Ev.pos (by omega) (Ev.pos (by omega) (Ev.pos (by omega) (Ev.here (within_some _ _ _) (Ev.pos (decide_eq_true h1) (Ev.pos (by omega) ?_)))))
        rw [← et, en, w1 ()]
        exact Ev.pos (by omega) (Ev.now _)
    obtain ⟨r, r1, r2, r3⟩ := ih (i + 1) (by omega) (out ++ [(⟨0, last.extract 0 n ++ t⟩ : S59)]) (last.extract 0 n ++ t) (by rw [List.length_append]; simp; omega) (by omega) (by
      intro v hv'
      rcases List.mem_append.1 hv' with h | h
      · exact hv v h
      · rw [List.mem_singleton.1 h]; show (last.extract 0 n ++ t).size ≤ 40; omega)
    refine ⟨r, ?_, ?_, r3⟩
    · refine Ev.step (fun k => by rw [spec_FrontRead.l0]) ?_
      refine Ev.pos (by omega) (Ev.pos (by omega) (Ev.here (l1In_some _ _ _) (Ev.pos (decide_eq_true h1) ?_)))
      rw [← et, en, e0, w3 ()]
      exact Ev.pos (by omega) (Ev.pos (by omega) (Ev.pos (by omega) (Ev.pos (by omega) (Ev.neg (by omega) (Ev.pos (by omega) r1)))))
    · refine Ev.step (fun k => by rw [impl_FrontRead.l0]) ?_
      refine Ev.pos (by omega) (Ev.pos (by omega) (Ev.pos (by omega) (Ev.here (within_some _ _ _) (Ev.pos (decide_eq_true h1) (Ev.pos (by omega) ?_)))))
      rw [← et, en, w1 (), e0, w3 ()]
      exact Ev.neg (by omega) (Ev.pos (by omega) (Ev.pos (by omega) (Ev.pos (by omega) (Ev.pos (by omega) r2))))
theorem FrontRead_both (b : List Int) (hb : ∀ x ∈ b, 0 ≤ x ∧ x ≤ 255) (hl : b.length ≤ 1048576) (at_ : Int) (i0 : -9223372036854775808 ≤ at_) (i1 : at_ ≤ 9223372036854775807) :
    ∃ r : LR, Ev (fun k => spec_FrontRead.f k b at_) r ∧ Ev (fun k => impl_FrontRead.f k b at_) r ∧ LRok b r := by
  obtain ⟨q, s, j, n1, n2, n3⟩ := DeltaRead_both b hb hl at_ i0 i1
  obtain ⟨u, s2, j2, m1, m2, m3, m4⟩ := LengthRead_both b hb hl q.2.1 (by omega) (by omega)
  have bads : Ev (fun k => spec_FrontRead.j0 k [] q.1 u.1 u.2.1 true) (([], 0, false) : LR) := Ev.step (fun k => by rw [spec_FrontRead.j0]) (by exact Ev.pos rfl (Ev.now _))
  have badi : Ev (fun k => impl_FrontRead.j0 k q.1 u.1 u.2.1 true) (([], 0, false) : LR) := Ev.step (fun k => by rw [impl_FrontRead.j0]) (by exact Ev.pos rfl (Ev.now _))
  unfold spec_FrontRead.f impl_FrontRead.f
  by_cases ok : q.2.2 = true
  case neg => exact ⟨([], 0, false), Ev.here rfl (Ev.bind s (Ev.bind s2 (Ev.neg ok bads))), Ev.bind j (Ev.neg ok (Ev.now _)), LRok_no b⟩
  by_cases ok2 : u.2.2 = true
  case neg => exact ⟨([], 0, false), Ev.here rfl (Ev.bind s (Ev.bind s2 (Ev.pos ok (Ev.neg ok2 bads)))), Ev.bind j (Ev.pos ok (Ev.bind j2 (Ev.neg ok2 badi))), LRok_no b⟩
  by_cases hlen : u.1.length = q.1.length
  case neg =>
    have e1 : ((q.1.length : Int) != (u.1.length : Int)) = true := bne_iff_ne.mpr (by omega)
    have e2 : ((u.1.length : Int) != (q.1.length : Int)) = true := bne_iff_ne.mpr (by omega)
    refine ⟨([], 0, false), Ev.here rfl (Ev.bind s (Ev.bind s2 (Ev.pos ok (Ev.pos ok2 ?_)))), Ev.bind j (Ev.pos ok (Ev.bind j2 (Ev.pos ok2 ?_))), LRok_no b⟩
    · rw [e1]; exact bads
    · rw [e2]; exact badi
  have e1 : ((q.1.length : Int) != (u.1.length : Int)) = false := by rw [hlen]; simp
  have e2 : ((u.1.length : Int) != (q.1.length : Int)) = false := by rw [hlen]; simp
  obtain ⟨r, r1, r2, r3⟩ := front_loops b q.1 n1 u.1 hlen m4 u.2.1 ⟨m2, m3⟩ q.1.length 0 (by omega) [] ⟨#[]⟩ rfl (by decide) (by simp)
  refine ⟨r, Ev.here rfl (Ev.bind s (Ev.bind s2 (Ev.pos ok (Ev.pos ok2 ?_)))), Ev.bind j (Ev.pos ok (Ev.bind j2 (Ev.pos ok2 ?_))), r3⟩
  · rw [e1]
    exact Ev.step (fun k => by rw [spec_FrontRead.j0]) (by exact Ev.neg Bool.false_ne_true r1)
  · rw [e2]
    exact Ev.step (fun k => by rw [impl_FrontRead.j0]) (by exact Ev.neg Bool.false_ne_true r2)
theorem FnExactFrontRead : ∀ (x0 : List (Int)) (x1 : Int), (x0.length ≤ maxLen ∧ ∀ y ∈ x0, (Lit.int .u8 y).wf = true) → ((Lit.int .i64 x1).wf = true) → ∃ k, laws_FnExactFrontRead.f k x0 x1 = some true := by
  intro b at_ hx ha
  refine Ev.rounds ?_
  unfold laws_FnExactFrontRead.f
  by_cases hb : (b.length : Int) > 1048576
  · exact Ev.pos hb (Ev.now _)
  refine Ev.neg hb ?_
  have t1 := toByteS_ev b (by omega)
  obtain ⟨r, es, ei, hr, _⟩ := FrontRead_both b (fun x hx' => u8_of (hx.2 x hx')) (by omega) at_ (i64_of ha).1 (i64_of ha).2
  have q1 := eqByteS_ev b (by omega)
  have q2 := eqValS_ev r.1 (by omega)
  obtain ⟨m1, y1, p1, k1, _⟩ := markByteS_evm b 1 (by omega) (by omega)
  obtain ⟨m2, y2, p2, k2, k3⟩ := markValS_ev r.1 1 (by omega) (by omega)
  repeat' (first
    | with_reducible exact Ev.now _
    | with_reducible refine Ev.bind t1 ?_ | with_reducible refine Ev.bind es ?_ | with_reducible refine Ev.bind ei ?_
    | with_reducible refine Ev.bind q1 ?_ | with_reducible refine Ev.bind q2 ?_
    | with_reducible refine Ev.bind k1 ?_ | with_reducible refine Ev.bind k2 ?_ | with_reducible refine Ev.bind k3 ?_
    | refine Ev.pos (by first | rfl | omega) ?_
    | refine Ev.neg (by first | omega | decide | simp) ?_
    | refine Ev.step (fun k => by rw [laws_FnExactFrontRead.j0]) ?_
    | refine Ev.step (fun k => by rw [laws_FnExactFrontRead.j1]) ?_
    | refine Ev.step (fun k => by rw [laws_FnExactFrontRead.j2]) ?_)
end Go.Proofs.Ytgcanbeckamjeaa.Pure
