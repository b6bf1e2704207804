/- The pure statement of FnExactTreeRead: the printed functions answer as the law says, for all arguments. No condition. -/
import Derived.Test.YtgnelblghdfgiaaVFnExactTreeRead
import Derived.Test.YtgnelblghdfgiaaPFnExactTreeReadx
import Derived.Test.YtgnelblghdfgiaaArgFnExactTreeRead
namespace Go.Proofs.Ytgnelblghdfgiaa.Pure
open Go.RowKit Go.Proofs.Ytgnelblghdfgiaa.PFnExactTreeRead Go.Proofs.Ytgnelblghdfgiaa.Core Go.Proofs.YtgnelblghdfgiaaW.PrintWords Go.Proofs.YtgnelblghdfgiaaW.PrintLast Go.Proofs.YtgnelblghdfgiaaW.PrintMore Go.Proofs.YtgnelblghdfgiaaW.PrintMore2 Go.Proofs.Ytgnelblghdfgiaa.AFnExactTreeRead
set_option linter.unusedVariables false
set_option linter.unusedSimpArgs false
theorem toByteS_ev (l : List Int) (hl : l.length ≤ 281474976710656) : Ev (fun k => laws_toByteS.f k l) l := by
  unfold laws_toByteS.f
  refine Ev.pos (by omega) (Ev.pos (by omega) ?_)
  have := copy_loop (fun k out i => laws_toByteS.l0 k l out i) l id (fun out i r h ho hr => ?_) (fun out ho => ?_) (List.replicate ((l.length : Int)).toNat 0) (by simp)
  · simpa using this
  · refine Ev.step (fun k => by rw [laws_toByteS.l0]) ?_
    refine Ev.pos (by omega) (Ev.pos (by omega) (Ev.pos (by omega) ?_))
    rw [wrap64_id (by omega) (by omega), rd_eq (by simpa using h)]
    simpa using hr
  · exact Ev.step (fun k => by rw [laws_toByteS.l0]) (by exact Ev.neg (by omega) (Ev.now _))
theorem eqByteS_ev (l : List Int) (hl : l.length ≤ 9223372036854775806) : Ev (fun k => laws_eqByteS.f k l l) true := by
  unfold laws_eqByteS.f
  refine Ev.pos rfl ?_
  refine same_loop (fun k i => laws_eqByteS.l0 k l l i) l.length (fun i r h hr => ?_) ?_
  · refine Ev.step (fun k => by rw [laws_eqByteS.l0]) ?_
    refine Ev.pos (by omega) (Ev.pos (by omega) (Ev.pos (by omega) (Ev.pos rfl ?_)))
    rw [wrap64_id (by omega) (by omega)]
    simpa using hr
  · exact Ev.step (fun k => by rw [laws_eqByteS.l0]) (by exact Ev.neg (by omega) (Ev.now _))
theorem markByteS_evm (l : List Int) (c : Int) (hc : 0 ≤ c) (hl : c + l.length ≤ 9223372036854775806) : ∃ m ys, m = c + l.length ∧ Ev (fun k => laws_markByteS.f k l c) (m, ys) ∧ True := by
  have key : ∀ (d i : Nat) (xs : List Int) (c : Int), 0 ≤ c → i + d = xs.length → c + d ≤ 9223372036854775806 → xs.length ≤ 9223372036854775806 → ∃ ys, Ev (fun k => laws_markByteS.l0 k xs c (i : Int)) (c + d, ys) := by
    intro d
    induction d with
    | zero => intro i xs c h0 hi hc hx; exact ⟨xs, Ev.cast (Ev.step (fun k => by rw [laws_markByteS.l0]) (by exact Ev.neg (by omega) (Ev.now _))) (by simp)⟩
    | succ d ih =>
      intro i xs c h0 hi hc hx
      obtain ⟨ys, hy⟩ := ih (i + 1) (xs.set i (c % 256)) (c + 1) (by omega) (by simp; omega) (by omega) (by simpa using hx)
      refine ⟨ys, Ev.step (fun k => by rw [laws_markByteS.l0]) (Ev.pos (by omega) (Ev.pos (by omega) ?_))⟩
      rw [wrap64_id (x := c + 1) (by omega) (by omega), wrap64_id (x := (i : Int) + 1) (by omega) (by omega)]
      have e : c + 1 + (d : Int) = c + ((d + 1 : Nat) : Int) := by omega
      rw [e] at hy
      simpa using hy
  obtain ⟨ys, hy⟩ := key l.length 0 l c hc (by omega) hl (by omega)
  exact ⟨_, ys, rfl, hy, trivial⟩
theorem eqNode_ev (a : S40) : laws_eqNode.f a.f0 a.f1 a.f2 a.f3 a.f4 a.f0 a.f1 a.f2 a.f3 a.f4 = some true := by
  unfold laws_eqNode.f
  simp
theorem eqNodeS_ev (l : List S40) (hl : l.length ≤ 9223372036854775806) : Ev (fun k => laws_eqNodeS.f k l l) true := by
  unfold laws_eqNodeS.f
  refine Ev.pos rfl ?_
  refine same_loop (fun k i => laws_eqNodeS.l0 k l l i) l.length (fun i r h hr => ?_) ?_
  · refine Ev.step (fun k => by rw [laws_eqNodeS.l0]) ?_
    refine Ev.pos (by omega) (Ev.pos (by omega) (Ev.pos (by omega) (Ev.here (eqNode_ev _) (Ev.pos rfl ?_))))
    rw [wrap64_id (by omega) (by omega)]
    simpa using hr
  · exact Ev.step (fun k => by rw [laws_eqNodeS.l0]) (by exact Ev.neg (by omega) (Ev.now _))
theorem markText_l0_ev : ∀ (n : Nat) (c : Int) (out : ByteArray), 0 ≤ c → c < 10 ^ n → c ≤ 9223372036854775807 → out.size + n + 1 ≤ 1000 → ∃ t, Ev (fun k => laws_markText.l0 k c out) t := by
  intro n
  induction n with
  | zero =>
    intro c out h0 h1 hb hs
    obtain rfl : c = 0 := by simp at h1; omega
    exact ⟨_, Ev.step (fun k => by rw [laws_markText.l0]) (by exact Ev.neg (by omega) (Ev.pos (by omega) (Ev.now _)))⟩
  | succ n ih =>
    intro c out h0 h1 hb hs
    by_cases hc : c > 0
    · have h2 : c / 10 < 10 ^ n := by
        rw [Int.pow_succ] at h1
        exact Int.ediv_lt_of_lt_mul (by omega) h1
      obtain ⟨t, ht⟩ := ih (c / 10) (strOfNums [(wrap64 (48 + (Int.tmod c 10))) % 256] ++ out) (by omega) h2 (by omega) (by
        rw [ByteArray.size_append, strOfNums_size]; simp; omega)
      refine ⟨t, Ev.step (fun k => by rw [laws_markText.l0]) ?_⟩
      refine Ev.pos hc (Ev.here rfl (Ev.pos (by rw [strOfNums_size]; simp; omega) ?_))
      rw [Int.tdiv_eq_ediv_of_nonneg h0, wrap64_id (x := c / 10) (by omega) (by omega)]
      exact ht
    · obtain rfl : c = 0 := by omega
      exact ⟨_, Ev.step (fun k => by rw [laws_markText.l0]) (by exact Ev.neg (by omega) (Ev.pos (by omega) (Ev.now _)))⟩
theorem markText_ev (c : Int) (h : c ≤ 9223372036854775807) : ∃ t, Ev (fun k => laws_markText.f k c) t := by
  unfold laws_markText.f
  by_cases hc : c ≤ 0
  · exact ⟨_, Ev.pos hc (Ev.now _)⟩
  · obtain ⟨t, ht⟩ := markText_l0_ev 19 c (⟨#[]⟩ : ByteArray) (by omega) (by omega) h (by decide)
    exact ⟨t, Ev.neg hc ht⟩
noncomputable def mtxt (c : Int) : ByteArray := if h : c ≤ 9223372036854775807 then (markText_ev c h).choose else ByteArray.empty
theorem mtxt_ev {c : Int} (h : c ≤ 9223372036854775807) : Ev (fun k => laws_markText.f k c) (mtxt c) := by
  unfold mtxt
  rw [dif_pos h]
  exact (markText_ev c h).choose_spec
theorem markNodeS_ev (l : List S40) (c : Int) (hc : 0 ≤ c) (hl : c + 5 * l.length ≤ 9223372036854775806) : ∃ m ys, m = c + 5 * l.length ∧ Ev (fun k => laws_markNodeS.f k l c) (m, ys) ∧ Ev (fun k => laws_heldNodeS.f k ys c) m := by
  obtain ⟨m, ys, _, hm, h1, h2⟩ := marks_held 5 9223372036854775807 (by omega) (fun c (_ : S40) => (⟨c, c + 1, c + 1 + 1, mtxt (c + 1 + 1 + 1), c + 1 + 1 + 1 + 1⟩ : S40)) (fun k xs c i => laws_markNodeS.l0 k xs c i) (fun k xs c i => laws_heldNodeS.l0 k xs c i)
    (fun xs c i r h hb h0 hB hr => by
      refine Ev.step (fun k => by rw [laws_markNodeS.l0]) ?_
      refine Ev.pos (by omega) (Ev.pos (by omega) ?_)
      rw [wrap64_id (x := c + 1) (by omega) (by omega), wrap64_id (x := c + 1 + 1) (by omega) (by omega), wrap64_id (x := c + 1 + 1 + 1) (by omega) (by omega), wrap64_id (x := c + 1 + 1 + 1 + 1) (by omega) (by omega), wrap64_id (x := c + 1 + 1 + 1 + 1 + 1) (by omega) (by omega), wrap64_id (x := (i : Int) + 1) (by omega) (by omega)]
      refine Ev.here rfl ?_
      refine Ev.here rfl ?_
      refine Ev.here rfl ?_
      refine Ev.bind (mtxt_ev (by omega)) ?_
      refine Ev.here rfl ?_
      have e : c + 1 + 1 + 1 + 1 + 1 = c + 5 := by omega
      simpa [rd_T40, h, e] using hr)
    (fun xs c => Ev.step (fun k => by rw [laws_markNodeS.l0]) (by exact Ev.neg (by omega) (Ev.now _)))
    (fun xs c i r z h hb h0 hB hz hr => by
      have e : rd_T40 xs (i : Int) = xs[i] := getD_eq (by simpa using h)
      refine Ev.step (fun k => by rw [laws_heldNodeS.l0]) ?_
      refine Ev.pos (by omega) (Ev.pos (by omega) ?_)
      rw [wrap64_id (x := c + 1) (by omega) (by omega), wrap64_id (x := c + 1 + 1) (by omega) (by omega), wrap64_id (x := c + 1 + 1 + 1) (by omega) (by omega), wrap64_id (x := c + 1 + 1 + 1 + 1) (by omega) (by omega), wrap64_id (x := c + 1 + 1 + 1 + 1 + 1) (by omega) (by omega), wrap64_id (x := (i : Int) + 1) (by omega) (by omega)]
      refine Ev.pos (by rw [e, hz]) ?_
      refine Ev.pos (by rw [e, hz]) ?_
      refine Ev.pos (by rw [e, hz]) ?_
      refine Ev.bind (mtxt_ev (by omega)) (Ev.pos (by rw [e, hz]) ?_)
      refine Ev.pos (by rw [e, hz]) ?_
      have e : c + 1 + 1 + 1 + 1 + 1 = c + 5 := by omega
      simpa [e] using hr)
    (fun xs c => Ev.step (fun k => by rw [laws_heldNodeS.l0]) (by exact Ev.neg (by omega) (Ev.now _)))
    l c hc (by omega)
  exact ⟨m, ys, by omega, h1, h2⟩
theorem l1In_same (x lo hi : Int) : (if x ≥ lo then some (decide (x ≤ hi)) else some false) = some (decide (lo ≤ x ∧ x ≤ hi)) := by
  by_cases h : x ≥ lo
  · rw [if_pos h]; congr 1; simp; omega
  · rw [if_neg h]; congr 1; symm; simp; omega
theorem within_some (x lo hi : Int) : impl_within.f x lo hi = some (decide (lo ≤ x ∧ x ≤ hi)) := by unfold impl_within.f; exact l1In_same x lo hi
theorem l1In_some (x lo hi : Int) : spec_l1In.f x lo hi = some (decide (lo ≤ x ∧ x ≤ hi)) := by unfold spec_l1In.f; exact l1In_same x lo hi
theorem bv_ofInt_wrap (x : Int) : BitVec.ofInt 64 (wrap64 x) = BitVec.ofInt 64 x := by
  apply BitVec.eq_of_toNat_eq
  rw [BitVec.toNat_ofInt, BitVec.toNat_ofInt]
  congr 1
  unfold wrap64; omega
theorem or_wrap (a c : Nat) (ha : a < 2 ^ 64) (hc : c < 2 ^ 64) : Go.bits .or .i64 (wrap64 (a : Int)) (wrap64 (c : Int)) = wrap64 ((a ||| c : Nat) : Int) := by
  have e : Go.bits .or .i64 (wrap64 (a : Int)) (wrap64 (c : Int)) = IntKind.i64.wrap (((BitVec.ofInt 64 (wrap64 (a : Int)) ||| BitVec.ofInt 64 (wrap64 (c : Int))).toNat : Nat) : Int) := rfl
  rw [e, bv_ofInt_wrap, bv_ofInt_wrap, BitVec.ofInt_natCast, BitVec.ofInt_natCast, BitVec.toNat_or, BitVec.toNat_ofNat, BitVec.toNat_ofNat, Nat.mod_eq_of_lt ha, Nat.mod_eq_of_lt hc, IntKind.wrap_i64]
  unfold wrap64; omega
theorem or_digit (m a d : Nat) (ha : a < 2 ^ m) : a ||| d * 2 ^ m = a + d * 2 ^ m := by
  have := Nat.shiftLeft_add_eq_or_of_lt ha d
  rw [Nat.shiftLeft_eq] at this
  rw [Nat.or_comm, ← this, Nat.add_comm]
theorem emod_digit (x p : Int) (hp : 0 < p) : x % (p * 256) = x % p + (x / p) % 256 * p := by
  have h1 := Int.mul_ediv_add_emod x p
  have h2 := Int.mul_ediv_add_emod (x / p) 256
  have a0 := Int.emod_nonneg x (show p ≠ 0 by omega)
  have a1 := Int.emod_lt_of_pos x hp
  have b0 := Int.emod_nonneg (x / p) (show (256 : Int) ≠ 0 by omega)
  have b1 := Int.emod_lt_of_pos (x / p) (show (0 : Int) < 256 by omega)
  have e : x = (x % p + (x / p) % 256 * p) + (p * 256) * (x / p / 256) := by
    have e3 : p * (x / p) = p * (256 * (x / p / 256) + x / p % 256) := by rw [h2]
    rw [Int.mul_add] at e3
    have e4 : p * (256 * (x / p / 256)) = (p * 256) * (x / p / 256) := by rw [Int.mul_assoc]
    have e5 : p * (x / p % 256) = x / p % 256 * p := Int.mul_comm _ _
    omega
  have m0 : 0 ≤ (x / p) % 256 * p := Int.mul_nonneg b0 (by omega)
  have m1 : (x / p) % 256 * p ≤ 255 * p := Int.mul_le_mul_of_nonneg_right (by omega) (by omega)
  generalize hr : x % p + (x / p) % 256 * p = r at *
  conv => lhs; rw [e]
  rw [Int.add_mul_emod_self_left, Int.emod_eq_of_lt (by omega) (by omega)]
theorem bits_and_mask (x m : Int) (k : Nat) (hk : k ≤ 63) (hm : m = 2 ^ k - 1) : Go.bits .and .i64 x m = x % 2 ^ k := by
  have p0 : (0 : Int) < 2 ^ k := Int.pow_pos (by omega)
  have eP : (2 : Int) ^ k = ((2 ^ k : Nat) : Int) := by push_cast; rfl
  have h63 : 2 ^ k ≤ 2 ^ 63 := Nat.pow_le_pow_right (by omega) hk
  have n0 : 0 < 2 ^ k := Nat.pow_pos (by omega)
  have e : Go.bits .and .i64 x m = IntKind.i64.wrap ((((BitVec.ofInt 64 x) &&& (BitVec.ofInt 64 m)).toNat : Nat) : Int) := rfl
  rw [e, BitVec.toNat_and, BitVec.toNat_ofInt, BitVec.toNat_ofInt]
  have em : (m % ((2 ^ 64 : Nat) : Int)).toNat = 2 ^ k - 1 := by
    rw [hm, eP, Int.emod_eq_of_lt (by omega) (by omega)]; omega
  rw [em, Nat.and_two_pow_sub_one_eq_mod]
  have hlt : (x % ((2 ^ 64 : Nat) : Int)).toNat % 2 ^ k < 2 ^ k := Nat.mod_lt _ n0
  rw [wraps_i64 _ (by omega) (by omega), eP, Int.natCast_emod]
  rw [Int.toNat_of_nonneg (Int.emod_nonneg _ (by omega))]
  apply Int.emod_emod_of_dvd
  refine Int.natCast_dvd_natCast.2 (Nat.pow_dvd_pow 2 (by omega))
theorem u64_id {x : Int} (h0 : 0 ≤ x) (h1 : x < 18446744073709551616) : IntKind.u64.wrap x = x := by rw [IntKind.wrap_u64]; omega
theorem bits_and_mask_u (x m : Int) (k : Nat) (hk : k ≤ 63) (hm : m = 2 ^ k - 1) : Go.bits .and .u64 x m = x % 2 ^ k := by
  have p0 : (0 : Int) < 2 ^ k := Int.pow_pos (by omega)
  have eP : (2 : Int) ^ k = ((2 ^ k : Nat) : Int) := by push_cast; rfl
  have h63 : 2 ^ k ≤ 2 ^ 63 := Nat.pow_le_pow_right (by omega) hk
  have n0 : 0 < 2 ^ k := Nat.pow_pos (by omega)
  have e : Go.bits .and .u64 x m = IntKind.u64.wrap ((((BitVec.ofInt 64 x) &&& (BitVec.ofInt 64 m)).toNat : Nat) : Int) := rfl
  rw [e, BitVec.toNat_and, BitVec.toNat_ofInt, BitVec.toNat_ofInt]
  have em : (m % ((2 ^ 64 : Nat) : Int)).toNat = 2 ^ k - 1 := by
    rw [hm, eP, Int.emod_eq_of_lt (by omega) (by omega)]; omega
  rw [em, Nat.and_two_pow_sub_one_eq_mod]
  have hlt : (x % ((2 ^ 64 : Nat) : Int)).toNat % 2 ^ k < 2 ^ k := Nat.mod_lt _ n0
  rw [u64_id (by omega) (by omega), eP, Int.natCast_emod]
  rw [Int.toNat_of_nonneg (Int.emod_nonneg _ (by omega))]
  apply Int.emod_emod_of_dvd
  refine Int.natCast_dvd_natCast.2 (Nat.pow_dvd_pow 2 (by omega))
theorem and_u8_127 (c : Int) (h0 : 0 ≤ c) (h1 : c ≤ 255) : Go.bits .and .u8 c 127 = c % 128 := by
  obtain ⟨n, rfl⟩ := Int.eq_ofNat_of_zero_le h0
  have hn : n < 2 ^ 8 := by omega
  have e := (bits_nat .u8 8 (by decide) (fun m h0 h1 => wraps_u8 m h0 h1) n 127 hn (by decide)).1
  have e2 : n &&& 127 = n % 128 := Nat.and_two_pow_sub_one_eq_mod n 7
  have e3 : Go.bits .and .u8 (n : Int) 127 = ((n &&& 127 : Nat) : Int) := e
  rw [e3, e2]; push_cast; rfl
theorem shl_i64_nat (d j : Nat) (hj : j ≤ 64) : shl .i64 (d : Int) (j : Int) = wrap64 ((d * 2 ^ j : Nat) : Int) := by
  unfold shl
  have e2 : min ((j : Int)).toNat IntKind.i64.bits = j := by
    have : IntKind.i64.bits = 64 := rfl
    omega
  rw [e2, IntKind.wrap_i64]
  push_cast
  unfold wrap64; rfl
theorem shl_u64_nat (d j : Nat) (hj : j ≤ 64) (h : d * 2 ^ j < 2 ^ 64) : shl .u64 (d : Int) (j : Int) = ((d * 2 ^ j : Nat) : Int) := by
  unfold shl
  have e2 : min ((j : Int)).toNat IntKind.u64.bits = j := by
    have : IntKind.u64.bits = 64 := rfl
    omega
  have e3 : ((d : Int) * 2 ^ j) = ((d * 2 ^ j : Nat) : Int) := by push_cast; rfl
  rw [e2, e3, u64_id (by omega) (by omega)]
theorem or_u64_nat (a c : Nat) (ha : a < 2 ^ 64) (hc : c < 2 ^ 64) : Go.bits .or .u64 (a : Int) (c : Int) = ((a ||| c : Nat) : Int) :=
  (bits_nat .u64 64 (by decide) (fun m h0 h1 => u64_id h0 (by simpa using h1)) a c ha hc).2
/-- What a varint that is read comes to: a number, the place behind it, whether there is one. -/
def UG (b : List Int) (at_ : Int) (r : Int × Int × Bool) : Prop := (-9223372036854775808 ≤ r.1 ∧ r.1 ≤ 9223372036854775807) ∧ (r.2.2 = true → at_ < r.2.1 ∧ r.2.1 ≤ b.length) ∧ (r.2.2 = false → r = (0, 0, false))
theorem UG_bad (b : List Int) (at_ : Int) : UG b at_ (0, 0, false) := ⟨by simp, by simp, fun _ => rfl⟩
/-- The seven bits of a byte, put into their place: both sides. -/
theorem uv_step (k X : Nat) (hk : k ≤ 9) (hX : X < 2 ^ (7 * k)) (d : Int) (h0 : 0 ≤ d) (h1 : d ≤ 255) (hc : k ≤ 8 ∨ d ≤ 1) :
    Go.bits .or .i64 (wrap64 (X : Int)) (shl .i64 (Go.bits .and .i64 d 127) (wrap64 (7 * (k : Int)))) = wrap64 ((X + (d % 128).toNat * 2 ^ (7 * k) : Nat) : Int) ∧
    Go.bits .or .u64 (X : Int) (shl .u64 (IntKind.u64.wrap (Go.bits .and .u8 d 127)) (wrap64 (7 * (k : Int)))) = ((X + (d % 128).toNat * 2 ^ (7 * k) : Nat) : Int) := by
  have hD : d % 128 = (((d % 128).toNat : Nat) : Int) := by omega
  have hD1 : (d % 128).toNat < 128 := by omega
  have hD2 : d ≤ 1 → (d % 128).toNat ≤ 1 := by omega
  have w : wrap64 (7 * (k : Int)) = ((7 * k : Nat) : Int) := by rw [wrap64_id (by omega) (by omega)]; push_cast; rfl
  have e1 : Go.bits .and .i64 d 127 = d % 128 := bits_and_mask d 127 7 (by omega) rfl
  have e2 := and_u8_127 d h0 h1
  rw [w, e1, e2, hD]
  generalize (d % 128).toNat = D at hD1 hD2
  have hj : 7 * k ≤ 63 := by omega
  have h63 : 2 ^ (7 * k) ≤ 2 ^ 63 := Nat.pow_le_pow_right (by omega) hj
  have h56 : k ≤ 8 → 2 ^ (7 * k) ≤ 2 ^ 56 := fun h => Nat.pow_le_pow_right (by omega) (by omega)
  generalize hJ : 7 * k = J at *
  have hS : D * 2 ^ J < 2 ^ 64 := by
    rcases hc with h | h
    · have := h56 h
      have : D * 2 ^ J ≤ 127 * 2 ^ 56 := Nat.mul_le_mul (by omega) this
      omega
    · have : D * 2 ^ J ≤ 1 * 2 ^ J := Nat.mul_le_mul_right _ (hD2 h)
      omega
  have hX2 : X < 2 ^ 64 := by omega
  have eOr : X ||| D * 2 ^ J = X + D * 2 ^ J := or_digit J X D hX
  constructor
  · rw [shl_i64_nat D J (by omega), or_wrap X (D * 2 ^ J) hX2 hS, eOr, Int.toNat_natCast]
  · rw [u64_id (by omega) (by omega), shl_u64_nat D J (by omega) hS, or_u64_nat X (D * 2 ^ J) hX2 hS, eOr, Int.toNat_natCast]
theorem uv_spec (b : List Int) (hl : b.length ≤ 1048576) (at_ x d : Int) (k : Nat) (hk : k ≤ 9) (a0 : 0 ≤ at_) (hin : at_ + k < b.length) (hd : rd b (at_ + (k : Int)) = d) (h0 : 0 ≤ d) (h1 : d ≤ 255) (r : Int × Int × Bool)
    (h : Ev (fun n => if d < 128 then (if (k : Int) = 9 then (if d > 1 then (some ((0 : Int), (0 : Int), false)) else (some (Go.bits .or .i64 x (shl .i64 (Go.bits .and .i64 d 127) (wrap64 (7 * (k : Int)))), at_ + k + 1, true))) else (some (Go.bits .or .i64 x (shl .i64 (Go.bits .and .i64 d 127) (wrap64 (7 * (k : Int)))), at_ + k + 1, true))) else (spec_UvarGet.l0 n b at_ (Go.bits .or .i64 x (shl .i64 (Go.bits .and .i64 d 127) (wrap64 (7 * (k : Int))))) ((k + 1 : Nat) : Int))) r) :
    Ev (fun n => spec_UvarGet.l0 n b at_ x (k : Int)) r := by
  have w1 : wrap64 (at_ + (k : Int)) = at_ + k := wrap64_id (by omega) (by omega)
  have w2 : wrap64 (at_ + (k : Int) + 1) = at_ + k + 1 := wrap64_id (by omega) (by omega)
  have w3 : wrap64 d = d := wrap64_id (by omega) (by omega)
  have w4 : wrap64 ((k : Int) + 1) = ((k + 1 : Nat) : Int) := by rw [wrap64_id (by omega) (by omega)]; push_cast; rfl
  have w5 : 0 ≤ wrap64 (7 * (k : Int)) := by rw [wrap64_id (by omega) (by omega)]; omega
  refine Ev.step (fun k => by rw [spec_UvarGet.l0]) ?_
  refine Ev.pos (by omega) ?_
  refine Ev.step (fun k => by rw [spec_UvarGet.j2]) ?_
  rw [w1, hd, w3, w2, w4]
  exact Ev.pos (decide_eq_true hin) (Ev.pos (by omega) (Ev.pos hin (Ev.pos w5 h)))
theorem uv_impl (b : List Int) (hl : b.length ≤ 1048576) (at_ x d : Int) (k : Nat) (hk : k ≤ 9) (a0 : 0 ≤ at_) (hin : at_ + k < b.length) (hd : rd b (at_ + (k : Int)) = d) (r : Int × Int × Bool) (bb : Bool) (hbb : bb = decide ((k : Int) = 9 ∧ d > 1))
    (h : Ev (fun n => if bb = true then (some ((0 : Int), (0 : Int), false)) else (if d < 128 then (some (wrap64 (Go.bits .or .u64 x (shl .u64 (IntKind.u64.wrap (Go.bits .and .u8 d 127)) (wrap64 (7 * (k : Int))))), at_ + k + 1, true)) else (impl_UvarGet.l0 n b at_ (Go.bits .or .u64 x (shl .u64 (IntKind.u64.wrap (Go.bits .and .u8 d 127)) (wrap64 (7 * (k : Int))))) ((k + 1 : Nat) : Int)))) r) :
    Ev (fun n => impl_UvarGet.l0 n b at_ x (k : Int)) r := by
  have w1 : wrap64 (at_ + (k : Int)) = at_ + k := wrap64_id (by omega) (by omega)
  have w2 : wrap64 (at_ + (k : Int) + 1) = at_ + k + 1 := wrap64_id (by omega) (by omega)
  have w4 : wrap64 ((k : Int) + 1) = ((k + 1 : Nat) : Int) := by rw [wrap64_id (by omega) (by omega)]; push_cast; rfl
  have w5 : 0 ≤ wrap64 (7 * (k : Int)) := by rw [wrap64_id (by omega) (by omega)]; omega
  have w6 : wrap64 ((b.length : Int) - at_) = b.length - at_ := wrap64_id (by omega) (by omega)
  have hj2 : Ev (fun n => impl_UvarGet.j2 n b at_ x (k : Int) d bb) r := by
    refine Ev.step (fun k => by rw [impl_UvarGet.j2]) ?_
    rw [w1, w2, w4]
    cases bb with
    | true => exact Ev.congr (fun n => by rw [if_pos (show true = true from rfl), if_pos (show true = true from rfl)]) h
    | false => exact Ev.congr (fun n => by rw [if_neg (show ¬ (false = true) by decide), if_neg (show ¬ (false = true) by decide), if_pos w5]) h
  refine Ev.step (fun k => by rw [impl_UvarGet.l0]) ?_
  refine Ev.pos (by omega) ?_
  refine Ev.step (fun k => by rw [impl_UvarGet.j1]) ?_
  rw [w1, hd, w6]
  refine Ev.pos (decide_eq_true (by omega)) (Ev.pos (by omega) (Ev.pos hin ?_))
  by_cases h9 : (k : Int) = 9
  · refine Ev.pos h9 ?_
    have : decide (d > 1) = bb := by rw [hbb]; simp [h9]
    rw [this]; exact hj2
  · refine Ev.neg h9 ?_
    have : false = bb := by rw [hbb]; simp [h9]
    rw [this]; exact hj2
theorem uvarGet_loop (b : List Int) (hb : ∀ x ∈ b, 0 ≤ x ∧ x ≤ 255) (hl : b.length ≤ 1048576) (at_ : Int) (a0 : 0 ≤ at_) (a1 : at_ ≤ b.length) : ∀ (m k X : Nat), k + m = 10 → (k ≤ 9 → X < 2 ^ (7 * k)) →
    ∃ r, Ev (fun n => spec_UvarGet.l0 n b at_ (wrap64 (X : Int)) (k : Int)) r ∧ (k ≤ 9 → Ev (fun n => impl_UvarGet.l0 n b at_ (X : Int) (k : Int)) r) ∧ UG b at_ r := by
  have last : ∀ x : Int, Ev (fun n => spec_UvarGet.l0 n b at_ x ((10 : Nat) : Int)) ((0, 0, false) : Int × Int × Bool) := fun x => by
    refine Ev.step (fun k => by rw [spec_UvarGet.l0]) ?_
    refine Ev.neg (by omega) ?_
    exact Ev.step (fun k => by rw [spec_UvarGet.j2]) (by exact Ev.neg (by decide) (Ev.now _))
  intro m
  induction m with
  | zero =>
    intro k X hk _
    obtain rfl : k = 10 := by omega
    exact ⟨(0, 0, false), last _, by omega, UG_bad _ _⟩
  | succ m ih =>
    intro k X hk hX
    have hk9 : k ≤ 9 := by omega
    have hX' := hX hk9
    by_cases hin : at_ + k < b.length
    · have er : rd b (at_ + (k : Int)) = b[(at_ + (k : Int)).toNat]'(by omega) := rd_eq (by omega)
      have hby := hb _ (List.getElem_mem (show (at_ + (k : Int)).toNat < b.length by omega))
      rw [← er] at hby
      generalize hd : rd b (at_ + (k : Int)) = d at hby
      clear er hX
      by_cases hbad : (k : Int) = 9 ∧ d > 1
      · refine ⟨(0, 0, false), uv_spec b hl at_ _ d k hk9 a0 hin hd hby.1 hby.2 _ ?_, fun _ => uv_impl b hl at_ _ d k hk9 a0 hin hd _ true (decide_eq_true hbad).symm (Ev.pos rfl (Ev.now _)), UG_bad _ _⟩
        by_cases h128 : d < 128
        · exact Ev.pos h128 (Ev.pos hbad.1 (Ev.pos hbad.2 (Ev.now _)))
        · obtain rfl : k = 9 := by omega
          exact Ev.neg h128 (last _)
      · have hc : k ≤ 8 ∨ d ≤ 1 := by omega
        obtain ⟨eI, eU⟩ := uv_step k X hk9 hX' d hby.1 hby.2 hc
        by_cases h128 : d < 128
        · refine ⟨(wrap64 ((X + (d % 128).toNat * 2 ^ (7 * k) : Nat) : Int), at_ + k + 1, true), uv_spec b hl at_ _ d k hk9 a0 hin hd hby.1 hby.2 _ ?_, fun _ => uv_impl b hl at_ _ d k hk9 a0 hin hd _ false (decide_eq_false hbad).symm ?_, ⟨⟨wrap64_lo _, wrap64_hi _⟩, fun _ => ⟨?_, ?_⟩, fun h => absurd h (by simp)⟩⟩
          · rw [eI]
            refine Ev.pos h128 ?_
            by_cases h9 : (k : Int) = 9
            · exact Ev.pos h9 (Ev.neg (fun h => hbad ⟨h9, h⟩) (Ev.now _))
            · exact Ev.neg h9 (Ev.now _)
          · rw [eU]
            exact Ev.neg (by decide) (Ev.pos h128 (Ev.now _))
          · dsimp only; clear eI eU hX'; omega
          · dsimp only; clear eI eU hX'; omega
        · have hk8 : k ≤ 8 := by clear eI eU hX'; omega
          have hnext : X + (d % 128).toNat * 2 ^ (7 * k) < 2 ^ (7 * (k + 1)) := by
            have e7 : 2 ^ (7 * (k + 1)) = 2 ^ (7 * k) * 128 := by rw [Nat.mul_add, Nat.pow_add]
            have hD1 : (d % 128).toNat ≤ 127 := by clear eI eU hX' e7; omega
            have hm : (d % 128).toNat * 2 ^ (7 * k) ≤ 127 * 2 ^ (7 * k) := Nat.mul_le_mul_right _ hD1
            clear eI eU ih last
            rw [e7]
            generalize 2 ^ (7 * k) = P at *
            omega
          obtain ⟨r, r1, r2, r3⟩ := ih (k + 1) (X + (d % 128).toNat * 2 ^ (7 * k)) (by omega) (fun _ => hnext)
          refine ⟨r, uv_spec b hl at_ _ d k hk9 a0 hin hd hby.1 hby.2 _ ?_, fun _ => uv_impl b hl at_ _ d k hk9 a0 hin hd _ false (decide_eq_false hbad).symm ?_, r3⟩
          · rw [eI]; exact Ev.neg h128 r1
          · rw [eU]; exact Ev.neg (by decide) (Ev.neg h128 (r2 (by omega)))
    · refine ⟨(0, 0, false), ?_, fun _ => ?_, UG_bad _ _⟩
      · refine Ev.step (fun k => by rw [spec_UvarGet.l0]) ?_
        refine Ev.pos (by omega) ?_
        refine Ev.step (fun k => by rw [spec_UvarGet.j2]) ?_
        rw [wrap64_id (x := at_ + (k : Int)) (by omega) (by omega)]
        exact Ev.neg (by simp; omega) (Ev.now _)
      · refine Ev.step (fun k => by rw [impl_UvarGet.l0]) ?_
        refine Ev.pos (by omega) ?_
        refine Ev.step (fun k => by rw [impl_UvarGet.j1]) ?_
        rw [wrap64_id (x := (b.length : Int) - at_) (by omega) (by omega)]
        exact Ev.neg (by simp; omega) (Ev.now _)
theorem UvarGet_both (b : List Int) (hb : ∀ x ∈ b, 0 ≤ x ∧ x ≤ 255) (hl : b.length ≤ 1048576) (at_ : Int) (i0 : -9223372036854775808 ≤ at_) (i1 : at_ ≤ 9223372036854775807) :
    ∃ r, Ev (fun n => spec_UvarGet.f n b at_) r ∧ Ev (fun n => impl_UvarGet.f n b at_) r ∧ UG b at_ r := by
  unfold spec_UvarGet.f impl_UvarGet.f
  have bad : Ev (fun n => spec_UvarGet.j0 n b at_ true) ((0, 0, false) : Int × Int × Bool) := Ev.step (fun k => by rw [spec_UvarGet.j0]) (by exact Ev.pos rfl (Ev.now _))
  by_cases h0 : at_ < 0
  · exact ⟨(0, 0, false), Ev.pos h0 bad, Ev.pos h0 (Ev.now _), UG_bad _ _⟩
  by_cases h1 : at_ ≥ (b.length : Int)
  · refine ⟨(0, 0, false), Ev.neg h0 ?_, Ev.neg h0 ?_, UG_bad _ _⟩
    · rw [decide_eq_true h1]; exact bad
    · refine Ev.step (fun k => by rw [impl_UvarGet.l0]) ?_
      refine Ev.pos (by omega) ?_
      refine Ev.step (fun k => by rw [impl_UvarGet.j1]) ?_
      have : decide (0 < wrap64 ((b.length : Int) - at_)) = false := by
        apply decide_eq_false
        rw [wrap64_id (by omega) (by omega)]; omega
      rw [this]
      exact Ev.neg (by decide) (Ev.now _)
  · obtain ⟨r, r1, r2, r3⟩ := uvarGet_loop b hb hl at_ (by omega) (by omega) 10 0 0 (by omega) (by simp)
    refine ⟨r, Ev.neg h0 ?_, Ev.neg h0 (by simpa using r2 (by omega)), r3⟩
    rw [decide_eq_false h1]
    refine Ev.step (fun k => by rw [spec_UvarGet.j0]) ?_
    refine Ev.neg (by decide) ?_
    have e : wrap64 ((0 : Nat) : Int) = 0 := by unfold wrap64; omega
    rw [e] at r1
    exact r1
theorem rd_byte (b : List Int) (hb : ∀ x ∈ b, 0 ≤ x ∧ x ≤ 255) (j : Int) : 0 ≤ rd b j ∧ rd b j ≤ 255 := by
  by_cases h : j.toNat < b.length
  · rw [rd_eq h]; exact hb _ (List.getElem_mem h)
  · unfold rd; rw [List.getD_eq_getElem?_getD, List.getElem?_eq_none (by omega)]; simp
theorem and_one (x : Int) : Go.bits .and .i64 x 1 = x % 2 := bits_and_mask x 1 1 (by omega) rfl
theorem and_u8_one (c : Int) (h0 : 0 ≤ c) (h1 : c ≤ 255) : Go.bits .and .u8 c 1 = c % 2 := by
  obtain ⟨n, rfl⟩ := Int.eq_ofNat_of_zero_le h0
  have hn : n < 2 ^ 8 := by omega
  have e := (bits_nat .u8 8 (by decide) (fun m h0 h1 => wraps_u8 m h0 h1) n 1 hn (by decide)).1
  have e2 : n &&& 1 = n % 2 := Nat.and_two_pow_sub_one_eq_mod n 1
  have e3 : Go.bits .and .u8 (n : Int) 1 = ((n &&& 1 : Nat) : Int) := e
  rw [e3, e2]; push_cast; rfl
theorem l2Down1' (x : Int) (h0 : -9223372036854775808 ≤ x) (h1 : x ≤ 9223372036854775807) : ∃ c : Nat, spec_l2Down.f x 1 = some (c : Int) ∧ wrap64 ((IntKind.u64.wrap x) / 2) = (c : Int) ∧ c < 9223372036854775808 := by
  refine ⟨(x / 2 % 9223372036854775808).toNat, ?_, ?_, by omega⟩
  · unfold spec_l2Down.f
    rw [if_neg (by decide), if_pos (by decide), wrap64_id (x := 64 - 1) (by omega) (by omega), if_pos (by decide)]
    have e1 : shr .i64 x 1 = x / 2 := rfl
    have e2 : shl .i64 1 (64 - 1) = -9223372036854775808 := by
      unfold shl; rw [IntKind.wrap_i64]; rfl
    have e3 : wrap64 (-9223372036854775808 - 1) = 9223372036854775807 := by unfold wrap64; omega
    rw [e1, e2, e3, bits_and_mask (x / 2) 9223372036854775807 63 (by omega) rfl]
    congr 1
    have : (2 : Int) ^ 63 = 9223372036854775808 := by decide
    rw [this]; omega
  · have e : IntKind.u64.wrap x = x % 18446744073709551616 := by rw [IntKind.wrap_u64]
    rw [e, wrap64_id (by omega) (by omega)]; omega
/-- The bit number p of bytes. -/
def bitV (b : List Int) (p : Nat) : Int := (shr .i64 (rd b ((p / 8 : Nat) : Int)) ((p % 8 : Nat) : Int)) % 2
theorem xor_comm_i64 (x y : Int) : Go.bits .xor .i64 x y = Go.bits .xor .i64 y x := by
  have e : ∀ a c : Int, Go.bits .xor .i64 a c = IntKind.i64.wrap (((BitVec.ofInt 64 a ^^^ BitVec.ofInt 64 c).toNat : Nat) : Int) := fun _ _ => rfl
  rw [e, e, BitVec.xor_comm]
theorem xor_zero_i64 (x : Int) (h0 : 0 ≤ x) (h1 : x < 9223372036854775808) : Go.bits .xor .i64 x 0 = x := by
  have e : Go.bits .xor .i64 x 0 = IntKind.i64.wrap (((BitVec.ofInt 64 x ^^^ BitVec.ofInt 64 0).toNat : Nat) : Int) := rfl
  have z : BitVec.ofInt 64 0 = 0#64 := rfl
  rw [e, z, BitVec.xor_zero, BitVec.toNat_ofInt, IntKind.wrap_i64]; omega
theorem Zag_both (x : Int) (h0 : -9223372036854775808 ≤ x) (h1 : x ≤ 9223372036854775807) : ∃ z : Int, spec_Zag.f x = some z ∧ impl_Zag.f x = some z := by
  obtain ⟨c, e1, e2, e3⟩ := l2Down1' x h0 h1
  unfold spec_Zag.f impl_Zag.f
  rw [and_one, e1, e2]
  by_cases h : x % 2 = 1
  · refine ⟨Go.bits .xor .i64 (-1) (c : Int), ?_, ?_⟩
    · rw [if_pos h]; rfl
    · rw [h, show wrap64 (-1) = -1 from wrap64_id (by omega) (by omega), xor_comm_i64]
  · refine ⟨(c : Int), ?_, ?_⟩
    · rw [if_neg h]; rfl
    · rw [show x % 2 = 0 by omega, show wrap64 (-0) = 0 from wrap64_id (by omega) (by omega), xor_zero_i64 _ (by omega) (by omega)]
theorem zig_yes {b : List Int} {at_ n nx z : Int} (h : Ev (fun k => spec_UvarGet.f k b at_) (n, nx, true)) (hz : spec_Zag.f n = some z) : Ev (fun k => spec_ZigGet.f k b at_) (z, nx, true) := by
  unfold spec_ZigGet.f
  exact Ev.bind h (Ev.pos rfl (Ev.here hz (Ev.now _)))
theorem zig_no {b : List Int} {at_ n nx : Int} (h : Ev (fun k => spec_UvarGet.f k b at_) (n, nx, false)) : Ev (fun k => spec_ZigGet.f k b at_) (0, 0, false) := by
  unfold spec_ZigGet.f
  exact Ev.bind h (Ev.neg Bool.false_ne_true (Ev.now _))
theorem trOne_in (b : List Int) (hb : ∀ x ∈ b, 0 ≤ x ∧ x ≤ 255) (at_ : Int) (ns : List S40) (h0 : 0 ≤ at_) (h1 : at_ < (b.length : Int)) : trOne b ⟨at_, ns, 0⟩ = some (rd b at_, ⟨at_ + 1, ns, 0⟩) := by
  unfold trOne
  rw [if_pos ⟨rfl, h1⟩, if_pos h0]
  have := rd_byte b hb at_
  dsimp only
  rw [wrap64_id (by omega) (by omega)]
theorem trOne_end (b : List Int) (at_ : Int) (ns : List S40) (h1 : (b.length : Int) ≤ at_) : trOne b ⟨at_, ns, 0⟩ = some (0, ⟨at_, ns, 1⟩) := by
  unfold trOne
  rw [if_neg (fun h => by have := h.2; dsimp only at this; omega)]; rfl
theorem trFail_bad (s : TR) (c : Int) (h : s.cd ≠ 0) : trFail s c = s := if_neg h
theorem trOne_bad (b : List Int) (s : TR) (h : s.cd ≠ 0) : trOne b s = some (0, s) := by
  unfold trOne
  rw [if_neg (fun h' => h h'.1), trFail_bad s 1 h]
theorem trUvar_ok {b : List Int} {at_ n nx : Int} (ns : List S40) (h : Ev (fun k => impl_UvarGet.f k b at_) (n, nx, true)) : Ev (fun k => trUvar k b ⟨at_, ns, 0⟩) (n, ⟨nx, ns, 0⟩) := by
  unfold trUvar
  exact Ev.bind h (Ev.pos ⟨rfl, rfl⟩ (Ev.now _))
theorem trUvar_no {b : List Int} {at_ n nx : Int} (ns : List S40) (h : Ev (fun k => impl_UvarGet.f k b at_) (n, nx, false)) : Ev (fun k => trUvar k b ⟨at_, ns, 0⟩) (0, ⟨at_, ns, 1⟩) := by
  unfold trUvar
  exact Ev.bind h (Ev.neg (fun h => by cases h.2) (Ev.now _))
theorem trUvar_bad {b : List Int} (hb : ∀ x ∈ b, 0 ≤ x ∧ x ≤ 255) (hl : b.length ≤ 1048576) (s : TR) (hs : s.cd ≠ 0) (i0 : -9223372036854775808 ≤ s.pos) (i1 : s.pos ≤ 9223372036854775807) : Ev (fun k => trUvar k b s) (0, s) := by
  obtain ⟨r, _, h, _⟩ := UvarGet_both b hb hl s.pos i0 i1
  unfold trUvar
  refine Ev.bind h (Ev.neg (fun h => hs h.1) ?_)
  rw [trFail_bad s 1 hs]
  exact Ev.now _
theorem set_last (ns ext : List S40) (x y : S40) : (ns ++ [x] ++ ext).set ns.length y = ns ++ [y] ++ ext := by
  simp [List.set_append]
theorem rd_last (ns ext : List S40) (x : S40) : rd_T40 (ns ++ [x] ++ ext) (ns.length : Int) = x := by
  unfold rd_T40
  simp [List.getD_eq_getElem?_getD]
theorem trSet_last (at_ cd : Int) (ns ext : List S40) (x : S40) (f : S40 → S40) : trSet ⟨at_, ns ++ [x] ++ ext, cd⟩ (ns.length : Int) f = some ⟨at_, ns ++ [f x] ++ ext, cd⟩ := by
  unfold trSet
  dsimp only
  rw [if_pos ⟨by omega, by simp only [List.length_append, List.length_singleton]; omega⟩, rd_last, Int.toNat_natCast, set_last]
theorem trSet_last0 (at_ cd : Int) (ns : List S40) (x : S40) (f : S40 → S40) : trSet ⟨at_, ns ++ [x], cd⟩ (ns.length : Int) f = some ⟨at_, ns ++ [f x], cd⟩ := by
  have := trSet_last at_ cd ns [] x f
  simpa using this
theorem isType_f (t : Int) (l : Bool) : impl_isType.f 1 t l = some (if t = 1 ∨ t = 2 then !l else decide (t = 5 ∨ t = 6 ∨ t = 8 ∨ t = 9 ∨ t = 12)) := by
  unfold impl_isType.f
  simp only [impl_isType.j0]
  by_cases h1 : t = 1
  · subst h1; simp
  by_cases h2 : t = 2
  · subst h2; simp
  rw [if_neg h1, if_neg (show ¬ (t = 1 ∨ t = 2) by omega), if_neg (show ¬ ((t == 2) = true) by simpa using h2)]
  by_cases h5 : t = 5
  · simp [h5]
  by_cases h6 : t = 6
  · simp [h6]
  by_cases h8 : t = 8
  · simp [h8]
  by_cases h9 : t = 9
  · simp [h9]
  by_cases h12 : t = 12
  · simp [h12]
  simp [h5, h6, h8, h9, h12]
theorem l4Kind_f (t : Int) : spec_l4Kind.f t = impl_isType.f 1 t false := by
  rw [isType_f]
  unfold spec_l4Kind.f
  by_cases h1 : t = 1
  · simp [h1]
  by_cases h2 : t = 2
  · simp [h2]
  rw [if_neg h1, if_neg h2, if_neg (show ¬ (t = 1 ∨ t = 2) by omega)]
  by_cases h5 : t = 5
  · simp [h5]
  by_cases h6 : t = 6
  · simp [h6]
  by_cases h8 : t = 8
  · simp [h8]
  by_cases h9 : t = 9
  · simp [h9]
  by_cases h12 : t = 12
  · simp [h12]
  simp [h5, h6, h8, h9, h12]
theorem l4Item_f (t : Int) : spec_l4Item.f t = impl_isType.f 1 t true := by
  unfold spec_l4Item.f
  rw [l4Kind_f, isType_f, isType_f, Option.bind_some]
  by_cases h1 : t = 1
  · simp [h1]
  by_cases h2 : t = 2
  · simp [h2]
  rw [if_neg (show ¬ (t = 1 ∨ t = 2) by omega), if_neg (show ¬ (t = 1 ∨ t = 2) by omega), if_neg h1]
  by_cases h : t = 5 ∨ t = 6 ∨ t = 8 ∨ t = 9 ∨ t = 12
  · rw [decide_eq_true h]; simp [h2]
  · rw [decide_eq_false h]; rfl
/-- What reading comes to, on both sides: nodes and the place behind, or a code. -/
inductive Out
  | ok (ext : List S40) (nx : Int)
  | err (c : Int)
def Out.good (len : Nat) (b : List Int) (m : Nat) : Out → Prop
  | .ok ext nx => m ≤ ext.length ∧ len + ext.length ≤ 1500 ∧ 0 ≤ nx ∧ nx ≤ b.length
  | .err c => c ≠ 0
def Out.impl (ns : List S40) (g : Nat → Option TR) : Out → Prop
  | .ok ext nx => Ev g ⟨nx, ns ++ ext, 0⟩
  | .err c => ∃ s : TR, s.cd = c ∧ Ev g s ∧ -9223372036854775808 ≤ s.pos ∧ s.pos ≤ 9223372036854775807
def Out.spec (ns : List S40) (g : Nat → Option (List S40 × Int × Int)) : Out → Prop
  | .ok ext nx => Ev g (ns ++ ext, nx, 0)
  | .err c => ∃ l n, Ev g (l, n, c)
section
variable (b : List Int) (hb : ∀ x ∈ b, 0 ≤ x ∧ x ≤ 255) (hl : b.length ≤ 1048576)
/-- What is asked of a node's reading, at a depth. -/
def NodeBoth (deep : Int) : Prop := ∀ (kind id at_ : Int) (len : Nat), len ≤ 1500 → 0 ≤ at_ → at_ ≤ b.length → ∃ o : Out, o.good len b 1 ∧ ∀ ns : List S40, ns.length = len →
  o.impl ns (fun k => trNode k b ⟨at_, ns, 0⟩ kind id deep) ∧ o.spec ns (fun k => spec_l4Read.f k b at_ kind id deep ns)
theorem begin_yes (ns : List S40) (at_ deep : Int) (x : S40) (hd : deep ≤ 12) (h : ns.length < 1500) : trBegin ⟨at_, ns, 0⟩ x deep = some ((ns.length : Int), ⟨at_, ns ++ [x], 0⟩) := by
  unfold trBegin
  rw [if_neg (by dsimp only; omega), if_pos rfl, if_pos h]
theorem begin_no (ns : List S40) (at_ deep : Int) (x : S40) (h : 12 < deep ∨ ns.length = 1500) : trBegin ⟨at_, ns, 0⟩ x deep = some (0, ⟨at_, ns, 4⟩) := by
  unfold trBegin
  rw [if_pos (by dsimp only; omega)]; rfl
/-- Behind the node's begin: the reference's own list. -/
theorem spec_begin (kind id at_ deep : Int) (ns : List S40) (h1 : ns.length < 1500) (h2 : deep ≤ 12) (r : List S40 × Int × Int)
    (h : Ev (fun k => spec_l4Read.j1 k b at_ kind deep (ns ++ [⟨kind, id, 0, ⟨#[]⟩, 0⟩]) (ns.length : Int) kind (decide (kind = 5 ∨ kind = 6))) r) : Ev (fun k => spec_l4Read.f k b at_ kind id deep ns) r := by
  refine Ev.step (fun k => by rw [spec_l4Read.f]) ?_
  refine Ev.neg (by omega) ?_
  rw [decide_eq_false (show ¬ (deep > 12) by omega)]
  refine Ev.step (fun k => by rw [spec_l4Read.j0]) ?_
  refine Ev.neg Bool.false_ne_true (Ev.pos (by omega) ?_)
  refine Ev.here rfl ?_
  by_cases h5 : kind = 5
  · refine Ev.pos h5 ?_
    subst h5
    simpa using h
  · refine Ev.neg h5 ?_
    have e : (kind == 6) = decide (kind = 5 ∨ kind = 6) := by
      by_cases h6 : kind = 6 <;> simp [h5, h6]
    rw [e]; exact h
theorem item_loop (deep : Int) (hd : 0 ≤ deep ∧ deep ≤ 12) (ih : NodeBoth b (deep + 1)) (kd m : Int) (hm : m ≤ 1500) : ∀ (d : Nat) (i : Int), 0 ≤ i → i + d = m → ∀ (at_ : Int) (len : Nat), len ≤ 1500 → 0 ≤ at_ → at_ ≤ b.length →
    ∃ o : Out, o.good len b 0 ∧ ∀ ns : List S40, ns.length = len → o.impl ns (fun k => trPLoop k b ⟨at_, ns, 0⟩ kd m i deep) ∧ o.spec ns (fun k => spec_l4Read.l0 k b deep ns m kd at_ 0 i) := by
  intro d
  induction d with
  | zero =>
    intro i h0 hi at_ len hlen a0 a1
    refine ⟨.ok [] at_, ⟨Nat.zero_le _, by simpa using hlen, a0, a1⟩, fun ns hns => ⟨?_, ?_⟩⟩
    · refine Ev.step (fun k => by rw [trPLoop]) ?_
      refine Ev.neg (fun h => by have := h.1; omega) ?_
      rw [List.append_nil]; exact Ev.now _
    · refine Ev.step (fun k => by rw [spec_l4Read.l0]) ?_
      refine Ev.neg (by omega) ?_
      rw [List.append_nil]; exact Ev.now _
  | succ d ihd =>
    intro i h0 hi at_ len hlen a0 a1
    have w1 : wrap64 (deep + 1) = deep + 1 := wrap64_id (by omega) (by omega)
    have w2 : wrap64 (i + 1) = i + 1 := wrap64_id (by omega) (by omega)
    obtain ⟨o, hg, ho⟩ := ih kd 0 at_ len hlen a0 a1
    cases o with
    | err c =>
      refine ⟨.err c, hg, fun ns hns => ?_⟩
      obtain ⟨⟨s, hs, h1, hp⟩, l, n, h2⟩ := ho ns hns
      refine ⟨⟨s, hs, ?_, hp⟩, l, n, ?_⟩
      · refine Ev.step (fun k => by rw [trPLoop]) ?_
        refine Ev.pos ⟨by omega, rfl⟩ ?_
        rw [w1]
        refine Ev.bind h1 ?_
        refine Ev.step (fun k => by rw [trPLoop]) ?_
        exact Ev.neg (fun h => hg (hs ▸ h.2)) (Ev.now _)
      · refine Ev.step (fun k => by rw [spec_l4Read.l0]) ?_
        refine Ev.pos (by omega) (Ev.pos rfl ?_)
        rw [w1]
        refine Ev.bind h2 ?_
        refine Ev.step (fun k => by rw [spec_l4Read.l0]) ?_
        by_cases hx : wrap64 (i + 1) < m
        · exact Ev.pos hx (Ev.neg hg (Ev.now _))
        · exact Ev.neg hx (Ev.now _)
    | ok ext nx =>
      obtain ⟨g1, g2, g3, g4⟩ := hg
      obtain ⟨o2, hg2, ho2⟩ := ihd (i + 1) (by omega) (by omega) nx (len + ext.length) g2 g3 g4
      cases o2 with
      | err c =>
        refine ⟨.err c, hg2, fun ns hns => ?_⟩
        obtain ⟨h1, h2⟩ := ho ns hns
        obtain ⟨⟨s, hs, h3, hp⟩, l, n, h4⟩ := ho2 (ns ++ ext) (by rw [List.length_append]; omega)
        refine ⟨⟨s, hs, ?_, hp⟩, l, n, ?_⟩
        · refine Ev.step (fun k => by rw [trPLoop]) ?_
          refine Ev.pos ⟨by omega, rfl⟩ ?_
          rw [w1, w2]
          exact Ev.bind h1 h3
        · refine Ev.step (fun k => by rw [spec_l4Read.l0]) ?_
          refine Ev.pos (by omega) (Ev.pos rfl ?_)
          rw [w1, w2]
          exact Ev.bind h2 h4
      | ok ext2 nx2 =>
        refine ⟨.ok (ext ++ ext2) nx2, ⟨Nat.zero_le _, by rw [List.length_append]; have := hg2.2.1; omega, hg2.2.2⟩, fun ns hns => ?_⟩
        obtain ⟨h1, h2⟩ := ho ns hns
        obtain ⟨h3, h4⟩ := ho2 (ns ++ ext) (by rw [List.length_append]; omega)
        refine ⟨?_, ?_⟩
        · refine Ev.step (fun k => by rw [trPLoop]) ?_
          refine Ev.pos ⟨by omega, rfl⟩ ?_
          rw [w1, w2, ← List.append_assoc]
          exact Ev.bind h1 h3
        · refine Ev.step (fun k => by rw [spec_l4Read.l0]) ?_
          refine Ev.pos (by omega) (Ev.pos rfl ?_)
          rw [w1, w2, ← List.append_assoc]
          exact Ev.bind h2 h4
include hb hl
theorem num_both (deep : Int) (h12 : deep ≤ 12) (kind id at_ : Int) (hk : kind = 5 ∨ kind = 6) (len : Nat) (hlen : len < 1500) (a0 : 0 ≤ at_) (a1 : at_ ≤ b.length) : ∃ o : Out, o.good len b 1 ∧ ∀ ns : List S40, ns.length = len →
    o.impl ns (fun k => trNode k b ⟨at_, ns, 0⟩ kind id deep) ∧ o.spec ns (fun k => spec_l4Read.f k b at_ kind id deep ns) := by
  obtain ⟨⟨n, nx, ok⟩, es, ei, hr1, hr2, hr3⟩ := UvarGet_both b hb hl at_ (by omega) (by omega)
  dsimp only at hr1 hr2 hr3
  cases ok with
  | false =>
    obtain ⟨z0, hz0, hz1⟩ := Zag_both 0 (by omega) (by omega)
    refine ⟨.err 1, by simp [Out.good], fun ns hns => ⟨⟨⟨at_, ns ++ [⟨kind, id, z0, ⟨#[]⟩, 0⟩], 1⟩, rfl, ?_, by dsimp only; omega, by dsimp only; omega⟩, ns ++ [⟨kind, id, 0, ⟨#[]⟩, 0⟩], 0, ?_⟩⟩
    · refine Ev.step (fun k => by rw [trNode]) ?_
      refine Ev.here (begin_yes ns at_ deep _ h12 (by omega)) (Ev.pos rfl (Ev.pos hk ?_))
      refine Ev.bind (trUvar_no _ ei) (Ev.here hz1 ?_)
      rw [if_neg (fun h => by have := h.2.1; dsimp only at this; omega), trSet_last0]
      exact Ev.now _
    · refine spec_begin b kind id at_ deep ns (by omega) h12 _ ?_
      rw [decide_eq_true hk]
      refine Ev.step (fun k => by rw [spec_l4Read.j1]) ?_
      exact Ev.pos rfl (Ev.bind (zig_no es) (Ev.neg Bool.false_ne_true (Ev.now _)))
  | true =>
    obtain ⟨z, hz1, hz2⟩ := Zag_both n hr1.1 hr1.2
    have hn := hr2 rfl
    have hset : ∀ ns : List S40, (ns ++ [(⟨kind, id, 0, ⟨#[]⟩, 0⟩ : S40)]).set (ns.length : Int).toNat ⟨(rd_T40 (ns ++ [⟨kind, id, 0, ⟨#[]⟩, 0⟩]) (ns.length : Int)).f0, (rd_T40 (ns ++ [⟨kind, id, 0, ⟨#[]⟩, 0⟩]) (ns.length : Int)).f1, z, (rd_T40 (ns ++ [⟨kind, id, 0, ⟨#[]⟩, 0⟩]) (ns.length : Int)).f3, (rd_T40 (ns ++ [⟨kind, id, 0, ⟨#[]⟩, 0⟩]) (ns.length : Int)).f4⟩ = ns ++ [⟨kind, id, z, ⟨#[]⟩, 0⟩] := fun ns => by
      have h1 := rd_last ns [] (⟨kind, id, 0, ⟨#[]⟩, 0⟩ : S40)
      have h2 := set_last ns [] (⟨kind, id, 0, ⟨#[]⟩, 0⟩ : S40) ⟨kind, id, z, ⟨#[]⟩, 0⟩
      rw [List.append_nil] at h1 h2
      rw [h1, Int.toNat_natCast, h2, List.append_nil]
    by_cases hbad : kind = 5 ∧ ¬ (-2147483648 ≤ z ∧ z ≤ 2147483647)
    · refine ⟨.err 3, by simp [Out.good], fun ns hns => ⟨⟨⟨nx, ns ++ [⟨kind, id, z, ⟨#[]⟩, 0⟩], 3⟩, rfl, ?_, by dsimp only; omega, by dsimp only; omega⟩, ns ++ [⟨kind, id, 0, ⟨#[]⟩, 0⟩], 0, ?_⟩⟩
      · refine Ev.step (fun k => by rw [trNode]) ?_
        refine Ev.here (begin_yes ns at_ deep _ h12 (by omega)) (Ev.pos rfl (Ev.pos hk ?_))
        refine Ev.bind (trUvar_ok _ ei) (Ev.here hz2 ?_)
        rw [if_pos ⟨hbad.1, rfl, hbad.2⟩]
        exact Ev.const (trSet_last0 nx 3 ns _ _)
      · refine spec_begin b kind id at_ deep ns (by omega) h12 _ ?_
        rw [decide_eq_true hk]
        refine Ev.step (fun k => by rw [spec_l4Read.j1]) ?_
        refine Ev.pos rfl (Ev.bind (zig_yes es hz1) (Ev.pos rfl (Ev.pos hbad.1 ?_)))
        refine Ev.here (show spec_l4Int.f z = some false by unfold spec_l4Int.f; rw [l1In_some, decide_eq_false hbad.2]; rfl) (Ev.neg Bool.false_ne_true (Ev.now _))
    · refine ⟨.ok [⟨kind, id, z, ⟨#[]⟩, 0⟩] nx, ⟨by simp, by simp; omega, by omega, hn.2⟩, fun ns hns => ⟨?_, ?_⟩⟩
      · refine Ev.step (fun k => by rw [trNode]) ?_
        refine Ev.here (begin_yes ns at_ deep _ h12 (by omega)) (Ev.pos rfl (Ev.pos hk ?_))
        refine Ev.bind (trUvar_ok _ ei) (Ev.here hz2 ?_)
        rw [if_neg (fun h => hbad ⟨h.1, h.2.2⟩)]
        exact Ev.const (trSet_last0 nx 0 ns _ _)
      · refine spec_begin b kind id at_ deep ns (by omega) h12 _ ?_
        rw [decide_eq_true hk]
        refine Ev.step (fun k => by rw [spec_l4Read.j1]) ?_
        refine Ev.pos rfl (Ev.bind (zig_yes es hz1) (Ev.pos rfl ?_))
        have hfin : Ev (fun _ : Nat => (if 0 ≤ (ns.length : Int) then (if (ns.length : Int) < ((ns ++ [(⟨kind, id, 0, ⟨#[]⟩, 0⟩ : S40)]).length : Int) then some ((ns ++ [(⟨kind, id, 0, ⟨#[]⟩, 0⟩ : S40)]).set (ns.length : Int).toNat (⟨(rd_T40 (ns ++ [⟨kind, id, 0, ⟨#[]⟩, 0⟩]) (ns.length : Int)).f0, (rd_T40 (ns ++ [⟨kind, id, 0, ⟨#[]⟩, 0⟩]) (ns.length : Int)).f1, z, (rd_T40 (ns ++ [⟨kind, id, 0, ⟨#[]⟩, 0⟩]) (ns.length : Int)).f3, (rd_T40 (ns ++ [⟨kind, id, 0, ⟨#[]⟩, 0⟩]) (ns.length : Int)).f4⟩ : S40), nx, (0 : Int)) else none) else none)) (ns ++ [⟨kind, id, z, ⟨#[]⟩, 0⟩], nx, 0) := by
          refine Ev.pos (by omega) (Ev.pos (by simp only [List.length_append, List.length_singleton]; omega) ?_)
          rw [hset]; exact Ev.now _
        by_cases h5 : kind = 5
        · have hq : -2147483648 ≤ z ∧ z ≤ 2147483647 := by
            by_cases q : -2147483648 ≤ z ∧ z ≤ 2147483647
            · exact q
            · exact absurd ⟨h5, q⟩ hbad
          have hi : spec_l4Int.f z = some true := by unfold spec_l4Int.f; rw [l1In_some, decide_eq_true hq]; rfl
          exact Ev.pos h5 (Ev.here hi (Ev.pos rfl hfin))
        · exact Ev.neg h5 hfin
theorem text_both (deep : Int) (h12 : deep ≤ 12) (id at_ : Int) (len : Nat) (hlen : len < 1500) (a0 : 0 ≤ at_) (a1 : at_ ≤ b.length) : ∃ o : Out, o.good len b 1 ∧ ∀ ns : List S40, ns.length = len →
    o.impl ns (fun k => trNode k b ⟨at_, ns, 0⟩ 8 id deep) ∧ o.spec ns (fun k => spec_l4Read.f k b at_ 8 id deep ns) := by
  obtain ⟨⟨n, nx, ok⟩, es, ei, hr1, hr2, hr3⟩ := UvarGet_both b hb hl at_ (by omega) (by omega)
  dsimp only at hr1 hr2 hr3
  have hset : ∀ (ns : List S40) (x : ByteArray), (ns ++ [(⟨8, id, 0, ⟨#[]⟩, 0⟩ : S40)]).set (ns.length : Int).toNat ⟨(rd_T40 (ns ++ [⟨8, id, 0, ⟨#[]⟩, 0⟩]) (ns.length : Int)).f0, (rd_T40 (ns ++ [⟨8, id, 0, ⟨#[]⟩, 0⟩]) (ns.length : Int)).f1, (rd_T40 (ns ++ [⟨8, id, 0, ⟨#[]⟩, 0⟩]) (ns.length : Int)).f2, x, (rd_T40 (ns ++ [⟨8, id, 0, ⟨#[]⟩, 0⟩]) (ns.length : Int)).f4⟩ = ns ++ [⟨8, id, 0, x, 0⟩] := fun ns x => by
    have h1 := rd_last ns [] (⟨8, id, 0, ⟨#[]⟩, 0⟩ : S40)
    have h2 := set_last ns [] (⟨8, id, 0, ⟨#[]⟩, 0⟩ : S40) ⟨8, id, 0, x, 0⟩
    rw [List.append_nil] at h1 h2
    rw [h1, Int.toNat_natCast, h2, List.append_nil]
  -- what the two texts' readers come to
  have hs : ∀ (ns : List S40) (x : ByteArray) (q c : Int), ns.length = len → Ev (fun k => spec_l4Text.f k b at_) (x, q, c) → Ev (fun k => spec_l4Read.f k b at_ 8 id deep ns) (ns ++ [⟨8, id, 0, x, 0⟩], q, c) := by
    intro ns x q c hns h
    refine spec_begin b 8 id at_ deep ns (by omega) h12 _ ?_
    rw [decide_eq_false (by omega)]
    refine Ev.step (fun k => by rw [spec_l4Read.j1]) ?_
    refine Ev.neg Bool.false_ne_true (Ev.pos rfl (Ev.bind h (Ev.pos (by omega) (Ev.pos (by simp only [List.length_append, List.length_singleton]; omega) ?_))))
    rw [hset]; exact Ev.now _
  have hi : ∀ (ns : List S40) (x : ByteArray) (q c : Int), ns.length = len → (∀ l : List S40, Ev (fun k => trText k b ⟨at_, l, 0⟩) (x, ⟨q, l, c⟩)) → Ev (fun k => trNode k b ⟨at_, ns, 0⟩ 8 id deep) ⟨q, ns ++ [⟨8, id, 0, x, 0⟩], c⟩ := by
    intro ns x q c hns h
    refine Ev.step (fun k => by rw [trNode]) ?_
    refine Ev.here (begin_yes ns at_ deep _ h12 (by omega)) (Ev.pos rfl (Ev.neg (by omega) (Ev.pos rfl ?_)))
    exact Ev.bind (h _) (Ev.const (trSet_last0 q c ns _ _))
  have j0t : Ev (fun k => spec_l4Text.j0 k b n nx true) ((⟨#[]⟩ : ByteArray), (0 : Int), (4 : Int)) := Ev.step (fun k => by rw [spec_l4Text.j0]) (by exact Ev.pos rfl (Ev.now _))
  cases ok with
  | false =>
    refine ⟨.err 1, by simp [Out.good], fun ns hns => ⟨⟨_, rfl, hi ns ⟨#[]⟩ at_ 1 hns (fun l => ?_), by dsimp only; omega, by dsimp only; omega⟩, _, _, hs ns ⟨#[]⟩ 0 1 hns ?_⟩⟩
    · unfold trText
      exact Ev.bind (trUvar_no l ei) (Ev.neg (by dsimp only; omega) (Ev.now _))
    · unfold spec_l4Text.f
      exact Ev.bind es (Ev.neg Bool.false_ne_true (Ev.now _))
  | true =>
    have hn := hr2 rfl
    have w1 : wrap64 ((b.length : Int) - nx) = b.length - nx := wrap64_id (by omega) (by omega)
    by_cases h1 : 0 ≤ n ∧ n ≤ 300
    · have w2 : wrap64 (nx + n) = nx + n := wrap64_id (by omega) (by omega)
      have j0f : ∀ r, Ev (fun k => spec_l4Text.j0 k b n nx false) r → Ev (fun k => spec_l4Text.f k b at_) r := fun r h => by
        unfold spec_l4Text.f
        refine Ev.bind es (Ev.pos rfl (Ev.neg (by dsimp only; omega) ?_))
        rw [decide_eq_false (by dsimp only; omega)]; exact h
      by_cases h2 : (b.length : Int) - nx < n
      · refine ⟨.err 1, by simp [Out.good], fun ns hns => ⟨⟨_, rfl, hi ns ⟨#[]⟩ nx 1 hns (fun l => ?_), by dsimp only; omega, by dsimp only; omega⟩, _, _, hs ns ⟨#[]⟩ 0 1 hns (j0f _ ?_)⟩⟩
        · unfold trText
          refine Ev.bind (trUvar_ok l ei) (Ev.pos rfl (Ev.pos h1 (Ev.pos (by dsimp only; rw [w1]; exact h2) (Ev.now _))))
        · refine Ev.step (fun k => by rw [spec_l4Text.j0]) ?_
          exact Ev.neg Bool.false_ne_true (Ev.pos (by rw [w1]; exact h2) (Ev.now _))
      · refine ⟨.ok [⟨8, id, 0, strOfNums ((b.take (nx + n).toNat).drop nx.toNat), 0⟩] (nx + n), ⟨by simp, by simp; omega, by omega, by omega⟩, fun ns hns => ⟨hi ns _ _ _ hns (fun l => ?_), hs ns _ _ _ hns (j0f _ ?_)⟩⟩
        · unfold trText
          refine Ev.bind (trUvar_ok l ei) (Ev.pos rfl (Ev.pos h1 (Ev.neg (by dsimp only; rw [w1]; exact h2) (Ev.pos ⟨by dsimp only; omega, by dsimp only; omega⟩ (Ev.now _)))))
        · refine Ev.step (fun k => by rw [spec_l4Text.j0]) ?_
          refine Ev.neg Bool.false_ne_true (Ev.neg (by rw [w1]; exact h2) ?_)
          rw [w2]
          exact Ev.pos (by omega) (Ev.pos (by omega) (Ev.pos (by omega) (Ev.now _)))
    · refine ⟨.err 4, by simp [Out.good], fun ns hns => ⟨⟨_, rfl, hi ns ⟨#[]⟩ nx 4 hns (fun l => ?_), by dsimp only; omega, by dsimp only; omega⟩, _, _, hs ns ⟨#[]⟩ 0 4 hns ?_⟩⟩
      · unfold trText
        refine Ev.bind (trUvar_ok l ei) (Ev.pos rfl (Ev.neg h1 (Ev.now _)))
      · unfold spec_l4Text.f
        refine Ev.bind es (Ev.pos rfl ?_)
        dsimp only
        by_cases h0 : n < 0
        · exact Ev.pos h0 j0t
        · refine Ev.neg h0 ?_
          rw [decide_eq_true (by omega)]; exact j0t
theorem list_both (deep : Int) (hd : 0 ≤ deep ∧ deep ≤ 12) (ih : NodeBoth b (deep + 1)) (id at_ : Int) (len : Nat) (hlen : len < 1500) (a0 : 0 ≤ at_) (a1 : at_ ≤ b.length) : ∃ o : Out, o.good len b 1 ∧ ∀ ns : List S40, ns.length = len →
    o.impl ns (fun k => trNode k b ⟨at_, ns, 0⟩ 9 id deep) ∧ o.spec ns (fun k => spec_l4Read.f k b at_ 9 id deep ns) := by
  have h12 := hd.2
  have hset : ∀ (ns : List S40) (x y : S40), (ns ++ [x]).set (ns.length : Int).toNat y = ns ++ [y] := fun ns x y => by
    have h2 := set_last ns [] x y
    rw [List.append_nil] at h2
    rw [Int.toNat_natCast, h2, List.append_nil]
  have hrd : ∀ (ns : List S40) (x : S40), rd_T40 (ns ++ [x]) (ns.length : Int) = x := fun ns x => by
    have h2 := rd_last ns [] x
    rwa [List.append_nil] at h2
  have hs : ∀ (ns : List S40) (m kd q c : Int) (r : List S40 × Int × Int), ns.length = len → Ev (fun k => spec_l4Many.f k b at_) (m, kd, q, c) → Ev (fun k => spec_l4Read.l0 k b deep (ns ++ [⟨9, id, kd, ⟨#[]⟩, m⟩]) m kd q c 0) r → Ev (fun k => spec_l4Read.f k b at_ 9 id deep ns) r := by
    intro ns m kd q c r hns h h'
    refine spec_begin b 9 id at_ deep ns (by omega) h12 _ ?_
    rw [decide_eq_false (by omega)]
    refine Ev.step (fun k => by rw [spec_l4Read.j1]) ?_
    refine Ev.neg Bool.false_ne_true (Ev.neg (by omega) (Ev.pos rfl (Ev.bind h (Ev.pos (by omega) (Ev.pos (by simp only [List.length_append, List.length_singleton]; omega) (Ev.here rfl ?_))))))
    rw [hset, hrd, hset, hrd]
    exact h'
  have hi : ∀ (ns : List S40) (s : TR), ns.length = len → Ev (fun k => trParts k b ⟨at_, ns ++ [⟨9, id, 0, ⟨#[]⟩, 0⟩], 0⟩ (ns.length : Int) deep) s → Ev (fun k => trNode k b ⟨at_, ns, 0⟩ 9 id deep) s := by
    intro ns s hns h
    refine Ev.step (fun k => by rw [trNode]) ?_
    exact Ev.here (begin_yes ns at_ deep _ h12 (by omega)) (Ev.pos rfl (Ev.neg (by omega) (Ev.neg (by omega) (Ev.pos rfl h))))
  -- a failure told by l4Many
  have hl0 : ∀ (L : List S40) (m kd q c : Int), ¬ (0 < m) ∨ c ≠ 0 → Ev (fun k => spec_l4Read.l0 k b deep L m kd q c 0) (L, q, c) := by
    intro L m kd q c h
    refine Ev.step (fun k => by rw [spec_l4Read.l0]) ?_
    by_cases hm : 0 < m
    · exact Ev.pos hm (Ev.neg (h.resolve_left (fun h => h hm)) (Ev.now _))
    · exact Ev.neg hm (Ev.now _)
  by_cases hend : (b.length : Int) ≤ at_
  · refine ⟨.err 1, by simp [Out.good], fun ns hns => ⟨⟨⟨at_, ns ++ [⟨9, id, 0, ⟨#[]⟩, 0⟩], 1⟩, rfl, hi ns _ hns ?_, by dsimp only; omega, by dsimp only; omega⟩, _, _, hs ns 0 0 0 1 _ hns ?_ (hl0 _ _ _ _ _ (Or.inl (by omega)))⟩⟩
    · refine Ev.step (fun k => by rw [trParts]) ?_
      refine Ev.here (trOne_end b at_ _ hend) ?_
      have e0 : ¬ wrap64 (Int.tdiv 0 16) = 15 := by rw [Int.zero_tdiv, wrap64_id (by omega) (by omega)]; omega
      exact Ev.bind (Ev.neg e0 (Ev.now _)) (Ev.neg (fun h => by have := h.1; dsimp only at this; omega) (Ev.now _))
    · unfold spec_l4Many.f
      exact Ev.pos hend (Ev.now _)
  have hby := rd_byte b hb at_
  obtain ⟨h, hh⟩ : ∃ z, z = rd b at_ := ⟨_, rfl⟩
  rw [← hh] at hby
  have e1 : wrap64 h = h := wrap64_id (by omega) (by omega)
  have e2 : Int.tdiv h 16 = h / 16 := Int.tdiv_eq_ediv_of_nonneg hby.1
  have e3 : Int.tmod h 16 = h % 16 := Int.tmod_eq_emod_of_nonneg hby.1
  have e4 : wrap64 (h / 16) = h / 16 := wrap64_id (by omega) (by omega)
  have e5 : wrap64 (at_ + 1) = at_ + 1 := wrap64_id (by omega) (by omega)
  have hone : ∀ l, trOne b ⟨at_, l, 0⟩ = some (h, ⟨at_ + 1, l, 0⟩) := fun l => by rw [trOne_in b hb at_ l a0 (by omega), ← hh]
  -- the rest, from the count on
  have rest : ∀ (m q : Int), 0 ≤ q → q ≤ b.length → (-9223372036854775808 ≤ m ∧ m ≤ 9223372036854775807) →
      (∀ r, Ev (fun k => spec_l4Many.j0 k q m (h % 16)) r → Ev (fun k => spec_l4Many.f k b at_) r) →
      (∀ (l : List S40) (s : TR), l.length = len + 1 → Ev (fun k => if m ≠ 0 then (impl_isType.f 1 (h % 16) true).bind fun ty =>
        (trSet (if 0 ≤ m ∧ m ≤ 1500 then (if ty = true then ⟨q, l, 0⟩ else trFail ⟨q, l, 0⟩ 2) else trFail (if ty = true then ⟨q, l, 0⟩ else trFail ⟨q, l, 0⟩ 2) 4) (len : Int) (fun x => ⟨x.f0, x.f1, h % 16, x.f3, m⟩)).bind fun s4 => trPLoop k b s4 (h % 16) m 0 deep else some ⟨q, l, 0⟩) s → Ev (fun k => trParts k b ⟨at_, l, 0⟩ (len : Int) deep) s) →
      ∃ o : Out, o.good len b 1 ∧ ∀ ns : List S40, ns.length = len → o.impl ns (fun k => trNode k b ⟨at_, ns, 0⟩ 9 id deep) ∧ o.spec ns (fun k => spec_l4Read.f k b at_ 9 id deep ns) := by
    intro m q q0 q1 hm hS hI
    by_cases hm0 : m = 0
    · subst hm0
      refine ⟨.ok [⟨9, id, 0, ⟨#[]⟩, 0⟩] q, ⟨by simp, by simp; omega, q0, q1⟩, fun ns hns => ⟨hi ns _ hns ?_, hs ns 0 0 q 0 _ hns (hS _ ?_) (hl0 _ _ _ _ _ (Or.inl (by omega)))⟩⟩
      · rw [hns]
        exact hI _ _ (by simp [hns]) (Ev.neg (by simp) (Ev.now _))
      · exact Ev.step (fun k => by rw [spec_l4Many.j0]) (by exact Ev.pos rfl (Ev.now _))
    -- a failure behind the count
    have fail : ∀ (c : Int) (ty : Bool), c ≠ 0 → impl_isType.f 1 (h % 16) true = some ty → (∀ l : List S40, (if 0 ≤ m ∧ m ≤ 1500 then (if ty = true then (⟨q, l, 0⟩ : TR) else trFail ⟨q, l, 0⟩ 2) else trFail (if ty = true then ⟨q, l, 0⟩ else trFail ⟨q, l, 0⟩ 2) 4) = ⟨q, l, c⟩) →
        Ev (fun k => spec_l4Many.j0 k q m (h % 16)) (0, 0, 0, c) → ∃ o : Out, o.good len b 1 ∧ ∀ ns : List S40, ns.length = len → o.impl ns (fun k => trNode k b ⟨at_, ns, 0⟩ 9 id deep) ∧ o.spec ns (fun k => spec_l4Read.f k b at_ 9 id deep ns) := by
      intro c ty hc hty hst hsp
      refine ⟨.err c, hc, fun ns hns => ⟨⟨⟨q, ns ++ [⟨9, id, h % 16, ⟨#[]⟩, m⟩], c⟩, rfl, hi ns _ hns ?_, by dsimp only; omega, by dsimp only; omega⟩, _, _, hs ns 0 0 0 c _ hns (hS _ hsp) (hl0 _ _ _ _ _ (Or.inl (by omega)))⟩⟩
      rw [hns]
      refine hI _ _ (by simp [hns]) (Ev.pos hm0 (Ev.here hty ?_))
      rw [hst, ← hns]
      refine Ev.here (trSet_last0 q c ns _ _) ?_
      refine Ev.step (fun k => by rw [trPLoop]) ?_
      exact Ev.neg (fun h => hc h.2) (Ev.now _)
    obtain ⟨ty, hty⟩ : ∃ ty, impl_isType.f 1 (h % 16) true = some ty := ⟨_, isType_f _ _⟩
    cases ty with
    | false =>
      refine fail 2 false (by omega) hty (fun l => ?_) ?_
      · by_cases hr : 0 ≤ m ∧ m ≤ 1500
        · rw [if_pos hr]; rfl
        · rw [if_neg hr]; rfl
      · refine Ev.step (fun k => by rw [spec_l4Many.j0]) ?_
        exact Ev.neg hm0 (Ev.here ((l4Item_f _).trans hty) (Ev.neg Bool.false_ne_true (Ev.now _)))
    | true =>
      by_cases hr : 0 ≤ m ∧ m ≤ 1500
      · have hsp : Ev (fun k => spec_l4Many.j0 k q m (h % 16)) (m, h % 16, q, 0) := by
          refine Ev.step (fun k => by rw [spec_l4Many.j0]) ?_
          exact Ev.neg hm0 (Ev.here ((l4Item_f _).trans hty) (Ev.pos rfl (Ev.neg (by omega) (Ev.neg (by omega) (Ev.now _)))))
        obtain ⟨o, hg, ho⟩ := item_loop b deep hd ih (h % 16) m hr.2 m.toNat 0 (by omega) (by omega) q (len + 1) (by omega) q0 q1
        have hI2 : ∀ (ns : List S40) (s : TR), ns.length = len → Ev (fun k => trPLoop k b ⟨q, ns ++ [⟨9, id, h % 16, ⟨#[]⟩, m⟩], 0⟩ (h % 16) m 0 deep) s → Ev (fun k => trNode k b ⟨at_, ns, 0⟩ 9 id deep) s := by
          intro ns s hns h'
          refine hi ns s hns ?_
          rw [hns]
          refine hI _ _ (by simp [hns]) (Ev.pos hm0 (Ev.here hty ?_))
          rw [if_pos hr, if_pos rfl, ← hns]
          exact Ev.here (trSet_last0 q 0 ns _ _) h'
        cases o with
        | err c =>
          refine ⟨.err c, hg, fun ns hns => ?_⟩
          obtain ⟨⟨s, hs1, hs2, hs3⟩, l, n, hl1⟩ := ho (ns ++ [⟨9, id, h % 16, ⟨#[]⟩, m⟩]) (by simp [hns])
          exact ⟨⟨s, hs1, hI2 ns s hns hs2, hs3⟩, l, n, hs ns _ _ _ _ _ hns (hS _ hsp) hl1⟩
        | ok ext nx =>
          refine ⟨.ok ([⟨9, id, h % 16, ⟨#[]⟩, m⟩] ++ ext) nx, ⟨by simp, by have := hg.2.1; simp; omega, hg.2.2⟩, fun ns hns => ?_⟩
          obtain ⟨h1, h2⟩ := ho (ns ++ [⟨9, id, h % 16, ⟨#[]⟩, m⟩]) (by simp [hns])
          refine ⟨?_, ?_⟩
          · refine hI2 ns _ hns ?_
            rw [← List.append_assoc]; exact h1
          · refine hs ns _ _ _ _ _ hns (hS _ hsp) ?_
            rw [← List.append_assoc]; exact h2
      · refine fail 4 true (by omega) hty (fun l => by rw [if_neg hr]; rfl) ?_
        refine Ev.step (fun k => by rw [spec_l4Many.j0]) ?_
        refine Ev.neg hm0 (Ev.here ((l4Item_f _).trans hty) (Ev.pos rfl ?_))
        by_cases hn : m < 0
        · exact Ev.pos hn (Ev.now _)
        · exact Ev.neg hn (Ev.pos (by omega) (Ev.now _))
  have spf : ∀ r, Ev (fun k => if h / 16 = 15 then (spec_UvarGet.f k b (at_ + 1)).bind fun bt => (if bt.2.2 = true then spec_l4Many.j0 k bt.2.1 bt.1 (h % 16) else some (0, 0, 0, 1)) else spec_l4Many.j0 k (at_ + 1) (h / 16) (h % 16)) r → Ev (fun k => spec_l4Many.f k b at_) r := by
    intro r hr
    unfold spec_l4Many.f
    refine Ev.neg (by omega) (Ev.pos a0 (Ev.pos (by omega) ?_))
    rw [← hh, e1, e2, e3, e4, e5]
    exact hr
  have imf : ∀ (l : List S40) (m : Int) (s1 s : TR), Ev (fun k => if h / 16 = 15 then trUvar k b ⟨at_ + 1, l, 0⟩ else some (h / 16, ⟨at_ + 1, l, 0⟩)) (m, s1) → Ev (fun k => if s1.cd = 0 ∧ m ≠ 0 then ((impl_isType.f 1 (h % 16) true).bind fun ty =>
        (trSet (if 0 ≤ m ∧ m ≤ 1500 then (if ty = true then s1 else trFail s1 2) else trFail (if ty = true then s1 else trFail s1 2) 4) (len : Int) (fun x => ⟨x.f0, x.f1, h % 16, x.f3, m⟩)).bind fun s4 => trPLoop k b s4 (h % 16) m 0 deep) else some s1) s → Ev (fun k => trParts k b ⟨at_, l, 0⟩ (len : Int) deep) s := by
    intro l m s1 s h1 h2
    refine Ev.step (fun k => by rw [trParts]) ?_
    refine Ev.here (hone l) ?_
    dsimp only
    rw [e2, e3, e4]
    exact Ev.bind h1 h2
  by_cases h15 : h / 16 = 15
  · obtain ⟨⟨n, nx, ok⟩, es, ei, hr1, hr2, hr3⟩ := UvarGet_both b hb hl (at_ + 1) (by omega) (by omega)
    dsimp only at hr1 hr2 hr3
    cases ok with
    | false =>
      refine ⟨.err 1, by simp [Out.good], fun ns hns => ⟨⟨⟨at_ + 1, ns ++ [⟨9, id, 0, ⟨#[]⟩, 0⟩], 1⟩, rfl, hi ns _ hns ?_, by dsimp only; omega, by dsimp only; omega⟩, _, _, hs ns 0 0 0 1 _ hns (spf _ (Ev.pos h15 (Ev.bind es (Ev.neg Bool.false_ne_true (Ev.now _))))) (hl0 _ _ _ _ _ (Or.inl (by omega)))⟩⟩
      rw [hns]
      exact imf _ _ _ _ (Ev.pos h15 (trUvar_no _ ei)) (Ev.neg (fun h => by have := h.1; dsimp only at this; omega) (Ev.now _))
    | true =>
      have hn := hr2 rfl
      refine rest n nx (by omega) hn.2 hr1 (fun r hr => spf r (Ev.pos h15 (Ev.bind es (Ev.pos rfl hr)))) (fun l s hl' hs' => imf l n ⟨nx, l, 0⟩ s (Ev.pos h15 (trUvar_ok l ei)) ?_)
      by_cases hm0 : n = 0
      · subst hm0
        have := Ev.det hs' (Ev.neg (by simp) (Ev.now _))
        rw [this]
        exact Ev.neg (fun h => h.2 rfl) (Ev.now _)
      · obtain ⟨K, hK⟩ := hs'
        exact ⟨K, fun k hk => by have := hK k hk; dsimp only at this ⊢; rw [if_pos (show n ≠ 0 from hm0)] at this; rw [if_pos ⟨rfl, hm0⟩]; exact this⟩
  · refine rest (h / 16) (at_ + 1) (by omega) (by omega) (by omega) (fun r hr => spf r (Ev.neg h15 hr)) (fun l s hl' hs' => imf l (h / 16) ⟨at_ + 1, l, 0⟩ s (Ev.neg h15 (Ev.now _)) ?_)
    by_cases hm0 : h / 16 = 0
    · have := Ev.det hs' (Ev.neg (by simp [hm0]) (Ev.now _))
      rw [this]
      exact Ev.neg (fun h => h.2 hm0) (Ev.now _)
    · obtain ⟨K, hK⟩ := hs'
      exact ⟨K, fun k hk => by have := hK k hk; dsimp only at this ⊢; rw [if_pos (show h / 16 ≠ 0 from hm0)] at this; rw [if_pos ⟨rfl, hm0⟩]; exact this⟩
set_option maxHeartbeats 800000 in
theorem field_loop (deep : Int) (hd : 0 ≤ deep ∧ deep ≤ 12) (ih : NodeBoth b (deep + 1)) (id : Int) (len : Nat) : ∀ (r : Nat) (E : List S40) (at_ last : Int) (c : Nat), len + 1 + E.length + r = 1500 → 0 ≤ at_ → at_ ≤ b.length → 0 ≤ last → last ≤ 1000 → c ≤ E.length →
    ∃ o : Out, o.good len b 1 ∧ ∀ ns : List S40, ns.length = len → o.impl ns (fun k => trFields k b ⟨at_, ns ++ [⟨12, id, 0, ⟨#[]⟩, (c : Int)⟩] ++ E, 0⟩ (len : Int) last deep) ∧ o.spec ns (fun k => spec_l4Read.l1 k b at_ deep (ns ++ [⟨12, id, 0, ⟨#[]⟩, 0⟩] ++ E) (len : Int) last (c : Int)) := by
  intro r
  induction r using Nat.strongRecOn with
  | _ r ihr =>
  intro E at_ last c hlen a0 a1 l0 l1 hc
  -- a failure: both sides
  have fail : ∀ (e : Int) (at2 : Int) (q0 : -9223372036854775808 ≤ at2 ∧ at2 ≤ 9223372036854775807) , e ≠ 0 → (∀ ns : List S40, ns.length = len → ∃ l, Ev (fun k => trFields k b ⟨at_, ns ++ [⟨12, id, 0, ⟨#[]⟩, (c : Int)⟩] ++ E, 0⟩ (len : Int) last deep) ⟨at2, l, e⟩) →
      (Ev (fun k => spec_l4Head.f k b at_ last) (0, 0, 0, e)) → ∃ o : Out, o.good len b 1 ∧ ∀ ns : List S40, ns.length = len → o.impl ns (fun k => trFields k b ⟨at_, ns ++ [⟨12, id, 0, ⟨#[]⟩, (c : Int)⟩] ++ E, 0⟩ (len : Int) last deep) ∧ o.spec ns (fun k => spec_l4Read.l1 k b at_ deep (ns ++ [⟨12, id, 0, ⟨#[]⟩, 0⟩] ++ E) (len : Int) last (c : Int)) := by
    intro e at2 q0 he h1 h2
    refine ⟨.err e, he, fun ns hns => ?_⟩
    obtain ⟨l, h1⟩ := h1 ns hns
    refine ⟨⟨_, rfl, h1, q0.1, q0.2⟩, ns ++ [⟨12, id, 0, ⟨#[]⟩, 0⟩] ++ E, 0, ?_⟩
    refine Ev.step (fun k => by rw [spec_l4Read.l1]) ?_
    exact Ev.bind h2 (Ev.neg he (Ev.now _))
  by_cases hend : (b.length : Int) ≤ at_
  · refine fail 1 at_ (by omega) (by omega) (fun ns hns => ⟨ns ++ [⟨12, id, 0, ⟨#[]⟩, (c : Int)⟩] ++ E, ?_⟩) ?_
    · refine Ev.step (fun k => by rw [trFields]) ?_
      exact Ev.here (trOne_end b at_ _ hend) (Ev.neg (fun h => by have := h.1; dsimp only at this; omega) (Ev.now _))
    · unfold spec_l4Head.f
      exact Ev.pos hend (Ev.now _)
  have hby := rd_byte b hb at_
  obtain ⟨h, hh⟩ : ∃ z, z = rd b at_ := ⟨_, rfl⟩
  rw [← hh] at hby
  have e1 : Unit → wrap64 h = h := fun _ => wrap64_id (by omega) (by omega)
  have e2 : Unit → Int.tdiv h 16 = h / 16 := fun _ => Int.tdiv_eq_ediv_of_nonneg hby.1
  have e3 : Unit → Int.tmod h 16 = h % 16 := fun _ => Int.tmod_eq_emod_of_nonneg hby.1
  have e4 : Unit → wrap64 (h / 16) = h / 16 := fun _ => wrap64_id (by omega) (by omega)
  have e5 : Unit → wrap64 (at_ + 1) = at_ + 1 := fun _ => wrap64_id (by omega) (by omega)
  have e6 : Unit → wrap64 (last + h / 16) = last + h / 16 := fun _ => wrap64_id (by omega) (by omega)
  have e7 : Unit → wrap64 (deep + 1) = deep + 1 := fun _ => wrap64_id (by omega) (by omega)
  have e8 : Unit → wrap64 ((c : Int) + 1) = ((c + 1 : Nat) : Int) := fun _ => by rw [wrap64_id (by omega) (by omega)]; omega
  have hone : ∀ l, trOne b ⟨at_, l, 0⟩ = some (h, ⟨at_ + 1, l, 0⟩) := fun l => by rw [trOne_in b hb at_ l a0 (by omega), ← hh]
  by_cases hz : h = 0
  · subst hz
    refine ⟨.ok ([⟨12, id, 0, ⟨#[]⟩, (c : Int)⟩] ++ E) (at_ + 1), ⟨by simp, by simp; omega, by omega, by omega⟩, fun ns hns => ⟨?_, ?_⟩⟩
    · refine Ev.step (fun k => by rw [trFields]) ?_
      refine Ev.here (hone _) (Ev.neg (fun h => h.2 rfl) ?_)
      rw [← List.append_assoc]; exact Ev.now _
    · refine Ev.step (fun k => by rw [spec_l4Read.l1]) ?_
      have hq : Ev (fun k => spec_l4Head.f k b at_ last) (0, 0, at_ + 1, 0) := by
        unfold spec_l4Head.f
        refine Ev.neg (by omega) (Ev.pos a0 (Ev.pos (by omega) (Ev.pos hh.symm ?_)))
        rw [e5 ()]; exact Ev.now _
      refine Ev.bind hq (Ev.pos rfl (Ev.pos rfl (Ev.pos (by omega) (Ev.pos (by simp only [List.length_append, List.length_singleton]; omega) ?_))))
      subst hns
      rw [rd_last, Int.toNat_natCast, set_last, ← List.append_assoc]
      exact Ev.now _
  -- behind the head's byte
  have imf : ∀ (l : List S40) (ty : Bool) (s : TR), impl_isType.f 1 (h % 16) false = some ty → Ev (fun k => (if h < 16 then (trUvar k b (if ty = true then ⟨at_ + 1, l, 0⟩ else trFail ⟨at_ + 1, l, 0⟩ 2)).bind fun u => (impl_Zag.f u.1).bind fun z => some (z, u.2) else some (last + h / 16, if ty = true then ⟨at_ + 1, l, 0⟩ else trFail ⟨at_ + 1, l, 0⟩ 2)).bind fun q =>
      (some (if q.2.cd = 0 ∧ ¬ (1 ≤ q.1 ∧ q.1 ≤ 1000) then trFail q.2 3 else q.2)).bind fun s3 => (some (if s3.cd = 0 ∧ q.1 ≤ last then trFail s3 5 else s3)).bind fun s4 =>
      if s4.cd = 0 then ((trSet s4 (len : Int) (fun x => ⟨x.f0, x.f1, x.f2, x.f3, wrap64 (x.f4 + 1)⟩)).bind fun s5 => (trNode k b s5 (h % 16) q.1 (deep + 1)).bind fun s6 => trFields k b s6 (len : Int) q.1 deep) else some s4) s → Ev (fun k => trFields k b ⟨at_, l, 0⟩ (len : Int) last deep) s := by
    intro l ty s hty hs
    refine Ev.step (fun k => by rw [trFields]) ?_
    refine Ev.here (hone l) (Ev.pos ⟨rfl, hz⟩ ?_)
    dsimp only
    rw [e2 (), e3 (), e4 (), e6 (), e7 ()]
    exact Ev.here hty hs
  have spf : ∀ (ty : Bool) r, impl_isType.f 1 (h % 16) false = some ty → Ev (fun k => if ty = true then (if h / 16 = 0 then (spec_ZigGet.f k b (at_ + 1)).bind fun bt => (if bt.2.2 = true then spec_l4Head.j0 k bt.2.1 last (h % 16) bt.1 else some (0, 0, 0, 1)) else spec_l4Head.j0 k (at_ + 1) last (h % 16) (last + h / 16)) else some (0, 0, 0, 2)) r → Ev (fun k => spec_l4Head.f k b at_ last) r := by
    intro ty r hty hr
    unfold spec_l4Head.f
    refine Ev.neg (by omega) (Ev.pos a0 (Ev.pos (by omega) (Ev.neg (by rw [← hh]; exact hz) ?_)))
    rw [← hh, e1 (), e2 (), e3 (), e4 (), e5 (), e6 ()]
    exact Ev.here ((l4Kind_f _).trans hty) hr
  obtain ⟨ty, hty⟩ : ∃ ty, impl_isType.f 1 (h % 16) false = some ty := ⟨_, isType_f _ _⟩
  cases ty with
  | false =>
    refine fail 2 (at_ + 1) (by omega) (by omega) (fun ns hns => ⟨ns ++ [⟨12, id, 0, ⟨#[]⟩, (c : Int)⟩] ++ E, imf _ false _ hty ?_⟩) (spf false _ hty (Ev.neg Bool.false_ne_true (Ev.now _)))
    by_cases h16 : h < 16
    · obtain ⟨z0, _, hz1⟩ := Zag_both 0 (by omega) (by omega)
      have hu := trUvar_bad hb hl ⟨at_ + 1, ns ++ [⟨12, id, 0, ⟨#[]⟩, (c : Int)⟩] ++ E, 2⟩ (by dsimp only; omega) (by dsimp only; omega) (by dsimp only; omega)
      refine Ev.bind (a := (z0, ⟨at_ + 1, ns ++ [⟨12, id, 0, ⟨#[]⟩, (c : Int)⟩] ++ E, 2⟩)) (Ev.pos h16 (Ev.bind hu (Ev.here hz1 (Ev.now _)))) ?_
      dsimp only
      rw [if_neg (by omega)]
      refine Ev.here rfl ?_
      rw [if_neg (by dsimp only; omega)]
      exact Ev.here rfl (Ev.neg (by dsimp only; omega) (Ev.now _))
    · refine Ev.bind (a := (last + h / 16, ⟨at_ + 1, ns ++ [⟨12, id, 0, ⟨#[]⟩, (c : Int)⟩] ++ E, 2⟩)) (Ev.neg h16 (Ev.now _)) ?_
      dsimp only
      rw [if_neg (by omega)]
      refine Ev.here rfl ?_
      rw [if_neg (by dsimp only; omega)]
      exact Ev.here rfl (Ev.neg (by dsimp only; omega) (Ev.now _))
  | true =>
    -- behind the Id
    have rest : ∀ (q at2 : Int), 0 ≤ at2 → at2 ≤ b.length →
        (∀ (l : List S40), Ev (fun k => (if h < 16 then (trUvar k b (if true = true then ⟨at_ + 1, l, 0⟩ else trFail ⟨at_ + 1, l, 0⟩ 2)).bind fun u => (impl_Zag.f u.1).bind fun z => some (z, u.2) else some (last + h / 16, if true = true then ⟨at_ + 1, l, 0⟩ else trFail ⟨at_ + 1, l, 0⟩ 2))) (q, ⟨at2, l, 0⟩)) →
        (∀ r, Ev (fun k => spec_l4Head.j0 k at2 last (h % 16) q) r → Ev (fun k => spec_l4Head.f k b at_ last) r) →
        ∃ o : Out, o.good len b 1 ∧ ∀ ns : List S40, ns.length = len → o.impl ns (fun k => trFields k b ⟨at_, ns ++ [⟨12, id, 0, ⟨#[]⟩, (c : Int)⟩] ++ E, 0⟩ (len : Int) last deep) ∧ o.spec ns (fun k => spec_l4Read.l1 k b at_ deep (ns ++ [⟨12, id, 0, ⟨#[]⟩, 0⟩] ++ E) (len : Int) last (c : Int)) := by
      intro q at2 q0 q1 hI hS
      by_cases h3 : 1 ≤ q ∧ q ≤ 1000
      case neg =>
        refine fail 3 at2 (by omega) (by omega) (fun ns hns => ⟨ns ++ [⟨12, id, 0, ⟨#[]⟩, (c : Int)⟩] ++ E, imf _ true _ hty (Ev.bind (hI _) ?_)⟩) (hS _ ?_)
        · dsimp only
          rw [if_pos ⟨rfl, h3⟩]
          refine Ev.here rfl ?_
          rw [if_neg (fun h => by have := h.1; exact absurd this (by show ¬ ((3 : Int) = 0); omega))]
          exact Ev.here rfl (Ev.neg (by show ¬ ((3 : Int) = 0); omega) (Ev.now _))
        · refine Ev.step (fun k => by rw [spec_l4Head.j0]) ?_
          refine Ev.here (l1In_some _ _ _) ?_
          rw [decide_eq_false h3]
          exact Ev.neg Bool.false_ne_true (Ev.now _)
      by_cases h5 : q ≤ last
      · refine fail 5 at2 (by omega) (by omega) (fun ns hns => ⟨ns ++ [⟨12, id, 0, ⟨#[]⟩, (c : Int)⟩] ++ E, imf _ true _ hty (Ev.bind (hI _) ?_)⟩) (hS _ ?_)
        · dsimp only
          rw [if_neg (fun h => h.2 h3)]
          refine Ev.here rfl ?_
          rw [if_pos ⟨rfl, h5⟩]
          exact Ev.here rfl (Ev.neg (by show ¬ ((5 : Int) = 0); omega) (Ev.now _))
        · refine Ev.step (fun k => by rw [spec_l4Head.j0]) ?_
          refine Ev.here (l1In_some _ _ _) ?_
          rw [decide_eq_true h3]
          exact Ev.pos rfl (Ev.pos h5 (Ev.now _))
      have hsp : Ev (fun k => spec_l4Head.f k b at_ last) (h % 16, q, at2, 0) := by
        refine hS _ ?_
        refine Ev.step (fun k => by rw [spec_l4Head.j0]) ?_
        refine Ev.here (l1In_some _ _ _) ?_
        rw [decide_eq_true h3]
        exact Ev.pos rfl (Ev.neg h5 (Ev.now _))
      have hk0 : ¬ (h % 16 = 0) := fun hk => by
        rw [isType_f, hk] at hty
        simp at hty
      have hI2 : ∀ (ns : List S40) (s : TR), ns.length = len → Ev (fun k => (trNode k b ⟨at2, ns ++ [⟨12, id, 0, ⟨#[]⟩, ((c + 1 : Nat) : Int)⟩] ++ E, 0⟩ (h % 16) q (deep + 1)).bind fun s6 => trFields k b s6 (len : Int) q deep) s → Ev (fun k => trFields k b ⟨at_, ns ++ [⟨12, id, 0, ⟨#[]⟩, (c : Int)⟩] ++ E, 0⟩ (len : Int) last deep) s := by
        intro ns s hns hs
        refine imf _ true _ hty (Ev.bind (hI _) ?_)
        dsimp only
        rw [if_neg (fun h => h.2 h3)]
        refine Ev.here rfl ?_
        rw [if_neg (fun h => h5 h.2)]
        refine Ev.here rfl (Ev.pos rfl ?_)
        rw [← hns, trSet_last, hns, e8 ()]
        exact Ev.here rfl hs
      have hS2 : ∀ (ns : List S40) (r : List S40 × Int × Int), ns.length = len → Ev (fun k => (spec_l4Read.f k b at2 (h % 16) q (deep + 1) (ns ++ [⟨12, id, 0, ⟨#[]⟩, 0⟩] ++ E)).bind fun bt157 => (if bt157.2.2 = 0 then (spec_l4Read.l1 k b bt157.2.1 deep bt157.1 (len : Int) q ((c + 1 : Nat) : Int)) else (some (bt157.1, 0, bt157.2.2)))) r → Ev (fun k => spec_l4Read.l1 k b at_ deep (ns ++ [⟨12, id, 0, ⟨#[]⟩, 0⟩] ++ E) (len : Int) last (c : Int)) r := by
        intro ns r hns hr
        refine Ev.step (fun k => by rw [spec_l4Read.l1]) ?_
        refine Ev.bind hsp (Ev.pos rfl (Ev.neg hk0 ?_))
        rw [e7 (), e8 ()]
        exact hr
      obtain ⟨o, hg, ho⟩ := ih (h % 16) q at2 (len + 1 + E.length) (by omega) q0 q1
      cases o with
      | err e =>
        refine ⟨.err e, hg, fun ns hns => ?_⟩
        obtain ⟨⟨s, hs1, hs2, hs3⟩, _⟩ := ho (ns ++ [⟨12, id, 0, ⟨#[]⟩, ((c + 1 : Nat) : Int)⟩] ++ E) (by simp only [List.length_append, List.length_singleton]; omega)
        obtain ⟨_, l, n, hl1⟩ := ho (ns ++ [⟨12, id, 0, ⟨#[]⟩, 0⟩] ++ E) (by simp only [List.length_append, List.length_singleton]; omega)
        have hcd : s.cd ≠ 0 := hs1 ▸ hg
        refine ⟨⟨s, hs1, hI2 ns s hns (Ev.bind hs2 ?_), hs3⟩, l, 0, hS2 ns _ hns (Ev.bind hl1 (Ev.neg hg (Ev.now _)))⟩
        refine Ev.step (fun k => by rw [trFields]) ?_
        exact Ev.here (trOne_bad b s hcd) (Ev.neg (fun h => hcd h.1) (Ev.now _))
      | ok ext nx =>
        obtain ⟨g1, g2, g3, g4⟩ := hg
        obtain ⟨o2, hg2, ho2⟩ := ihr (r - ext.length) (by omega) (E ++ ext) nx q (c + 1) (by rw [List.length_append]; omega) g3 g4 (by omega) (by omega) (by rw [List.length_append]; omega)
        have hjoin : ∀ (ns : List S40), ns.length = len → (∀ s, Ev (fun k => trFields k b ⟨nx, ns ++ [⟨12, id, 0, ⟨#[]⟩, ((c + 1 : Nat) : Int)⟩] ++ (E ++ ext), 0⟩ (len : Int) q deep) s → Ev (fun k => trFields k b ⟨at_, ns ++ [⟨12, id, 0, ⟨#[]⟩, (c : Int)⟩] ++ E, 0⟩ (len : Int) last deep) s) ∧
            (∀ r, Ev (fun k => spec_l4Read.l1 k b nx deep (ns ++ [⟨12, id, 0, ⟨#[]⟩, 0⟩] ++ (E ++ ext)) (len : Int) q ((c + 1 : Nat) : Int)) r → Ev (fun k => spec_l4Read.l1 k b at_ deep (ns ++ [⟨12, id, 0, ⟨#[]⟩, 0⟩] ++ E) (len : Int) last (c : Int)) r) := by
          intro ns hns
          obtain ⟨h1, _⟩ := ho (ns ++ [⟨12, id, 0, ⟨#[]⟩, ((c + 1 : Nat) : Int)⟩] ++ E) (by simp only [List.length_append, List.length_singleton]; omega)
          obtain ⟨_, h2⟩ := ho (ns ++ [⟨12, id, 0, ⟨#[]⟩, 0⟩] ++ E) (by simp only [List.length_append, List.length_singleton]; omega)
          refine ⟨fun s hs => hI2 ns s hns (Ev.bind h1 ?_), fun r hr => hS2 ns r hns (Ev.bind h2 (Ev.pos rfl ?_))⟩
          · rw [List.append_assoc _ E ext]; exact hs
          · dsimp only; rw [List.append_assoc _ E ext]; exact hr
        refine ⟨o2, hg2, fun ns hns => ?_⟩
        obtain ⟨j1, j2⟩ := hjoin ns hns
        cases o2 with
        | err e =>
          obtain ⟨⟨s, hs1, hs2, hs3⟩, l, n, hl1⟩ := ho2 ns hns
          exact ⟨⟨s, hs1, j1 s hs2, hs3⟩, l, n, j2 _ hl1⟩
        | ok ext2 nx2 =>
          obtain ⟨h1, h2⟩ := ho2 ns hns
          exact ⟨j1 _ h1, j2 _ h2⟩
    by_cases h16 : h < 16
    · obtain ⟨⟨n, nx, ok⟩, es, ei, hr1, hr2, hr3⟩ := UvarGet_both b hb hl (at_ + 1) (by omega) (by omega)
      dsimp only at hr1 hr2 hr3
      cases ok with
      | false =>
        obtain ⟨z0, _, hz1⟩ := Zag_both 0 (by omega) (by omega)
        refine fail 1 (at_ + 1) (by omega) (by omega) (fun ns hns => ⟨ns ++ [⟨12, id, 0, ⟨#[]⟩, (c : Int)⟩] ++ E, imf _ true _ hty (Ev.bind (a := (z0, ⟨at_ + 1, ns ++ [⟨12, id, 0, ⟨#[]⟩, (c : Int)⟩] ++ E, 1⟩)) (Ev.pos h16 (Ev.bind (trUvar_no _ ei) (Ev.here hz1 (Ev.now _)))) ?_)⟩) (spf true _ hty (Ev.pos rfl (Ev.pos (by omega) (Ev.bind (zig_no es) (Ev.neg Bool.false_ne_true (Ev.now _))))))
        dsimp only
        rw [if_neg (by omega)]
        refine Ev.here rfl ?_
        rw [if_neg (by dsimp only; omega)]
        exact Ev.here rfl (Ev.neg (by dsimp only; omega) (Ev.now _))
      | true =>
        obtain ⟨z, hz1, hz2⟩ := Zag_both n hr1.1 hr1.2
        have hn := hr2 rfl
        exact rest z nx (by omega) hn.2 (fun l => Ev.pos h16 (Ev.bind (trUvar_ok l ei) (Ev.here hz2 (Ev.now _)))) (fun r hr => spf true _ hty (Ev.pos rfl (Ev.pos (by omega) (Ev.bind (zig_yes es hz1) (Ev.pos rfl hr)))))
    · exact rest (last + h / 16) (at_ + 1) (by omega) (by omega) (fun l => Ev.neg h16 (Ev.now _)) (fun r hr => spf true _ hty (Ev.pos rfl (Ev.neg (by omega) hr)))
theorem struct_both (deep : Int) (hd : 0 ≤ deep ∧ deep ≤ 12) (ih : NodeBoth b (deep + 1)) (id at_ : Int) (len : Nat) (hlen : len < 1500) (a0 : 0 ≤ at_) (a1 : at_ ≤ b.length) : ∃ o : Out, o.good len b 1 ∧ ∀ ns : List S40, ns.length = len →
    o.impl ns (fun k => trNode k b ⟨at_, ns, 0⟩ 12 id deep) ∧ o.spec ns (fun k => spec_l4Read.f k b at_ 12 id deep ns) := by
  obtain ⟨o, hg, ho⟩ := field_loop b hb hl deep hd ih id len (1499 - len) [] at_ 0 0 (by simp; omega) a0 a1 (by omega) (by omega) (by simp)
  have hi : ∀ (ns : List S40) (s : TR), ns.length = len → Ev (fun k => trFields k b ⟨at_, ns ++ [⟨12, id, 0, ⟨#[]⟩, ((0 : Nat) : Int)⟩] ++ [], 0⟩ (len : Int) 0 deep) s → Ev (fun k => trNode k b ⟨at_, ns, 0⟩ 12 id deep) s := by
    intro ns s hns h
    rw [List.append_nil] at h
    refine Ev.step (fun k => by rw [trNode]) ?_
    refine Ev.here (begin_yes ns at_ deep _ hd.2 (by omega)) (Ev.pos rfl (Ev.neg (by omega) (Ev.neg (by omega) (Ev.neg (by omega) (Ev.pos rfl ?_)))))
    rw [hns]; exact h
  have hs : ∀ (ns : List S40) (r : List S40 × Int × Int), ns.length = len → Ev (fun k => spec_l4Read.l1 k b at_ deep (ns ++ [⟨12, id, 0, ⟨#[]⟩, 0⟩] ++ []) (len : Int) 0 ((0 : Nat) : Int)) r → Ev (fun k => spec_l4Read.f k b at_ 12 id deep ns) r := by
    intro ns r hns h
    rw [List.append_nil] at h
    refine spec_begin b 12 id at_ deep ns (by omega) hd.2 _ ?_
    rw [decide_eq_false (by omega)]
    refine Ev.step (fun k => by rw [spec_l4Read.j1]) ?_
    refine Ev.neg Bool.false_ne_true (Ev.neg (by omega) (Ev.neg (by omega) (Ev.pos rfl ?_)))
    rw [hns]; exact h
  refine ⟨o, hg, fun ns hns => ?_⟩
  cases o with
  | err e =>
    obtain ⟨⟨s, hs1, hs2, hs3⟩, l, n, hl1⟩ := ho ns hns
    exact ⟨⟨s, hs1, hi ns s hns hs2, hs3⟩, l, n, hs ns _ hns hl1⟩
  | ok ext nx =>
    obtain ⟨h1, h2⟩ := ho ns hns
    exact ⟨hi ns _ hns h1, hs ns _ hns h2⟩
theorem node_both : ∀ (d : Nat) (deep : Int), 0 ≤ deep → deep ≤ 13 → deep + d = 13 → NodeBoth b deep := by
  intro d
  induction d with
  | zero =>
    intro deep h0 h13 hd kind id at_ len hlen a0 a1
    refine ⟨.err 4, by simp [Out.good], fun ns hns => ⟨⟨⟨at_, ns, 4⟩, rfl, ?_, by dsimp only; omega, by dsimp only; omega⟩, ns, 0, ?_⟩⟩
    · refine Ev.step (fun k => by rw [trNode]) ?_
      exact Ev.here (begin_no ns at_ deep _ (Or.inl (by omega))) (Ev.neg (by dsimp only; omega) (Ev.now _))
    · refine Ev.step (fun k => by rw [spec_l4Read.f]) ?_
      have hj : Ev (fun k => spec_l4Read.j0 k b at_ kind id deep ns true) (ns, (0 : Int), (4 : Int)) := Ev.step (fun k => by rw [spec_l4Read.j0]) (by exact Ev.pos rfl (Ev.now _))
      by_cases h : (ns.length : Int) = 1500
      · exact Ev.pos h hj
      · refine Ev.neg h ?_
        rw [decide_eq_true (by omega)]; exact hj
  | succ d ih =>
    intro deep h0 h13 hd kind id at_ len hlen a0 a1
    have ih := ih (deep + 1) (by omega) (by omega) (by omega)
    by_cases h15 : len = 1500
    · refine ⟨.err 4, by simp [Out.good], fun ns hns => ⟨⟨⟨at_, ns, 4⟩, rfl, ?_, by dsimp only; omega, by dsimp only; omega⟩, ns, 0, ?_⟩⟩
      · refine Ev.step (fun k => by rw [trNode]) ?_
        exact Ev.here (begin_no ns at_ deep _ (Or.inr (by omega))) (Ev.neg (by dsimp only; omega) (Ev.now _))
      · refine Ev.step (fun k => by rw [spec_l4Read.f]) ?_
        have hj : Ev (fun k => spec_l4Read.j0 k b at_ kind id deep ns true) (ns, (0 : Int), (4 : Int)) := Ev.step (fun k => by rw [spec_l4Read.j0]) (by exact Ev.pos rfl (Ev.now _))
        exact Ev.pos (by omega) hj
    by_cases hk : kind = 5 ∨ kind = 6
    · exact num_both b hb hl deep (by omega) kind id at_ hk len (by omega) a0 a1
    by_cases h8 : kind = 8
    · subst h8; exact text_both b hb hl deep (by omega) id at_ len (by omega) a0 a1
    by_cases h9 : kind = 9
    · subst h9; exact list_both b hb hl deep ⟨h0, by omega⟩ ih id at_ len (by omega) a0 a1
    by_cases h12 : kind = 12
    · subst h12; exact struct_both b hb hl deep ⟨h0, by omega⟩ ih id at_ len (by omega) a0 a1
    refine ⟨.ok [⟨kind, id, 0, ⟨#[]⟩, 0⟩] at_, ⟨by simp, by simp; omega, a0, a1⟩, fun ns hns => ⟨?_, ?_⟩⟩
    · refine Ev.step (fun k => by rw [trNode]) ?_
      exact Ev.here (begin_yes ns at_ deep _ (by omega) (by omega)) (Ev.pos rfl (Ev.neg hk (Ev.neg h8 (Ev.neg h9 (Ev.neg h12 (Ev.now _))))))
    · refine spec_begin b kind id at_ deep ns (by omega) (by omega) _ ?_
      rw [decide_eq_false hk]
      refine Ev.step (fun k => by rw [spec_l4Read.j1]) ?_
      exact Ev.neg Bool.false_ne_true (Ev.neg h8 (Ev.neg h9 (Ev.neg h12 (Ev.now _))))
theorem TreeRead_both (at_ : Int) (i0 : -9223372036854775808 ≤ at_) (i1 : at_ ≤ 9223372036854775807) : ∃ r : List S40 × Int × Int, Ev (fun k => spec_TreeRead.f k b at_) r ∧ Ev (fun k => impl_TreeRead.f k b at_) r ∧ r.1.length ≤ 1500 := by
  have bad : Ev (fun k => spec_TreeRead.j0 k b at_ true) (([] : List S40), (0 : Int), (1 : Int)) := Ev.step (fun k => by rw [spec_TreeRead.j0]) (by exact Ev.pos rfl (Ev.now _))
  by_cases h : 0 ≤ at_ ∧ at_ ≤ (b.length : Int) - 1
  case neg =>
    refine ⟨([], 0, 1), ?_, ?_, by simp⟩
    · unfold spec_TreeRead.f
      by_cases h0 : at_ < 0
      · exact Ev.pos h0 bad
      · refine Ev.neg h0 ?_
        rw [decide_eq_true (by omega)]; exact bad
    · unfold impl_TreeRead.f
      refine Ev.here (within_some _ _ _) ?_
      rw [decide_eq_false h]
      exact Ev.neg Bool.false_ne_true (Ev.now _)
  obtain ⟨o, hg, ho⟩ := node_both b hb hl 12 1 (by omega) (by omega) (by omega) 12 0 at_ 0 (by omega) h.1 (by omega)
  have hsp : ∀ r, Ev (fun k => (spec_l4Read.f k b at_ 12 0 1 []).bind fun bt168 => (if bt168.2.2 = 0 then (some (bt168.1, bt168.2.1, bt168.2.2)) else (some ((([] : List S40)), 0, bt168.2.2)))) r → Ev (fun k => spec_TreeRead.f k b at_) r := by
    intro r hr
    unfold spec_TreeRead.f
    refine Ev.neg (by omega) ?_
    rw [decide_eq_false (by omega)]
    refine Ev.step (fun k => by rw [spec_TreeRead.j0]) ?_
    exact Ev.neg Bool.false_ne_true hr
  have him : ∀ r, Ev (fun k => (trNode k b ⟨at_, [], 0⟩ 12 0 1).bind fun s => (if s.cd = 0 then some (s.ns, s.pos, (0 : Int)) else some ([], 0, s.cd))) r → Ev (fun k => impl_TreeRead.f k b at_) r := by
    intro r hr
    unfold impl_TreeRead.f
    refine Ev.here (within_some _ _ _) ?_
    rw [decide_eq_true h]
    exact Ev.pos rfl hr
  cases o with
  | err e =>
    obtain ⟨⟨s, hs1, hs2, _⟩, l, n, hl1⟩ := ho [] rfl
    refine ⟨([], 0, e), hsp _ (Ev.bind hl1 (Ev.neg hg (Ev.now _))), him _ (Ev.bind hs2 (Ev.neg (by rw [hs1]; exact hg) ?_)), by simp⟩
    rw [hs1]; exact Ev.now _
  | ok ext nx =>
    obtain ⟨h1, h2⟩ := ho [] rfl
    simp only [Out.impl, Out.spec, List.nil_append] at h1 h2
    exact ⟨(ext, nx, 0), hsp _ (Ev.bind h2 (Ev.pos rfl (Ev.now _))), him _ (Ev.bind h1 (Ev.pos rfl (Ev.now _))), by have := hg.2.1; simpa using this⟩
end
theorem FnExactTreeRead : ∀ (x0 : List (Int)) (x1 : Int), (x0.length ≤ maxLen ∧ ∀ y ∈ x0, (Lit.int .u8 y).wf = true) → ((Lit.int .i64 x1).wf = true) → ∃ k, laws_FnExactTreeRead.f k x0 x1 = some true := by
  intro b at_ hx ha
  refine Ev.rounds ?_
  unfold laws_FnExactTreeRead.f
  by_cases hb : (b.length : Int) > 1048576
  · exact Ev.pos hb (Ev.now _)
  refine Ev.neg hb ?_
  have t1 := toByteS_ev b (by omega)
  obtain ⟨r, es, ei, hr⟩ := TreeRead_both b (fun x hx' => u8_of (hx.2 x hx')) (by omega) at_ (i64_of ha).1 (i64_of ha).2
  have q1 := eqByteS_ev b (by omega)
  have q2 := eqNodeS_ev r.1 (by omega)
  obtain ⟨m1, y1, p1, k1, _⟩ := markByteS_evm b 1 (by omega) (by omega)
  obtain ⟨m2, y2, p2, k2, k3⟩ := markNodeS_ev r.1 1 (by omega) (by omega)
  repeat' (first
    | with_reducible exact Ev.now _
    | with_reducible refine Ev.bind t1 ?_ | with_reducible refine Ev.bind es ?_ | with_reducible refine Ev.bind ei ?_
    | with_reducible refine Ev.bind q1 ?_ | with_reducible refine Ev.bind q2 ?_
    | with_reducible refine Ev.bind k1 ?_ | with_reducible refine Ev.bind k2 ?_ | with_reducible refine Ev.bind k3 ?_
    | refine Ev.pos (by first | rfl | omega) ?_
    | refine Ev.neg (by first | omega | decide | simp) ?_
    | refine Ev.step (fun k => by rw [laws_FnExactTreeRead.j0]) ?_
    | refine Ev.step (fun k => by rw [laws_FnExactTreeRead.j1]) ?_
    | refine Ev.step (fun k => by rw [laws_FnExactTreeRead.j2]) ?_)
end Go.Proofs.Ytgnelblghdfgiaa.Pure
