/- The pure statement of FnExactPlacesRead: the printed functions answer as the law says, for all arguments. No condition. -/
import Derived.Test.YtlohdhkgcfebnaaCore
import Derived.Test.YtlohdhkgcfebnaaPFnExactPlacesReadx
import Derived.Test.YtlohdhkgcfebnaaArgFnExactPlacesRead
namespace Go.Proofs.Ytlohdhkgcfebnaa.Pure
open Go.RowKit Go.Proofs.Ytlohdhkgcfebnaa.PFnExactPlacesRead Go.Proofs.Ytlohdhkgcfebnaa.Core Go.Proofs.YtlohdhkgcfebnaaW.PrintWords Go.Proofs.YtlohdhkgcfebnaaW.PrintLast Go.Proofs.YtlohdhkgcfebnaaW.PrintMore Go.Proofs.Ytlohdhkgcfebnaa.AFnExactPlacesRead
set_option linter.unusedVariables false
set_option linter.unusedSimpArgs false
theorem toByteS_ev (l : List Int) (hl : l.length ≤ 281474976710656) : Ev (fun k => laws_toByteS.f k l) l := by
  unfold laws_toByteS.f
  refine Ev.pos (by omega) (Ev.pos (by omega) ?_)
  have := copy_loop (fun k out i => laws_toByteS.l0 k l out i) l id (fun out i r h ho hr => ?_) (fun out ho => ?_) (List.replicate ((l.length : Int)).toNat 0) (by simp)
  · simpa using this
  · refine Ev.step (fun k => by rw [laws_toByteS.l0]) ?_
    refine Ev.pos (by omega) (Ev.pos (by omega) (Ev.pos (by omega) ?_))
    rw [wrap64_id (by omega) (by omega), rd_eq (by simpa using h)]
    simpa using hr
  · exact Ev.step (fun k => by rw [laws_toByteS.l0]) (by exact Ev.neg (by omega) (Ev.now _))
theorem eqByteS_ev (l : List Int) (hl : l.length ≤ 9223372036854775806) : Ev (fun k => laws_eqByteS.f k l l) true := by
  unfold laws_eqByteS.f
  refine Ev.pos rfl ?_
  refine same_loop (fun k i => laws_eqByteS.l0 k l l i) l.length (fun i r h hr => ?_) ?_
  · refine Ev.step (fun k => by rw [laws_eqByteS.l0]) ?_
    refine Ev.pos (by omega) (Ev.pos (by omega) (Ev.pos (by omega) (Ev.pos rfl ?_)))
    rw [wrap64_id (by omega) (by omega)]
    simpa using hr
  · exact Ev.step (fun k => by rw [laws_eqByteS.l0]) (by exact Ev.neg (by omega) (Ev.now _))
theorem eqIntS_ev (l : List Int) (hl : l.length ≤ 9223372036854775806) : Ev (fun k => laws_eqIntS.f k l l) true := by
  unfold laws_eqIntS.f
  refine Ev.pos rfl ?_
  refine same_loop (fun k i => laws_eqIntS.l0 k l l i) l.length (fun i r h hr => ?_) ?_
  · refine Ev.step (fun k => by rw [laws_eqIntS.l0]) ?_
    refine Ev.pos (by omega) (Ev.pos (by omega) (Ev.pos (by omega) (Ev.pos rfl ?_)))
    rw [wrap64_id (by omega) (by omega)]
    simpa using hr
  · exact Ev.step (fun k => by rw [laws_eqIntS.l0]) (by exact Ev.neg (by omega) (Ev.now _))
theorem markIntS_ev (l : List Int) (c : Int) (hc : 0 ≤ c) (hl : c + l.length ≤ 9223372036854775806) : ∃ m ys, m = c + l.length ∧ Ev (fun k => laws_markIntS.f k l c) (m, ys) ∧ Ev (fun k => laws_heldIntS.f k ys c) m := by
  obtain ⟨m, ys, _, hm, h1, h2⟩ := marks_held 1 9223372036854775807 (by omega) (fun c (_ : Int) => c) (fun k xs c i => laws_markIntS.l0 k xs c i) (fun k xs c i => laws_heldIntS.l0 k xs c i)
    (fun xs c i r h hb h0 hB hr => by
      refine Ev.step (fun k => by rw [laws_markIntS.l0]) ?_
      refine Ev.pos (by omega) (Ev.pos (by omega) ?_)
      rw [wrap64_id (x := c + 1) (by omega) (by omega), wrap64_id (x := (i : Int) + 1) (by omega) (by omega)]
      simpa using hr)
    (fun xs c => Ev.step (fun k => by rw [laws_markIntS.l0]) (by exact Ev.neg (by omega) (Ev.now _)))
    (fun xs c i r z h hb h0 hB hz hr => by
      refine Ev.step (fun k => by rw [laws_heldIntS.l0]) ?_
      refine Ev.pos (by omega) (Ev.pos (by omega) (Ev.pos (by rw [rd_eq (by simpa using h)]; simpa using hz) ?_))
      rw [wrap64_id (x := c + 1) (by omega) (by omega), wrap64_id (x := (i : Int) + 1) (by omega) (by omega)]
      simpa using hr)
    (fun xs c => Ev.step (fun k => by rw [laws_heldIntS.l0]) (by exact Ev.neg (by omega) (Ev.now _)))
    l c hc (by omega)
  exact ⟨m, ys, by omega, h1, h2⟩
theorem markByteS_evm (l : List Int) (c : Int) (hc : 0 ≤ c) (hl : c + l.length ≤ 9223372036854775806) : ∃ m ys, m = c + l.length ∧ Ev (fun k => laws_markByteS.f k l c) (m, ys) ∧ True := by
  have key : ∀ (d i : Nat) (xs : List Int) (c : Int), 0 ≤ c → i + d = xs.length → c + d ≤ 9223372036854775806 → xs.length ≤ 9223372036854775806 → ∃ ys, Ev (fun k => laws_markByteS.l0 k xs c (i : Int)) (c + d, ys) := by
    intro d
    induction d with
    | zero => intro i xs c h0 hi hc hx; exact ⟨xs, Ev.cast (Ev.step (fun k => by rw [laws_markByteS.l0]) (by exact Ev.neg (by omega) (Ev.now _))) (by simp)⟩
    | succ d ih =>
      intro i xs c h0 hi hc hx
      obtain ⟨ys, hy⟩ := ih (i + 1) (xs.set i (c % 256)) (c + 1) (by omega) (by simp; omega) (by omega) (by simpa using hx)
      refine ⟨ys, Ev.step (fun k => by rw [laws_markByteS.l0]) (Ev.pos (by omega) (Ev.pos (by omega) ?_))⟩
      rw [wrap64_id (x := c + 1) (by omega) (by omega), wrap64_id (x := (i : Int) + 1) (by omega) (by omega)]
      have e : c + 1 + (d : Int) = c + ((d + 1 : Nat) : Int) := by omega
      rw [e] at hy
      simpa using hy
  obtain ⟨ys, hy⟩ := key l.length 0 l c hc (by omega) hl (by omega)
  exact ⟨_, ys, rfl, hy, trivial⟩
theorem l1In_same (x lo hi : Int) : (if x ≥ lo then some (decide (x ≤ hi)) else some false) = some (decide (lo ≤ x ∧ x ≤ hi)) := by
  by_cases h : x ≥ lo
  · rw [if_pos h]; congr 1; simp; omega
  · rw [if_neg h]; congr 1; symm; simp; omega
theorem within_some (x lo hi : Int) : impl_within.f x lo hi = some (decide (lo ≤ x ∧ x ≤ hi)) := by unfold impl_within.f; exact l1In_same x lo hi
theorem l1In_some (x lo hi : Int) : spec_l1In.f x lo hi = some (decide (lo ≤ x ∧ x ≤ hi)) := by unfold spec_l1In.f; exact l1In_same x lo hi
theorem bv_ofInt_wrap (x : Int) : BitVec.ofInt 64 (wrap64 x) = BitVec.ofInt 64 x := by
  apply BitVec.eq_of_toNat_eq
  rw [BitVec.toNat_ofInt, BitVec.toNat_ofInt]
  congr 1
  unfold wrap64; omega
theorem or_wrap (a c : Nat) (ha : a < 2 ^ 64) (hc : c < 2 ^ 64) : Go.bits .or .i64 (wrap64 (a : Int)) (wrap64 (c : Int)) = wrap64 ((a ||| c : Nat) : Int) := by
  have e : Go.bits .or .i64 (wrap64 (a : Int)) (wrap64 (c : Int)) = IntKind.i64.wrap (((BitVec.ofInt 64 (wrap64 (a : Int)) ||| BitVec.ofInt 64 (wrap64 (c : Int))).toNat : Nat) : Int) := rfl
  rw [e, bv_ofInt_wrap, bv_ofInt_wrap, BitVec.ofInt_natCast, BitVec.ofInt_natCast, BitVec.toNat_or, BitVec.toNat_ofNat, BitVec.toNat_ofNat, Nat.mod_eq_of_lt ha, Nat.mod_eq_of_lt hc, IntKind.wrap_i64]
  unfold wrap64; omega
theorem or_digit (m a d : Nat) (ha : a < 2 ^ m) : a ||| d * 2 ^ m = a + d * 2 ^ m := by
  have := Nat.shiftLeft_add_eq_or_of_lt ha d
  rw [Nat.shiftLeft_eq] at this
  rw [Nat.or_comm, ← this, Nat.add_comm]
theorem emod_digit (x p : Int) (hp : 0 < p) : x % (p * 256) = x % p + (x / p) % 256 * p := by
  have h1 := Int.mul_ediv_add_emod x p
  have h2 := Int.mul_ediv_add_emod (x / p) 256
  have a0 := Int.emod_nonneg x (show p ≠ 0 by omega)
  have a1 := Int.emod_lt_of_pos x hp
  have b0 := Int.emod_nonneg (x / p) (show (256 : Int) ≠ 0 by omega)
  have b1 := Int.emod_lt_of_pos (x / p) (show (0 : Int) < 256 by omega)
  have e : x = (x % p + (x / p) % 256 * p) + (p * 256) * (x / p / 256) := by
    have e3 : p * (x / p) = p * (256 * (x / p / 256) + x / p % 256) := by rw [h2]
    rw [Int.mul_add] at e3
    have e4 : p * (256 * (x / p / 256)) = (p * 256) * (x / p / 256) := by rw [Int.mul_assoc]
    have e5 : p * (x / p % 256) = x / p % 256 * p := Int.mul_comm _ _
    omega
  have m0 : 0 ≤ (x / p) % 256 * p := Int.mul_nonneg b0 (by omega)
  have m1 : (x / p) % 256 * p ≤ 255 * p := Int.mul_le_mul_of_nonneg_right (by omega) (by omega)
  generalize hr : x % p + (x / p) % 256 * p = r at *
  conv => lhs; rw [e]
  rw [Int.add_mul_emod_self_left, Int.emod_eq_of_lt (by omega) (by omega)]
theorem bits_and_mask (x m : Int) (k : Nat) (hk : k ≤ 63) (hm : m = 2 ^ k - 1) : Go.bits .and .i64 x m = x % 2 ^ k := by
  have p0 : (0 : Int) < 2 ^ k := Int.pow_pos (by omega)
  have eP : (2 : Int) ^ k = ((2 ^ k : Nat) : Int) := by push_cast; rfl
  have h63 : 2 ^ k ≤ 2 ^ 63 := Nat.pow_le_pow_right (by omega) hk
  have n0 : 0 < 2 ^ k := Nat.pow_pos (by omega)
  have e : Go.bits .and .i64 x m = IntKind.i64.wrap ((((BitVec.ofInt 64 x) &&& (BitVec.ofInt 64 m)).toNat : Nat) : Int) := rfl
  rw [e, BitVec.toNat_and, BitVec.toNat_ofInt, BitVec.toNat_ofInt]
  have em : (m % ((2 ^ 64 : Nat) : Int)).toNat = 2 ^ k - 1 := by
    rw [hm, eP, Int.emod_eq_of_lt (by omega) (by omega)]; omega
  rw [em, Nat.and_two_pow_sub_one_eq_mod]
  have hlt : (x % ((2 ^ 64 : Nat) : Int)).toNat % 2 ^ k < 2 ^ k := Nat.mod_lt _ n0
  rw [wraps_i64 _ (by omega) (by omega), eP, Int.natCast_emod]
  rw [Int.toNat_of_nonneg (Int.emod_nonneg _ (by omega))]
  apply Int.emod_emod_of_dvd
  refine Int.natCast_dvd_natCast.2 (Nat.pow_dvd_pow 2 (by omega))
theorem u64_id {x : Int} (h0 : 0 ≤ x) (h1 : x < 18446744073709551616) : IntKind.u64.wrap x = x := by rw [IntKind.wrap_u64]; omega
theorem bits_and_mask_u (x m : Int) (k : Nat) (hk : k ≤ 63) (hm : m = 2 ^ k - 1) : Go.bits .and .u64 x m = x % 2 ^ k := by
  have p0 : (0 : Int) < 2 ^ k := Int.pow_pos (by omega)
  have eP : (2 : Int) ^ k = ((2 ^ k : Nat) : Int) := by push_cast; rfl
  have h63 : 2 ^ k ≤ 2 ^ 63 := Nat.pow_le_pow_right (by omega) hk
  have n0 : 0 < 2 ^ k := Nat.pow_pos (by omega)
  have e : Go.bits .and .u64 x m = IntKind.u64.wrap ((((BitVec.ofInt 64 x) &&& (BitVec.ofInt 64 m)).toNat : Nat) : Int) := rfl
  rw [e, BitVec.toNat_and, BitVec.toNat_ofInt, BitVec.toNat_ofInt]
  have em : (m % ((2 ^ 64 : Nat) : Int)).toNat = 2 ^ k - 1 := by
    rw [hm, eP, Int.emod_eq_of_lt (by omega) (by omega)]; omega
  rw [em, Nat.and_two_pow_sub_one_eq_mod]
  have hlt : (x % ((2 ^ 64 : Nat) : Int)).toNat % 2 ^ k < 2 ^ k := Nat.mod_lt _ n0
  rw [u64_id (by omega) (by omega), eP, Int.natCast_emod]
  rw [Int.toNat_of_nonneg (Int.emod_nonneg _ (by omega))]
  apply Int.emod_emod_of_dvd
  refine Int.natCast_dvd_natCast.2 (Nat.pow_dvd_pow 2 (by omega))
theorem and_u8_127 (c : Int) (h0 : 0 ≤ c) (h1 : c ≤ 255) : Go.bits .and .u8 c 127 = c % 128 := by
  obtain ⟨n, rfl⟩ := Int.eq_ofNat_of_zero_le h0
  have hn : n < 2 ^ 8 := by omega
  have e := (bits_nat .u8 8 (by decide) (fun m h0 h1 => wraps_u8 m h0 h1) n 127 hn (by decide)).1
  have e2 : n &&& 127 = n % 128 := Nat.and_two_pow_sub_one_eq_mod n 7
  have e3 : Go.bits .and .u8 (n : Int) 127 = ((n &&& 127 : Nat) : Int) := e
  rw [e3, e2]; push_cast; rfl
theorem shl_i64_nat (d j : Nat) (hj : j ≤ 64) : shl .i64 (d : Int) (j : Int) = wrap64 ((d * 2 ^ j : Nat) : Int) := by
  unfold shl
  have e2 : min ((j : Int)).toNat IntKind.i64.bits = j := by
    have : IntKind.i64.bits = 64 := rfl
    omega
  rw [e2, IntKind.wrap_i64]
  push_cast
  unfold wrap64; rfl
theorem shl_u64_nat (d j : Nat) (hj : j ≤ 64) (h : d * 2 ^ j < 2 ^ 64) : shl .u64 (d : Int) (j : Int) = ((d * 2 ^ j : Nat) : Int) := by
  unfold shl
  have e2 : min ((j : Int)).toNat IntKind.u64.bits = j := by
    have : IntKind.u64.bits = 64 := rfl
    omega
  have e3 : ((d : Int) * 2 ^ j) = ((d * 2 ^ j : Nat) : Int) := by push_cast; rfl
  rw [e2, e3, u64_id (by omega) (by omega)]
theorem or_u64_nat (a c : Nat) (ha : a < 2 ^ 64) (hc : c < 2 ^ 64) : Go.bits .or .u64 (a : Int) (c : Int) = ((a ||| c : Nat) : Int) :=
  (bits_nat .u64 64 (by decide) (fun m h0 h1 => u64_id h0 (by simpa using h1)) a c ha hc).2
/-- What a varint that is read comes to: a number, the place behind it, whether there is one. -/
def UG (b : List Int) (at_ : Int) (r : Int × Int × Bool) : Prop := (-9223372036854775808 ≤ r.1 ∧ r.1 ≤ 9223372036854775807) ∧ (r.2.2 = true → at_ < r.2.1 ∧ r.2.1 ≤ b.length) ∧ (r.2.2 = false → r = (0, 0, false))
theorem UG_bad (b : List Int) (at_ : Int) : UG b at_ (0, 0, false) := ⟨by simp, by simp, fun _ => rfl⟩
/-- The seven bits of a byte, put into their place: both sides. -/
theorem uv_step (k X : Nat) (hk : k ≤ 9) (hX : X < 2 ^ (7 * k)) (d : Int) (h0 : 0 ≤ d) (h1 : d ≤ 255) (hc : k ≤ 8 ∨ d ≤ 1) :
    Go.bits .or .i64 (wrap64 (X : Int)) (shl .i64 (Go.bits .and .i64 d 127) (wrap64 (7 * (k : Int)))) = wrap64 ((X + (d % 128).toNat * 2 ^ (7 * k) : Nat) : Int) ∧
    Go.bits .or .u64 (X : Int) (shl .u64 (IntKind.u64.wrap (Go.bits .and .u8 d 127)) (wrap64 (7 * (k : Int)))) = ((X + (d % 128).toNat * 2 ^ (7 * k) : Nat) : Int) := by
  have hD : d % 128 = (((d % 128).toNat : Nat) : Int) := by omega
  have hD1 : (d % 128).toNat < 128 := by omega
  have hD2 : d ≤ 1 → (d % 128).toNat ≤ 1 := by omega
  have w : wrap64 (7 * (k : Int)) = ((7 * k : Nat) : Int) := by rw [wrap64_id (by omega) (by omega)]; push_cast; rfl
  have e1 : Go.bits .and .i64 d 127 = d % 128 := bits_and_mask d 127 7 (by omega) rfl
  have e2 := and_u8_127 d h0 h1
  rw [w, e1, e2, hD]
  generalize (d % 128).toNat = D at hD1 hD2
  have hj : 7 * k ≤ 63 := by omega
  have h63 : 2 ^ (7 * k) ≤ 2 ^ 63 := Nat.pow_le_pow_right (by omega) hj
  have h56 : k ≤ 8 → 2 ^ (7 * k) ≤ 2 ^ 56 := fun h => Nat.pow_le_pow_right (by omega) (by omega)
  generalize hJ : 7 * k = J at *
  have hS : D * 2 ^ J < 2 ^ 64 := by
    rcases hc with h | h
    · have := h56 h
      have : D * 2 ^ J ≤ 127 * 2 ^ 56 := Nat.mul_le_mul (by omega) this
      omega
    · have : D * 2 ^ J ≤ 1 * 2 ^ J := Nat.mul_le_mul_right _ (hD2 h)
      omega
  have hX2 : X < 2 ^ 64 := by omega
  have eOr : X ||| D * 2 ^ J = X + D * 2 ^ J := or_digit J X D hX
  constructor
  · rw [shl_i64_nat D J (by omega), or_wrap X (D * 2 ^ J) hX2 hS, eOr, Int.toNat_natCast]
  · rw [u64_id (by omega) (by omega), shl_u64_nat D J (by omega) hS, or_u64_nat X (D * 2 ^ J) hX2 hS, eOr, Int.toNat_natCast]
theorem uv_spec (b : List Int) (hl : b.length ≤ 1048576) (at_ x d : Int) (k : Nat) (hk : k ≤ 9) (a0 : 0 ≤ at_) (hin : at_ + k < b.length) (hd : rd b (at_ + (k : Int)) = d) (h0 : 0 ≤ d) (h1 : d ≤ 255) (r : Int × Int × Bool)
    (h : Ev (fun n => if d < 128 then (if (k : Int) = 9 then (if d > 1 then (some ((0 : Int), (0 : Int), false)) else (some (Go.bits .or .i64 x (shl .i64 (Go.bits .and .i64 d 127) (wrap64 (7 * (k : Int)))), at_ + k + 1, true))) else (some (Go.bits .or .i64 x (shl .i64 (Go.bits .and .i64 d 127) (wrap64 (7 * (k : Int)))), at_ + k + 1, true))) else (spec_UvarGet.l0 n b at_ (Go.bits .or .i64 x (shl .i64 (Go.bits .and .i64 d 127) (wrap64 (7 * (k : Int))))) ((k + 1 : Nat) : Int))) r) :
    Ev (fun n => spec_UvarGet.l0 n b at_ x (k : Int)) r := by
  have w1 : wrap64 (at_ + (k : Int)) = at_ + k := wrap64_id (by omega) (by omega)
  have w2 : wrap64 (at_ + (k : Int) + 1) = at_ + k + 1 := wrap64_id (by omega) (by omega)
  have w3 : wrap64 d = d := wrap64_id (by omega) (by omega)
  have w4 : wrap64 ((k : Int) + 1) = ((k + 1 : Nat) : Int) := by rw [wrap64_id (by omega) (by omega)]; push_cast; rfl
  have w5 : 0 ≤ wrap64 (7 * (k : Int)) := by rw [wrap64_id (by omega) (by omega)]; omega
  refine Ev.step (fun k => by rw [spec_UvarGet.l0]) ?_
  refine Ev.pos (by omega) ?_
  refine Ev.step (fun k => by rw [spec_UvarGet.j2]) ?_
  rw [w1, hd, w3, w2, w4]
  exact Ev.pos (decide_eq_true hin) (Ev.pos (by omega) (Ev.pos hin (Ev.pos w5 h)))
theorem uv_impl (b : List Int) (hl : b.length ≤ 1048576) (at_ x d : Int) (k : Nat) (hk : k ≤ 9) (a0 : 0 ≤ at_) (hin : at_ + k < b.length) (hd : rd b (at_ + (k : Int)) = d) (r : Int × Int × Bool) (bb : Bool) (hbb : bb = decide ((k : Int) = 9 ∧ d > 1))
    (h : Ev (fun n => if bb = true then (some ((0 : Int), (0 : Int), false)) else (if d < 128 then (some (wrap64 (Go.bits .or .u64 x (shl .u64 (IntKind.u64.wrap (Go.bits .and .u8 d 127)) (wrap64 (7 * (k : Int))))), at_ + k + 1, true)) else (impl_UvarGet.l0 n b at_ (Go.bits .or .u64 x (shl .u64 (IntKind.u64.wrap (Go.bits .and .u8 d 127)) (wrap64 (7 * (k : Int))))) ((k + 1 : Nat) : Int)))) r) :
    Ev (fun n => impl_UvarGet.l0 n b at_ x (k : Int)) r := by
  have w1 : wrap64 (at_ + (k : Int)) = at_ + k := wrap64_id (by omega) (by omega)
  have w2 : wrap64 (at_ + (k : Int) + 1) = at_ + k + 1 := wrap64_id (by omega) (by omega)
  have w4 : wrap64 ((k : Int) + 1) = ((k + 1 : Nat) : Int) := by rw [wrap64_id (by omega) (by omega)]; push_cast; rfl
  have w5 : 0 ≤ wrap64 (7 * (k : Int)) := by rw [wrap64_id (by omega) (by omega)]; omega
  have w6 : wrap64 ((b.length : Int) - at_) = b.length - at_ := wrap64_id (by omega) (by omega)
  have hj2 : Ev (fun n => impl_UvarGet.j2 n b at_ x (k : Int) d bb) r := by
    refine Ev.step (fun k => by rw [impl_UvarGet.j2]) ?_
    rw [w1, w2, w4]
    cases bb with
    | true => exact Ev.congr (fun n => by rw [if_pos (show true = true from rfl), if_pos (show true = true from rfl)]) h
    | false => exact Ev.congr (fun n => by rw [if_neg (show ¬ (false = true) by decide), if_neg (show ¬ (false = true) by decide), if_pos w5]) h
  refine Ev.step (fun k => by rw [impl_UvarGet.l0]) ?_
  refine Ev.pos (by omega) ?_
  refine Ev.step (fun k => by rw [impl_UvarGet.j1]) ?_
  rw [w1, hd, w6]
  refine Ev.pos (decide_eq_true (by omega)) (Ev.pos (by omega) (Ev.pos hin ?_))
  by_cases h9 : (k : Int) = 9
  · refine Ev.pos h9 ?_
    have : decide (d > 1) = bb := by rw [hbb]; simp [h9]
    rw [this]; exact hj2
  · refine Ev.neg h9 ?_
    have : false = bb := by rw [hbb]; simp [h9]
    rw [this]; exact hj2
theorem uvarGet_loop (b : List Int) (hb : ∀ x ∈ b, 0 ≤ x ∧ x ≤ 255) (hl : b.length ≤ 1048576) (at_ : Int) (a0 : 0 ≤ at_) (a1 : at_ ≤ b.length) : ∀ (m k X : Nat), k + m = 10 → (k ≤ 9 → X < 2 ^ (7 * k)) →
    ∃ r, Ev (fun n => spec_UvarGet.l0 n b at_ (wrap64 (X : Int)) (k : Int)) r ∧ (k ≤ 9 → Ev (fun n => impl_UvarGet.l0 n b at_ (X : Int) (k : Int)) r) ∧ UG b at_ r := by
  have last : ∀ x : Int, Ev (fun n => spec_UvarGet.l0 n b at_ x ((10 : Nat) : Int)) ((0, 0, false) : Int × Int × Bool) := fun x => by
    refine Ev.step (fun k => by rw [spec_UvarGet.l0]) ?_
    refine Ev.neg (by omega) ?_
    exact Ev.step (fun k => by rw [spec_UvarGet.j2]) (by exact Ev.neg (by decide) (Ev.now _))
  intro m
  induction m with
  | zero =>
    intro k X hk _
    obtain rfl : k = 10 := by omega
    exact ⟨(0, 0, false), last _, by omega, UG_bad _ _⟩
  | succ m ih =>
    intro k X hk hX
    have hk9 : k ≤ 9 := by omega
    have hX' := hX hk9
    by_cases hin : at_ + k < b.length
    · have er : rd b (at_ + (k : Int)) = b[(at_ + (k : Int)).toNat]'(by omega) := rd_eq (by omega)
      have hby := hb _ (List.getElem_mem (show (at_ + (k : Int)).toNat < b.length by omega))
      rw [← er] at hby
      generalize hd : rd b (at_ + (k : Int)) = d at hby
      clear er hX
      by_cases hbad : (k : Int) = 9 ∧ d > 1
      · refine ⟨(0, 0, false), uv_spec b hl at_ _ d k hk9 a0 hin hd hby.1 hby.2 _ ?_, fun _ => uv_impl b hl at_ _ d k hk9 a0 hin hd _ true (decide_eq_true hbad).symm (Ev.pos rfl (Ev.now _)), UG_bad _ _⟩
        by_cases h128 : d < 128
        · exact Ev.pos h128 (Ev.pos hbad.1 (Ev.pos hbad.2 (Ev.now _)))
        · obtain rfl : k = 9 := by omega
          exact Ev.neg h128 (last _)
      · have hc : k ≤ 8 ∨ d ≤ 1 := by omega
        obtain ⟨eI, eU⟩ := uv_step k X hk9 hX' d hby.1 hby.2 hc
        by_cases h128 : d < 128
        · refine ⟨(wrap64 ((X + (d % 128).toNat * 2 ^ (7 * k) : Nat) : Int), at_ + k + 1, true), uv_spec b hl at_ _ d k hk9 a0 hin hd hby.1 hby.2 _ ?_, fun _ => uv_impl b hl at_ _ d k hk9 a0 hin hd _ false (decide_eq_false hbad).symm ?_, ⟨⟨wrap64_lo _, wrap64_hi _⟩, fun _ => ⟨?_, ?_⟩, fun h => absurd h (by simp)⟩⟩
          · rw [eI]
            refine Ev.pos h128 ?_
            by_cases h9 : (k : Int) = 9
            · exact Ev.pos h9 (Ev.neg (fun h => hbad ⟨h9, h⟩) (Ev.now _))
            · exact Ev.neg h9 (Ev.now _)
          · rw [eU]
            exact Ev.neg (by decide) (Ev.pos h128 (Ev.now _))
          · dsimp only; clear eI eU hX'; omega
          · dsimp only; clear eI eU hX'; omega
        · have hk8 : k ≤ 8 := by clear eI eU hX'; omega
          have hnext : X + (d % 128).toNat * 2 ^ (7 * k) < 2 ^ (7 * (k + 1)) := by
            have e7 : 2 ^ (7 * (k + 1)) = 2 ^ (7 * k) * 128 := by rw [Nat.mul_add, Nat.pow_add]
            have hD1 : (d % 128).toNat ≤ 127 := by clear eI eU hX' e7; omega
            have hm : (d % 128).toNat * 2 ^ (7 * k) ≤ 127 * 2 ^ (7 * k) := Nat.mul_le_mul_right _ hD1
            clear eI eU ih last
            rw [e7]
            generalize 2 ^ (7 * k) = P at *
            omega
          obtain ⟨r, r1, r2, r3⟩ := ih (k + 1) (X + (d % 128).toNat * 2 ^ (7 * k)) (by omega) (fun _ => hnext)
          refine ⟨r, uv_spec b hl at_ _ d k hk9 a0 hin hd hby.1 hby.2 _ ?_, fun _ => uv_impl b hl at_ _ d k hk9 a0 hin hd _ false (decide_eq_false hbad).symm ?_, r3⟩
          · rw [eI]; exact Ev.neg h128 r1
          · rw [eU]; exact Ev.neg (by decide) (Ev.neg h128 (r2 (by omega)))
    · refine ⟨(0, 0, false), ?_, fun _ => ?_, UG_bad _ _⟩
      · refine Ev.step (fun k => by rw [spec_UvarGet.l0]) ?_
        refine Ev.pos (by omega) ?_
        refine Ev.step (fun k => by rw [spec_UvarGet.j2]) ?_
        rw [wrap64_id (x := at_ + (k : Int)) (by omega) (by omega)]
        exact Ev.neg (by simp; omega) (Ev.now _)
      · refine Ev.step (fun k => by rw [impl_UvarGet.l0]) ?_
        refine Ev.pos (by omega) ?_
        refine Ev.step (fun k => by rw [impl_UvarGet.j1]) ?_
        rw [wrap64_id (x := (b.length : Int) - at_) (by omega) (by omega)]
        exact Ev.neg (by simp; omega) (Ev.now _)
theorem UvarGet_both (b : List Int) (hb : ∀ x ∈ b, 0 ≤ x ∧ x ≤ 255) (hl : b.length ≤ 1048576) (at_ : Int) (i0 : -9223372036854775808 ≤ at_) (i1 : at_ ≤ 9223372036854775807) :
    ∃ r, Ev (fun n => spec_UvarGet.f n b at_) r ∧ Ev (fun n => impl_UvarGet.f n b at_) r ∧ UG b at_ r := by
  unfold spec_UvarGet.f impl_UvarGet.f
  have bad : Ev (fun n => spec_UvarGet.j0 n b at_ true) ((0, 0, false) : Int × Int × Bool) := Ev.step (fun k => by rw [spec_UvarGet.j0]) (by exact Ev.pos rfl (Ev.now _))
  by_cases h0 : at_ < 0
  · exact ⟨(0, 0, false), Ev.pos h0 bad, Ev.pos h0 (Ev.now _), UG_bad _ _⟩
  by_cases h1 : at_ ≥ (b.length : Int)
  · refine ⟨(0, 0, false), Ev.neg h0 ?_, Ev.neg h0 ?_, UG_bad _ _⟩
    · rw [decide_eq_true h1]; exact bad
    · refine Ev.step (fun k => by rw [impl_UvarGet.l0]) ?_
      refine Ev.pos (by omega) ?_
      refine Ev.step (fun k => by rw [impl_UvarGet.j1]) ?_
      have : decide (0 < wrap64 ((b.length : Int) - at_)) = false := by
        apply decide_eq_false
        rw [wrap64_id (by omega) (by omega)]; omega
      rw [this]
      exact Ev.neg (by decide) (Ev.now _)
  · obtain ⟨r, r1, r2, r3⟩ := uvarGet_loop b hb hl at_ (by omega) (by omega) 10 0 0 (by omega) (by simp)
    refine ⟨r, Ev.neg h0 ?_, Ev.neg h0 (by simpa using r2 (by omega)), r3⟩
    rw [decide_eq_false h1]
    refine Ev.step (fun k => by rw [spec_UvarGet.j0]) ?_
    refine Ev.neg (by decide) ?_
    have e : wrap64 ((0 : Nat) : Int) = 0 := by unfold wrap64; omega
    rw [e] at r1
    exact r1
/-- How many bits a number has, told in at most f rounds. -/
def blF : Nat → Nat → Nat
  | 0, _ => 0
  | f + 1, n => if n = 0 then 0 else blF f (n / 2) + 1
theorem blF_le : ∀ (f n : Nat), blF f n ≤ f
  | 0, _ => Nat.le_refl _
  | f + 1, n => by
    unfold blF
    have := blF_le f (n / 2)
    split <;> omega
theorem blF_more : ∀ (f n : Nat), n < 2 ^ f → ∀ g, blF (f + g) n = blF f n
  | 0, n, h, g => by
    obtain rfl : n = 0 := by simpa using h
    cases g with
    | zero => rfl
    | succ g => rw [Nat.zero_add]; unfold blF; rw [if_pos rfl]
  | f + 1, n, h, g => by
    rw [show f + 1 + g = (f + g) + 1 by omega]
    unfold blF
    rw [blF_more f (n / 2) (by rw [Nat.pow_succ] at h; omega) g]
theorem blF_shift : ∀ (k f n : Nat), 0 < n / 2 ^ k → blF (f + k) n = k + blF f (n / 2 ^ k)
  | 0, f, n, h => by simp
  | k + 1, f, n, h => by
    rw [show f + (k + 1) = (f + k) + 1 by omega]
    have hn : n ≠ 0 := by
      intro e; rw [e] at h; simp at h
    have hd : n / 2 / 2 ^ k = n / 2 ^ (k + 1) := by rw [Nat.div_div_eq_div_mul, Nat.pow_succ, Nat.mul_comm]
    rw [show blF (f + k + 1) n = blF (f + k) (n / 2) + 1 from by rw [blF, if_neg hn], blF_shift k f (n / 2) (by rw [hd]; exact h), hd]
    omega
theorem tab_at (v : Int) (h0 : 0 ≤ v) (h1 : v < 256) : bt (⟨#[0, 1, 2, 2, 3, 3, 3, 3, 4, 4, 4, 4, 4, 4, 4, 4, 5, 5, 5, 5, 5, 5, 5, 5, 5, 5, 5, 5, 5, 5, 5, 5, 6, 6, 6, 6, 6, 6, 6, 6, 6, 6, 6, 6, 6, 6, 6, 6, 6, 6, 6, 6, 6, 6, 6, 6, 6, 6, 6, 6, 6, 6, 6, 6, 7, 7, 7, 7, 7, 7, 7, 7, 7, 7, 7, 7, 7, 7, 7, 7, 7, 7, 7, 7, 7, 7, 7, 7, 7, 7, 7, 7, 7, 7, 7, 7, 7, 7, 7, 7, 7, 7, 7, 7, 7, 7, 7, 7, 7, 7, 7, 7, 7, 7, 7, 7, 7, 7, 7, 7, 7, 7, 7, 7, 7, 7, 7, 7, 8, 8, 8, 8, 8, 8, 8, 8, 8, 8, 8, 8, 8, 8, 8, 8, 8, 8, 8, 8, 8, 8, 8, 8, 8, 8, 8, 8, 8, 8, 8, 8, 8, 8, 8, 8, 8, 8, 8, 8, 8, 8, 8, 8, 8, 8, 8, 8, 8, 8, 8, 8, 8, 8, 8, 8, 8, 8, 8, 8, 8, 8, 8, 8, 8, 8, 8, 8, 8, 8, 8, 8, 8, 8, 8, 8, 8, 8, 8, 8, 8, 8, 8, 8, 8, 8, 8, 8, 8, 8, 8, 8, 8, 8, 8, 8, 8, 8, 8, 8, 8, 8, 8, 8, 8, 8, 8, 8, 8, 8, 8, 8, 8, 8, 8, 8, 8, 8, 8, 8, 8, 8, 8, 8, 8, 8, 8, 8]⟩ : ByteArray) v = (blF 8 v.toNat : Int) := by
  have key : ∀ n : Fin 256, bt (⟨#[0, 1, 2, 2, 3, 3, 3, 3, 4, 4, 4, 4, 4, 4, 4, 4, 5, 5, 5, 5, 5, 5, 5, 5, 5, 5, 5, 5, 5, 5, 5, 5, 6, 6, 6, 6, 6, 6, 6, 6, 6, 6, 6, 6, 6, 6, 6, 6, 6, 6, 6, 6, 6, 6, 6, 6, 6, 6, 6, 6, 6, 6, 6, 6, 7, 7, 7, 7, 7, 7, 7, 7, 7, 7, 7, 7, 7, 7, 7, 7, 7, 7, 7, 7, 7, 7, 7, 7, 7, 7, 7, 7, 7, 7, 7, 7, 7, 7, 7, 7, 7, 7, 7, 7, 7, 7, 7, 7, 7, 7, 7, 7, 7, 7, 7, 7, 7, 7, 7, 7, 7, 7, 7, 7, 7, 7, 7, 7, 8, 8, 8, 8, 8, 8, 8, 8, 8, 8, 8, 8, 8, 8, 8, 8, 8, 8, 8, 8, 8, 8, 8, 8, 8, 8, 8, 8, 8, 8, 8, 8, 8, 8, 8, 8, 8, 8, 8, 8, 8, 8, 8, 8, 8, 8, 8, 8, 8, 8, 8, 8, 8, 8, 8, 8, 8, 8, 8, 8, 8, 8, 8, 8, 8, 8, 8, 8, 8, 8, 8, 8, 8, 8, 8, 8, 8, 8, 8, 8, 8, 8, 8, 8, 8, 8, 8, 8, 8, 8, 8, 8, 8, 8, 8, 8, 8, 8, 8, 8, 8, 8, 8, 8, 8, 8, 8, 8, 8, 8, 8, 8, 8, 8, 8, 8, 8, 8, 8, 8, 8, 8, 8, 8, 8, 8, 8, 8]⟩ : ByteArray) ((n.val : Nat) : Int) = (blF 8 n.val : Int) := by decide +kernel
  have h : bt (⟨#[0, 1, 2, 2, 3, 3, 3, 3, 4, 4, 4, 4, 4, 4, 4, 4, 5, 5, 5, 5, 5, 5, 5, 5, 5, 5, 5, 5, 5, 5, 5, 5, 6, 6, 6, 6, 6, 6, 6, 6, 6, 6, 6, 6, 6, 6, 6, 6, 6, 6, 6, 6, 6, 6, 6, 6, 6, 6, 6, 6, 6, 6, 6, 6, 7, 7, 7, 7, 7, 7, 7, 7, 7, 7, 7, 7, 7, 7, 7, 7, 7, 7, 7, 7, 7, 7, 7, 7, 7, 7, 7, 7, 7, 7, 7, 7, 7, 7, 7, 7, 7, 7, 7, 7, 7, 7, 7, 7, 7, 7, 7, 7, 7, 7, 7, 7, 7, 7, 7, 7, 7, 7, 7, 7, 7, 7, 7, 7, 8, 8, 8, 8, 8, 8, 8, 8, 8, 8, 8, 8, 8, 8, 8, 8, 8, 8, 8, 8, 8, 8, 8, 8, 8, 8, 8, 8, 8, 8, 8, 8, 8, 8, 8, 8, 8, 8, 8, 8, 8, 8, 8, 8, 8, 8, 8, 8, 8, 8, 8, 8, 8, 8, 8, 8, 8, 8, 8, 8, 8, 8, 8, 8, 8, 8, 8, 8, 8, 8, 8, 8, 8, 8, 8, 8, 8, 8, 8, 8, 8, 8, 8, 8, 8, 8, 8, 8, 8, 8, 8, 8, 8, 8, 8, 8, 8, 8, 8, 8, 8, 8, 8, 8, 8, 8, 8, 8, 8, 8, 8, 8, 8, 8, 8, 8, 8, 8, 8, 8, 8, 8, 8, 8, 8, 8, 8, 8]⟩ : ByteArray) ((v.toNat : Nat) : Int) = (blF 8 v.toNat : Int) := key ⟨v.toNat, by omega⟩
  rw [Int.toNat_of_nonneg h0] at h
  exact h
theorem len64_j0 (x p : Int) (h0 : 0 ≤ x) (h1 : x < 4294967296) (hp0 : 0 ≤ p) (hp1 : p ≤ 32) : Ev (fun k => bits_Len64.j0 k x p) (p + blF 32 x.toNat) := by
  refine Ev.step (fun k => by rw [bits_Len64.j0]) ?_
  by_cases h16 : x ≥ 65536
  · have e16 : blF 32 x.toNat = 16 + blF 16 (x.toNat / 2 ^ 16) := blF_shift 16 16 x.toNat (by omega)
    have q16 : x.toNat / 2 ^ 16 = (x / 65536).toNat := by omega
    refine Ev.pos h16 ?_
    by_cases h8 : x / 65536 ≥ 256
    · have e8 : blF 16 (x / 65536).toNat = 8 + blF 8 ((x / 65536).toNat / 2 ^ 8) := blF_shift 8 8 _ (by omega)
      have q8 : (x / 65536).toNat / 2 ^ 8 = (x / 65536 / 256 % 256).toNat := by omega
      refine Ev.pos h8 (Ev.pos (by omega) (Ev.pos (by omega) (Ev.const ?_)))
      rw [tab_at _ (by omega) (by omega), e16, q16, e8, q8]
      have := blF_le 8 (x / 65536 / 256 % 256).toNat
      rw [wrap64_id (x := p + 16) (by omega) (by omega), wrap64_id (x := p + 16 + 8) (by omega) (by omega), wrap64_id (x := ((blF 8 (x / 65536 / 256 % 256).toNat : Nat) : Int)) (by omega) (by omega), wrap64_id (by omega) (by omega)]
      congr 1; push_cast; omega
    · have e8 : blF 16 (x / 65536).toNat = blF 8 (x / 65536).toNat := blF_more 8 _ (by omega) 8
      have q8 : x / 65536 % 256 = x / 65536 := by omega
      refine Ev.neg h8 (Ev.pos (by omega) (Ev.pos (by omega) (Ev.const ?_)))
      rw [tab_at _ (by omega) (by omega), e16, q16, e8, q8]
      have := blF_le 8 (x / 65536).toNat
      rw [wrap64_id (x := p + 16) (by omega) (by omega), wrap64_id (x := ((blF 8 (x / 65536).toNat : Nat) : Int)) (by omega) (by omega), wrap64_id (by omega) (by omega)]
      congr 1; push_cast; omega
  · have e16 : blF 32 x.toNat = blF 16 x.toNat := blF_more 16 _ (by omega) 16
    refine Ev.neg h16 ?_
    by_cases h8 : x ≥ 256
    · have e8 : blF 16 x.toNat = 8 + blF 8 (x.toNat / 2 ^ 8) := blF_shift 8 8 _ (by omega)
      have q8 : x.toNat / 2 ^ 8 = (x / 256 % 256).toNat := by omega
      refine Ev.pos h8 (Ev.pos (by omega) (Ev.pos (by omega) (Ev.const ?_)))
      rw [tab_at _ (by omega) (by omega), e16, e8, q8]
      have := blF_le 8 (x / 256 % 256).toNat
      rw [wrap64_id (x := p + 8) (by omega) (by omega), wrap64_id (x := ((blF 8 (x / 256 % 256).toNat : Nat) : Int)) (by omega) (by omega), wrap64_id (by omega) (by omega)]
      congr 1; push_cast; omega
    · have e8 : blF 16 x.toNat = blF 8 x.toNat := blF_more 8 _ (by omega) 8
      have q8 : x % 256 = x := by omega
      refine Ev.neg h8 (Ev.pos (by omega) (Ev.pos (by omega) (Ev.const ?_)))
      rw [tab_at _ (by omega) (by omega), e16, e8, q8]
      have := blF_le 8 x.toNat
      rw [wrap64_id (x := ((blF 8 x.toNat : Nat) : Int)) (by omega) (by omega), wrap64_id (by omega) (by omega)]
/-- The width of a whole number, as one without a sign. -/
def widB (x : Int) : Int := (blF 64 (x % 18446744073709551616).toNat : Int)
theorem widB_range (x : Int) : 0 ≤ widB x ∧ widB x ≤ 64 := by
  unfold widB
  have := blF_le 64 (x % 18446744073709551616).toNat
  omega
theorem impl_widthOf_ev (x : Int) : Ev (fun k => impl_widthOf.f k x) (widB x) := by
  unfold impl_widthOf.f bits_Len64.f widB
  have e : IntKind.u64.wrap x = x % 18446744073709551616 := by rw [IntKind.wrap_u64]
  rw [e]
  generalize hX : x % 18446744073709551616 = X
  have h0 : 0 ≤ X := by omega
  have h1 : X < 18446744073709551616 := by omega
  have key : Ev (fun k => if X ≥ 4294967296 then (bits_Len64.j0 k (X / 4294967296) 32) else (bits_Len64.j0 k X 0)) (blF 64 X.toNat : Int) := by
    by_cases h : X ≥ 4294967296
    · refine Ev.pos h (Ev.cast (len64_j0 (X / 4294967296) 32 (by omega) (by omega) (by omega) (by omega)) ?_)
      have := blF_shift 32 32 X.toNat (by omega)
      have q : X.toNat / 2 ^ 32 = (X / 4294967296).toNat := by omega
      rw [this, q]; push_cast; omega
    · refine Ev.neg h (Ev.cast (len64_j0 X 0 h0 (by omega) (by omega) (by omega)) ?_)
      have := blF_more 32 X.toNat (by omega) 32
      rw [this]; omega
  exact Ev.bind key (Ev.now _)
def gstep (b : List Int) (at_ : Int) (k : Nat) (x : Int) : Int := Go.bits .or .i64 x (shl .i64 (wrap64 (rd b (wrap64 (at_ + (k : Int))))) (wrap64 (8 * (k : Int))))
def wordV (b : List Int) (at_ : Int) (n : Nat) : Int := (List.range n).foldl (fun x k => gstep b at_ k x) 0
theorem rd_byte (b : List Int) (hb : ∀ x ∈ b, 0 ≤ x ∧ x ≤ 255) (j : Int) : 0 ≤ rd b j ∧ rd b j ≤ 255 := by
  by_cases h : j.toNat < b.length
  · rw [rd_eq h]; exact hb _ (List.getElem_mem h)
  · unfold rd; rw [List.getD_eq_getElem?_getD, List.getElem?_eq_none (by omega)]; simp
theorem wordV_range (b : List Int) (hb : ∀ x ∈ b, 0 ≤ x ∧ x ≤ 255) (at_ : Int) : ∀ n : Nat, n ≤ 3 → 0 ≤ wordV b at_ n ∧ wordV b at_ n < 2 ^ (8 * n) := by
  intro n
  induction n with
  | zero => intro _; simp [wordV]
  | succ n ih =>
    intro hn
    obtain ⟨h0, h1⟩ := ih (by omega)
    have e : wordV b at_ (n + 1) = gstep b at_ n (wordV b at_ n) := by unfold wordV; rw [List.range_succ, List.foldl_append]; rfl
    rw [e]
    have hd := rd_byte b hb (wrap64 (at_ + (n : Int)))
    unfold gstep
    generalize rd b (wrap64 (at_ + (n : Int))) = d at hd
    obtain ⟨D, rfl⟩ := Int.eq_ofNat_of_zero_le hd.1
    have w : wrap64 (8 * (n : Int)) = ((8 * n : Nat) : Int) := by rw [wrap64_id (by omega) (by omega)]; push_cast; rfl
    rw [wrap64_id (x := (D : Int)) (by omega) (by omega), w, shl_i64_nat D (8 * n) (by omega)]
    have h2 : 2 ^ (8 * n) ≤ 2 ^ 16 := Nat.pow_le_pow_right (by omega) (by omega)
    have h3 : D * 2 ^ (8 * n) ≤ 255 * 2 ^ (8 * n) := Nat.mul_le_mul_right _ (by omega)
    have e8 : (2 : Int) ^ (8 * (n + 1)) = ((2 ^ (8 * n) * 256 : Nat) : Int) := by rw [Nat.mul_add, Int.pow_add, Int.natCast_mul, Int.natCast_pow]; rfl
    have e9 : (2 : Int) ^ (8 * n) = ((2 ^ (8 * n) : Nat) : Int) := by push_cast; rfl
    rw [wrap64_id (by omega) (by omega)]
    rw [e9] at h1
    have hp : 0 < 2 ^ (8 * n) := Nat.pow_pos (by omega)
    exact or_range (8 * (n + 1)) (by omega) h0 (by rw [e8]; omega) (by omega) (by rw [e8]; omega)
theorem WordGet_both (b : List Int) (hl : b.length ≤ 1048576) (at_ : Int) (i0 : -9223372036854775808 ≤ at_) (i1 : at_ ≤ 9223372036854775807) (n : Nat) (n1 : 1 ≤ n) (n8 : n ≤ 8) :
    Ev (fun k => spec_WordGet.f k b at_ (n : Int)) (if 0 ≤ at_ ∧ at_ + n ≤ b.length then (wordV b at_ n, at_ + n, true) else (0, 0, false)) ∧
    Ev (fun k => impl_WordGet.f k b at_ (n : Int)) (if 0 ≤ at_ ∧ at_ + n ≤ b.length then (wordV b at_ n, at_ + n, true) else (0, 0, false)) := by
  have bs : ∀ r, r = ((0, 0, false) : Int × Int × Bool) → Ev (fun k => spec_WordGet.j0 k b at_ (n : Int) true) r := fun r h => by rw [h]; exact Ev.step (fun k => by rw [spec_WordGet.j0]) (by exact Ev.pos rfl (Ev.now _))
  have bi : ∀ r, r = ((0, 0, false) : Int × Int × Bool) → Ev (fun k => impl_WordGet.j0 k b at_ (n : Int) true) r := fun r h => by rw [h]; exact Ev.step (fun k => by rw [impl_WordGet.j0]) (by exact Ev.pos rfl (Ev.now _))
  unfold spec_WordGet.f impl_WordGet.f
  have w8 : wrap64 ((b.length : Int) - n) = b.length - n := wrap64_id (by omega) (by omega)
  by_cases h : 0 ≤ at_ ∧ at_ + n ≤ b.length
  · rw [if_pos h]
    have w7 : wrap64 ((b.length : Int) - at_) = b.length - at_ := wrap64_id (by omega) (by omega)
    have w9 : wrap64 (at_ + (n : Int)) = at_ + n := wrap64_id (by omega) (by omega)
    constructor
    · refine Ev.here (l1In_some _ _ _) (Ev.pos (by simp; omega) (Ev.neg (by omega) (Ev.neg (by omega) ?_)))
      have : decide (wrap64 ((b.length : Int) - at_) < (n : Int)) = false := by rw [w7]; simp; omega
      rw [this]
      refine Ev.step (fun k => by rw [spec_WordGet.j0]) ?_
      refine Ev.neg (by decide) ?_
      refine loop_cps (fun k x i => spec_WordGet.l0 k b at_ (n : Int) x i) (fun k x => gstep b at_ k x) n _ (fun i x hi hr => ?_) 0 ?_
      · refine Ev.step (fun k => by rw [spec_WordGet.l0]) ?_
        have e : ((i + 1 : Nat) : Int) = (i : Int) + 1 := by push_cast; rfl
        rw [e] at hr
        rw [wrap64_id (x := (i : Int) + 1) (by omega) (by omega)]
        exact Ev.pos (by omega) (Ev.pos (by rw [wrap64_id (by omega) (by omega)]; omega) (Ev.pos (by rw [wrap64_id (by omega) (by omega)]; omega) (Ev.pos (by rw [wrap64_id (by omega) (by omega)]; omega) hr)))
      · refine Ev.step (fun k => by rw [spec_WordGet.l0]) ?_
        rw [w9]
        exact Ev.neg (by omega) (Ev.now _)
    · refine Ev.here (within_some _ _ _) (Ev.pos (by simp; omega) (Ev.neg (by omega) ?_))
      have : decide (at_ > wrap64 ((b.length : Int) - (n : Int))) = false := by rw [w8]; simp; omega
      rw [this]
      refine Ev.step (fun k => by rw [impl_WordGet.j0]) ?_
      refine Ev.neg (by decide) ?_
      refine loop_cps (fun k x i => impl_WordGet.l0 k b at_ (n : Int) x (n : Int) i) (fun k x => gstep b at_ k x) n _ (fun i x hi hr => ?_) 0 ?_
      · refine Ev.step (fun k => by rw [impl_WordGet.l0]) ?_
        have e : ((i + 1 : Nat) : Int) = (i : Int) + 1 := by push_cast; rfl
        rw [e] at hr
        rw [wrap64_id (x := (i : Int) + 1) (by omega) (by omega)]
        exact Ev.pos (by omega) (Ev.pos (by rw [wrap64_id (by omega) (by omega)]; omega) (Ev.pos (by rw [wrap64_id (by omega) (by omega)]; omega) (Ev.pos (by rw [wrap64_id (by omega) (by omega)]; omega) hr)))
      · refine Ev.step (fun k => by rw [impl_WordGet.l0]) ?_
        rw [w9]
        exact Ev.neg (by omega) (Ev.now _)
  · rw [if_neg h]
    constructor
    · refine Ev.here (l1In_some _ _ _) (Ev.pos (by simp; omega) ?_)
      by_cases h1 : at_ < 0
      · exact Ev.pos h1 (bs _ rfl)
      · refine Ev.neg h1 ?_
        by_cases h2 : at_ > (b.length : Int)
        · exact Ev.pos h2 (bs _ rfl)
        · refine Ev.neg h2 ?_
          have : decide (wrap64 ((b.length : Int) - at_) < (n : Int)) = true := by rw [wrap64_id (by omega) (by omega)]; simp; omega
          rw [this]; exact bs _ rfl
    · refine Ev.here (within_some _ _ _) (Ev.pos (by simp; omega) ?_)
      by_cases h1 : at_ < 0
      · exact Ev.pos h1 (bi _ rfl)
      · refine Ev.neg h1 ?_
        have : decide (at_ > wrap64 ((b.length : Int) - (n : Int))) = true := by rw [w8]; simp; omega
        rw [this]; exact bi _ rfl
theorem blF_le_iff : ∀ (f N w : Nat), N < 2 ^ f → (blF f N ≤ w ↔ N < 2 ^ w)
  | 0, N, w, h => by
    obtain rfl : N = 0 := by simpa using h
    exact ⟨fun _ => Nat.pow_pos (by omega), fun _ => Nat.zero_le _⟩
  | f + 1, N, w, h => by
    unfold blF
    by_cases hN : N = 0
    · subst hN; rw [if_pos rfl]; exact ⟨fun _ => Nat.pow_pos (by omega), fun _ => Nat.zero_le _⟩
    · rw [if_neg hN]
      cases w with
      | zero => simp; omega
      | succ w =>
        have := blF_le_iff f (N / 2) w (by rw [Nat.pow_succ] at h; omega)
        rw [Nat.pow_succ]
        constructor
        · intro h1; have := this.1 (by omega); omega
        · intro h1; have := this.2 (by omega); omega
theorem wid_shr (y : Int) (h0 : 0 ≤ y) (h1 : y < 16777216) (w : Nat) (hw : w ≤ 24) : (widB y > (w : Int)) ↔ ¬ (shr .i64 y (w : Int) = 0) := by
  obtain ⟨N, rfl⟩ := Int.eq_ofNat_of_zero_le h0
  have e : ((N : Int) % 18446744073709551616).toNat = N := by omega
  have hi := blF_le_iff 64 N w (by omega)
  unfold widB shr
  rw [e]
  have e2 : min ((w : Int)).toNat IntKind.i64.bits = w := by
    have : IntKind.i64.bits = 64 := rfl
    omega
  rw [e2]
  have e3 : (N : Int) / 2 ^ w = ((N / 2 ^ w : Nat) : Int) := by push_cast; rfl
  rw [e3]
  have hp : 0 < 2 ^ w := Nat.pow_pos (by omega)
  constructor
  · intro h hz
    have hz' : N / 2 ^ w = 0 := by omega
    have := hi.2 ((Nat.div_eq_zero_iff_lt hp).1 hz')
    omega
  · intro h
    by_cases hle : blF 64 N ≤ w
    · exfalso; apply h
      have := Nat.div_eq_of_lt (hi.1 hle)
      rw [this]; rfl
    · omega
theorem and_one (x : Int) : Go.bits .and .i64 x 1 = x % 2 := bits_and_mask x 1 1 (by omega) rfl
theorem and_u8_one (c : Int) (h0 : 0 ≤ c) (h1 : c ≤ 255) : Go.bits .and .u8 c 1 = c % 2 := by
  obtain ⟨n, rfl⟩ := Int.eq_ofNat_of_zero_le h0
  have hn : n < 2 ^ 8 := by omega
  have e := (bits_nat .u8 8 (by decide) (fun m h0 h1 => wraps_u8 m h0 h1) n 1 hn (by decide)).1
  have e2 : n &&& 1 = n % 2 := Nat.and_two_pow_sub_one_eq_mod n 1
  have e3 : Go.bits .and .u8 (n : Int) 1 = ((n &&& 1 : Nat) : Int) := e
  rw [e3, e2]; push_cast; rfl
theorem l2Down1' (x : Int) (h0 : -9223372036854775808 ≤ x) (h1 : x ≤ 9223372036854775807) : ∃ c : Nat, spec_l2Down.f x 1 = some (c : Int) ∧ wrap64 ((IntKind.u64.wrap x) / 2) = (c : Int) ∧ c < 9223372036854775808 := by
  refine ⟨(x / 2 % 9223372036854775808).toNat, ?_, ?_, by omega⟩
  · unfold spec_l2Down.f
    rw [if_neg (by decide), if_pos (by decide), wrap64_id (x := 64 - 1) (by omega) (by omega), if_pos (by decide)]
    have e1 : shr .i64 x 1 = x / 2 := rfl
    have e2 : shl .i64 1 (64 - 1) = -9223372036854775808 := by
      unfold shl; rw [IntKind.wrap_i64]; rfl
    have e3 : wrap64 (-9223372036854775808 - 1) = 9223372036854775807 := by unfold wrap64; omega
    rw [e1, e2, e3, bits_and_mask (x / 2) 9223372036854775807 63 (by omega) rfl]
    congr 1
    have : (2 : Int) ^ 63 = 9223372036854775808 := by decide
    rw [this]; omega
  · have e : IntKind.u64.wrap x = x % 18446744073709551616 := by rw [IntKind.wrap_u64]
    rw [e, wrap64_id (by omega) (by omega)]; omega
/-- The bit number p of bytes. -/
def bitV (b : List Int) (p : Nat) : Int := (shr .i64 (rd b ((p / 8 : Nat) : Int)) ((p % 8 : Nat) : Int)) % 2
theorem spec_bit (b : List Int) (hb : ∀ x ∈ b, 0 ≤ x ∧ x ≤ 255) (p : Nat) (hp : p / 8 < b.length) (hl : b.length ≤ 1048576) : spec_l1Bit.f b (p : Int) = some (bitV b p) := by
  unfold spec_l1Bit.f bitV
  rw [Int.tdiv_eq_ediv_of_nonneg (by omega), Int.tmod_eq_emod_of_nonneg (by omega)]
  have e1 : wrap64 ((p : Int) / 8) = ((p / 8 : Nat) : Int) := by rw [wrap64_id (by omega) (by omega)]; omega
  have e2 : (p : Int) % 8 = ((p % 8 : Nat) : Int) := by omega
  have hd := rd_byte b hb ((p / 8 : Nat) : Int)
  rw [e1, e2, if_pos (by omega), if_pos (by omega), if_pos (by omega), wrap64_id (x := rd b _) (by omega) (by omega), and_one]
theorem impl_bit (b : List Int) (hb : ∀ x ∈ b, 0 ≤ x ∧ x ≤ 255) (p : Nat) (hp : p / 8 < b.length) (hl : b.length ≤ 1048576) : impl_BitAt.f b (p : Int) = some (bitV b p) := by
  unfold impl_BitAt.f bitV
  rw [Int.tdiv_eq_ediv_of_nonneg (by omega), Int.tmod_eq_emod_of_nonneg (by omega)]
  have e1 : wrap64 ((p : Int) / 8) = ((p / 8 : Nat) : Int) := by rw [wrap64_id (by omega) (by omega)]; omega
  have e2 : (p : Int) % 8 = ((p % 8 : Nat) : Int) := by omega
  have hd := rd_byte b hb ((p / 8 : Nat) : Int)
  rw [e1, e2, if_neg (by omega), if_neg (by omega), if_pos (by omega), if_pos (by omega), if_pos (by omega)]
  generalize rd b ((p / 8 : Nat) : Int) = d at hd
  have hm : p % 8 < 8 := Nat.mod_lt _ (by omega)
  generalize p % 8 = j at hm
  have s1 : shr .u8 d (j : Int) = d / 2 ^ j := by
    unfold shr
    have : min ((j : Int)).toNat IntKind.u8.bits = j := by
      have : IntKind.u8.bits = 8 := rfl
      omega
    rw [this]
  have s2 : shr .i64 d (j : Int) = d / 2 ^ j := by
    unfold shr
    have : min ((j : Int)).toNat IntKind.i64.bits = j := by
      have : IntKind.i64.bits = 64 := rfl
      omega
    rw [this]
  have p0 : (0 : Int) < 2 ^ j := Int.pow_pos (by omega)
  have q0 : 0 ≤ d / 2 ^ j := Int.ediv_nonneg hd.1 (by omega)
  have q1 : d / 2 ^ j ≤ 255 := Int.le_trans (Int.ediv_le_self _ hd.1) hd.2
  rw [s1, s2, and_u8_one _ q0 q1, wrap64_id (by omega) (by omega)]
def ubit (b : List Int) (at_ w i k : Nat) (x : Int) : Int := Go.bits .or .i64 x (shl .i64 (bitV b (8 * at_ + i * w + k)) (k : Int))
def unum (b : List Int) (at_ w i : Nat) : Int := (List.range w).foldl (fun x k => ubit b at_ w i k x) 0
theorem bit_place (at_ w i k c L : Nat) (h : at_ + c * w ≤ L) (hi : i < 8 * c) (hk : k < w) : (8 * at_ + i * w + k) / 8 < L ∧ i * w + k < 8 * (c * w) := by
  have h1 : (i + 1) * w ≤ (8 * c) * w := Nat.mul_le_mul_right _ hi
  rw [Nat.add_mul, Nat.one_mul, Nat.mul_assoc] at h1
  omega
theorem place_eq (at_ w i k : Nat) (h1 : at_ ≤ 1048576) (h2 : i * w + k ≤ 10000000) : wrap64 ((wrap64 ((wrap64 (8 * (at_ : Int))) + (wrap64 ((i : Int) * (w : Int))))) + (k : Int)) = ((8 * at_ + i * w + k : Nat) : Int) := by
  have hc : ((i : Int) * (w : Int)) = ((i * w : Nat) : Int) := by push_cast; rfl
  rw [hc, wrap64_id (x := 8 * (at_ : Int)) (by omega) (by omega), wrap64_id (x := ((i * w : Nat) : Int)) (by omega) (by omega), wrap64_id (x := 8 * (at_ : Int) + ((i * w : Nat) : Int)) (by omega) (by omega), wrap64_id (by omega) (by omega)]
  push_cast; rfl
theorem impl_unpacked_ev (b : List Int) (hb : ∀ x ∈ b, 0 ≤ x ∧ x ≤ 255) (hl : b.length ≤ 1048576) (at_ w c m : Nat) (hw : w ≤ 24) (hc : c ≤ 2000) (h : at_ + c * w ≤ b.length) (hm : m ≤ 8 * c) :
    Ev (fun k => impl_unpacked.f k b (at_ : Int) (m : Int) (w : Int)) ((List.range m).map (fun i => unum b at_ w i)) := by
  unfold impl_unpacked.f
  have hcw : c * w ≤ 2000 * 24 := Nat.mul_le_mul hc hw
  refine append_loop (fun k out i => impl_unpacked.l0 k b (at_ : Int) (w : Int) out (m : Int) i) (fun i => unum b at_ w i) m _ (fun i s hi hs hr => ?_) ?_
  · refine Ev.step (fun k => by rw [impl_unpacked.l0]) ?_
    refine Ev.pos (by omega) ?_
    refine loop_cps (fun k x j => impl_unpacked.l1 k b (at_ : Int) (w : Int) s (i : Int) x (m : Int) (i : Int) (w : Int) j) (fun k x => ubit b at_ w i k x) w _ (fun k x hk hr2 => ?_) 0 ?_
    · obtain ⟨p1, p2⟩ := bit_place at_ w i k c b.length h (by omega) hk
      refine Ev.step (fun k => by rw [impl_unpacked.l1]) ?_
      rw [place_eq at_ w i k (by omega) (by omega), wrap64_id (x := (k : Int) + 1) (by omega) (by omega)]
      have e : ((k + 1 : Nat) : Int) = (k : Int) + 1 := by push_cast; rfl
      rw [e] at hr2
      exact Ev.pos (by omega) (Ev.here (impl_bit b hb _ p1 hl) (Ev.pos (by omega) hr2))
    · refine Ev.step (fun k => by rw [impl_unpacked.l1]) ?_
      rw [wrap64_id (x := (i : Int) + 1) (by omega) (by omega)]
      have e : ((i + 1 : Nat) : Int) = (i : Int) + 1 := by push_cast; rfl
      rw [e] at hr
      exact Ev.neg (by omega) (Ev.pos (by omega) hr)
  · exact Ev.step (fun k => by rw [impl_unpacked.l0]) (by exact Ev.neg (by omega) (Ev.now _))
theorem spec_fill (b : List Int) (nx many w : Int) (x : Int) (r) : ∀ (m : Nat) (out : List Int) (i c : Int), out.length ≤ 2000 → 0 ≤ i → i ≤ c → c ≤ 9223372036854775807 → many ≤ 2000 → (m : Int) = min (c - i) (many - out.length) → (out.length : Int) ≤ many →
    Ev (fun k => spec_RunRead.l0 k b nx many w (out ++ List.replicate m x)) r → Ev (fun k => spec_RunRead.l1 k b many w out nx c x i) r := by
  intro m
  induction m with
  | zero =>
    intro out i c ho hi hic hc hm he hom h
    refine Ev.step (fun k => by rw [spec_RunRead.l1]) ?_
    rw [List.replicate_zero, List.append_nil] at h
    by_cases h1 : i < c
    · exact Ev.pos h1 (Ev.neg (by omega) h)
    · exact Ev.neg h1 h
  | succ m ih =>
    intro out i c ho hi hic hc hm he hom h
    refine Ev.step (fun k => by rw [spec_RunRead.l1]) ?_
    refine Ev.pos (by omega) (Ev.pos (by omega) (Ev.pos (by omega) ?_))
    rw [wrap64_id (x := i + 1) (by omega) (by omega)]
    refine ih (out ++ [x]) (i + 1) c (by simp; omega) (by omega) (by omega) hc hm (by simp; omega) (by simp; omega) ?_
    rw [List.append_assoc, List.singleton_append, ← List.replicate_succ]; exact h
theorem impl_fill (b : List Int) (nx many w : Int) (x : Int) (out : List Int) (m : Nat) (ho : out.length ≤ 2000) (hm : m ≤ 2000) (r) (h : Ev (fun k => impl_RunRead.l0 k b nx many w (out ++ List.replicate m x)) r) :
    Ev (fun k => impl_RunRead.l1 k b many w out x nx (m : Int) 0) r := by
  have key : ∀ (d i : Nat), i + d = m → Ev (fun k => impl_RunRead.l1 k b many w (out ++ List.replicate i x) x nx (m : Int) (i : Int)) r := by
    intro d
    induction d with
    | zero =>
      intro i hi
      obtain rfl : i = m := by omega
      exact Ev.step (fun k => by rw [impl_RunRead.l1]) (by exact Ev.neg (by omega) h)
    | succ d ih =>
      intro i hi
      refine Ev.step (fun k => by rw [impl_RunRead.l1]) ?_
      refine Ev.pos (by omega) (Ev.pos (by simp; omega) ?_)
      rw [wrap64_id (x := (i : Int) + 1) (by omega) (by omega), List.append_assoc, ← List.replicate_succ']
      have := ih (i + 1) (by omega)
      simpa using this
  have := key m 0 (by omega)
  simpa using this
theorem spec_take (b : List Int) (hb : ∀ x ∈ b, 0 ≤ x ∧ x ≤ 255) (hl : b.length ≤ 1048576) (at_ w c : Nat) (many : Int) (hw : w ≤ 24) (hc : c ≤ 2000) (h : at_ + c * w ≤ b.length) (hmy : many ≤ 2000) (out : List Int) (ho : (out.length : Int) ≤ many) (m : Nat) (hm : (m : Int) = min (8 * (c : Int)) (many - out.length)) (r)
    (hr : Ev (fun k => spec_RunRead.l0 k b ((at_ + c * w : Nat) : Int) many (w : Int) (out ++ (List.range m).map (fun i => unum b at_ w i))) r) :
    Ev (fun k => spec_RunRead.l2 k b many (w : Int) out (at_ : Int) (c : Int) 0) r := by
  have hcw : c * w ≤ 2000 * 24 := Nat.mul_le_mul hc hw
  have hccw : ((c : Int) * (w : Int)) = ((c * w : Nat) : Int) := by push_cast; rfl
  have w8 : wrap64 (8 * (c : Int)) = 8 * c := wrap64_id (by omega) (by omega)
  refine append_from (fun k o i => spec_RunRead.l2 k b many (w : Int) o (at_ : Int) (c : Int) i) (fun i => unum b at_ w i) m r out (fun i s hi hs hr3 => ?_) ?_
  · refine Ev.step (fun k => by rw [spec_RunRead.l2]) ?_
    rw [w8]
    refine Ev.pos (by omega) ?_
    refine Ev.step (fun k => by rw [spec_RunRead.j6]) ?_
    refine Ev.pos (decide_eq_true (by omega)) ?_
    refine loop_cps (fun k x j => spec_RunRead.l3 k b many (w : Int) s (at_ : Int) (c : Int) (i : Int) x j) (fun k x => ubit b at_ w i k x) w _ (fun k x hk hr2 => ?_) 0 ?_
    · obtain ⟨p1, p2⟩ := bit_place at_ w i k c b.length h (by omega) hk
      refine Ev.step (fun k => by rw [spec_RunRead.l3]) ?_
      rw [place_eq at_ w i k (by omega) (by omega), wrap64_id (x := (k : Int) + 1) (by omega) (by omega)]
      have e : ((k + 1 : Nat) : Int) = (k : Int) + 1 := by push_cast; rfl
      rw [e] at hr2
      exact Ev.pos (by omega) (Ev.here (spec_bit b hb _ p1 hl) (Ev.pos (by omega) hr2))
    · refine Ev.step (fun k => by rw [spec_RunRead.l3]) ?_
      rw [wrap64_id (x := (i : Int) + 1) (by omega) (by omega)]
      have e : ((i + 1 : Nat) : Int) = (i : Int) + 1 := by push_cast; rfl
      rw [e] at hr3
      exact Ev.neg (by omega) (Ev.pos (by omega) hr3)
  · refine Ev.step (fun k => by rw [spec_RunRead.l2]) ?_
    rw [w8]
    have fin : Ev (fun k => spec_RunRead.j6 k b many (w : Int) (out ++ (List.range m).map (fun i => unum b at_ w i)) (at_ : Int) (c : Int) (m : Int) false) r := by
      refine Ev.step (fun k => by rw [spec_RunRead.j6]) ?_
      rw [hccw, wrap64_id (x := ((c * w : Nat) : Int)) (by omega) (by omega), wrap64_id (by omega) (by omega)]
      refine Ev.neg (by decide) ?_
      have e : ((at_ + c * w : Nat) : Int) = (at_ : Int) + ((c * w : Nat) : Int) := by push_cast; rfl
      rw [e] at hr
      exact hr
    by_cases h1 : (m : Int) < 8 * c
    · refine Ev.pos h1 ?_
      have : decide (((out ++ (List.range m).map (fun i => unum b at_ w i)).length : Int) < many) = false := decide_eq_false (by simp; omega)
      rw [this]; exact fin
    · exact Ev.neg h1 fin
theorem bitsSize_spec (w : Nat) (hw : w ≤ 24) : spec_BitsSize.f 1 (w : Int) = some (((w + 7) / 8 : Nat) : Int) := by
  unfold spec_BitsSize.f
  simp only [l1In_some, Option.bind_some]
  rw [decide_eq_true (show (0 : Int) ≤ 1 ∧ (1 : Int) ≤ 2000 by omega), decide_eq_true (show (0 : Int) ≤ (w : Int) ∧ (w : Int) ≤ 62 by omega), if_pos rfl, if_pos rfl]
  rw [Int.one_mul, wrap64_id (x := (w : Int)) (by omega) (by omega), wrap64_id (x := (w : Int) + 7) (by omega) (by omega), Int.tdiv_eq_ediv_of_nonneg (by omega), wrap64_id (by omega) (by omega)]
  congr 1
theorem bitsSize_impl (w : Nat) (hw : w ≤ 24) : impl_BitsSize.f 1 (w : Int) = some (((w + 7) / 8 : Nat) : Int) := by
  unfold impl_BitsSize.f
  simp only [within_some, Option.bind_some]
  rw [decide_eq_true (show (0 : Int) ≤ 1 ∧ (1 : Int) ≤ 2000 by omega), decide_eq_true (show (0 : Int) ≤ (w : Int) ∧ (w : Int) ≤ 62 by omega), if_pos rfl, if_pos rfl]
  rw [Int.one_mul, wrap64_id (x := (w : Int)) (by omega) (by omega), wrap64_id (x := (w : Int) + 7) (by omega) (by omega), Int.tdiv_eq_ediv_of_nonneg (by omega), wrap64_id (by omega) (by omega)]
  congr 1
theorem mn_nat (a b : Int) (m : Nat) (h : (m : Int) = min a b) : mn a b = (m : Int) := by
  unfold mn; split <;> omega
/-- What a number of a run comes to, on both sides: bad, or a number and the place behind it. -/
theorem number_both (b : List Int) (hb : ∀ x ∈ b, 0 ≤ x ∧ x ≤ 255) (hl : b.length ≤ 1048576) (w : Nat) (hw : w ≤ 24) (hw0 : 0 < w) (nx : Nat) (hn : nx ≤ b.length) :
    ∃ R : Int × Int × Bool, Ev (fun k => spec_WordGet.f k b (nx : Int) (((w + 7) / 8 : Nat) : Int)) R ∧
      ((R.2.2 = false ∧ Ev (fun k => impl_runNumber.f k b (nx : Int) (w : Int)) ((0, 0, false) : Int × Int × Bool)) ∨
       (R.2.2 = true ∧ (nx : Int) ≤ R.2.1 ∧ R.2.1 ≤ b.length ∧ (shr .i64 R.1 (w : Int) = 0 → Ev (fun k => impl_runNumber.f k b (nx : Int) (w : Int)) (R.1, R.2.1, true)) ∧ (¬ shr .i64 R.1 (w : Int) = 0 → Ev (fun k => impl_runNumber.f k b (nx : Int) (w : Int)) ((0, 0, false) : Int × Int × Bool)))) := by
  obtain ⟨ws, wi⟩ := WordGet_both b hl (nx : Int) (by omega) (by omega) ((w + 7) / 8) (by omega) (by omega)
  refine ⟨_, ws, ?_⟩
  by_cases h : 0 ≤ (nx : Int) ∧ (nx : Int) + ((w + 7) / 8 : Nat) ≤ b.length
  · rw [if_pos h] at wi ⊢
    right
    obtain ⟨v0, v1⟩ := wordV_range b hb (nx : Int) ((w + 7) / 8) (by omega)
    have hp : (2 : Int) ^ (8 * ((w + 7) / 8)) ≤ 16777216 := by
      have : (2 : Nat) ^ (8 * ((w + 7) / 8)) ≤ 2 ^ 24 := Nat.pow_le_pow_right (by omega) (by omega)
      have e : (2 : Int) ^ (8 * ((w + 7) / 8)) = ((2 ^ (8 * ((w + 7) / 8)) : Nat) : Int) := by rw [Int.natCast_pow]; rfl
      rw [e]; omega
    have hws := wid_shr (wordV b (nx : Int) ((w + 7) / 8)) v0 (by omega) w hw
    have ent : ∀ r, Ev (fun k => if widB (wordV b (nx : Int) ((w + 7) / 8)) > (w : Int) then (some ((0 : Int), (0 : Int), false)) else (some (wordV b (nx : Int) ((w + 7) / 8), (nx : Int) + ((w + 7) / 8 : Nat), true))) r → Ev (fun k => impl_runNumber.f k b (nx : Int) (w : Int)) r := fun r h => by
      unfold impl_runNumber.f
      exact Ev.neg (by omega) (Ev.here (bitsSize_impl w hw) (Ev.bind wi (Ev.pos rfl (Ev.bind (impl_widthOf_ev _) h))))
    refine ⟨rfl, by dsimp only; omega, by dsimp only; omega, fun hz => ent _ (Ev.neg (fun hg => (hws.1 hg) hz) (Ev.now _)), fun hz => ent _ (Ev.pos (hws.2 hz) (Ev.now _))⟩
  · rw [if_neg h] at wi ⊢
    left
    refine ⟨rfl, ?_⟩
    unfold impl_runNumber.f
    exact Ev.neg (by omega) (Ev.here (bitsSize_impl w hw) (Ev.bind wi (Ev.neg (by decide) (Ev.now _))))
theorem run_even (b : List Int) (hb : ∀ x ∈ b, 0 ≤ x ∧ x ≤ 255) (hl : b.length ≤ 1048576) (w : Nat) (hw : w ≤ 24) (many : Int) (hm0 : 0 ≤ many) (hm : many ≤ 2000) (out : List Int) (ho : (out.length : Int) ≤ many) (nx : Nat) (hnx : nx ≤ b.length) (c : Nat) (c3 : c < 9223372036854775808)
    (ih : ∀ (n' : Nat) (o' : List Int), nx ≤ n' → n' ≤ b.length → (o'.length : Int) ≤ many → ∃ r : List Int × Int × Bool, Ev (fun k => spec_RunRead.l0 k b (n' : Int) many (w : Int) o') r ∧ Ev (fun k => impl_RunRead.l0 k b (n' : Int) many (w : Int) o') r ∧ r.1.length ≤ 2000) :
    ∃ r : List Int × Int × Bool, Ev (fun k => (if (w : Int) > 0 then ((spec_BitsSize.f 1 (w : Int)).bind fun t133 => ((spec_WordGet.f k b (nx : Int) t133).bind fun bt134 => (if bt134.2.2 = true then (if 0 ≤ (w : Int) then (if (shr .i64 bt134.1 (w : Int)) = 0 then (spec_RunRead.j2 k b many (w : Int) out bt134.2.1 (c : Int) bt134.1) else (some ((([] : List Int)), 0, false))) else (none)) else (some ((([] : List Int)), 0, false))))) else (spec_RunRead.j2 k b many (w : Int) out (nx : Int) (c : Int) 0))) r ∧ Ev (fun k => ((impl_runNumber.f k b (nx : Int) (w : Int)).bind fun bt192 => (if bt192.2.2 = true then (impl_RunRead.l1 k b many (w : Int) out bt192.1 bt192.2.1 (mn (c : Int) (many - (out.length : Int))) 0) else (some (([] : List Int), 0, false))))) r ∧ r.1.length ≤ 2000 := by
  obtain ⟨m, hmm⟩ : ∃ m : Nat, (m : Int) = min (c : Int) (many - out.length) := ⟨(min (c : Int) (many - out.length)).toNat, by omega⟩
  have go : ∀ (x : Int) (n' : Nat), nx ≤ n' → n' ≤ b.length → ∃ r : List Int × Int × Bool, Ev (fun k => spec_RunRead.j2 k b many (w : Int) out (n' : Int) (c : Int) x) r ∧ Ev (fun k => impl_RunRead.l1 k b many (w : Int) out x (n' : Int) (mn (c : Int) (many - (out.length : Int))) 0) r ∧ r.1.length ≤ 2000 := by
    intro x n' hn1 hn2
    obtain ⟨r, r1, r2, r3⟩ := ih n' (out ++ List.replicate m x) hn1 hn2 (by simp; omega)
    refine ⟨r, ?_, ?_, r3⟩
    · refine Ev.step (fun k => by rw [spec_RunRead.j2]) ?_
      exact spec_fill b (n' : Int) many (w : Int) x r m out 0 (c : Int) (by omega) (by omega) (by omega) (by omega) hm (by omega) ho r1
    · rw [mn_nat _ _ m hmm]
      exact impl_fill b (n' : Int) many (w : Int) x out m (by omega) (by omega) r r2
  by_cases hw0 : w = 0
  · obtain ⟨r, r1, r2, r3⟩ := go 0 nx (by omega) (by omega)
    have hn : Ev (fun k => impl_runNumber.f k b (nx : Int) (w : Int)) ((0 : Int), (nx : Int), true) := by
      unfold impl_runNumber.f; exact Ev.pos (by omega) (Ev.now _)
    exact ⟨r, Ev.neg (by omega) r1, Ev.bind hn (Ev.pos rfl r2), r3⟩
  · obtain ⟨R, R1, hR⟩ := number_both b hb hl w hw (by omega) nx (by omega)
    rcases hR with ⟨q1, q2⟩ | ⟨q1, q2, q3, q4, q5⟩
    · exact ⟨([], 0, false), Ev.pos (by omega) (Ev.here (bitsSize_spec w hw) (Ev.bind R1 (Ev.neg (by rw [q1]; decide) (Ev.now _)))), Ev.bind q2 (Ev.neg (by decide) (Ev.now _)), by simp⟩
    · by_cases hz : shr .i64 R.1 (w : Int) = 0
      · obtain ⟨n', hn'⟩ : ∃ n' : Nat, R.2.1 = (n' : Int) := ⟨R.2.1.toNat, by omega⟩
        obtain ⟨r, r1, r2, r3⟩ := go R.1 n' (by omega) (by omega)
        refine ⟨r, Ev.pos (by omega) (Ev.here (bitsSize_spec w hw) (Ev.bind R1 (Ev.pos q1 (Ev.pos (by omega) (Ev.pos hz ?_))))), Ev.bind (q4 hz) (Ev.pos rfl ?_), r3⟩
        · rw [hn']; exact r1
        · dsimp only; rw [hn']; exact r2
      · exact ⟨([], 0, false), Ev.pos (by omega) (Ev.here (bitsSize_spec w hw) (Ev.bind R1 (Ev.pos q1 (Ev.pos (by omega) (Ev.neg hz (Ev.now _)))))), Ev.bind (q5 hz) (Ev.neg (by decide) (Ev.now _)), by simp⟩
theorem run_odd (b : List Int) (hb : ∀ x ∈ b, 0 ≤ x ∧ x ≤ 255) (hl : b.length ≤ 1048576) (w : Nat) (hw : w ≤ 24) (many : Int) (hm0 : 0 ≤ many) (hm : many ≤ 2000) (out : List Int) (ho : (out.length : Int) ≤ many) (nx : Nat) (hnx : nx ≤ b.length) (c : Nat) (c3 : c < 9223372036854775808)
    (ih : ∀ (n' : Nat) (o' : List Int), nx ≤ n' → n' ≤ b.length → (o'.length : Int) ≤ many → ∃ r : List Int × Int × Bool, Ev (fun k => spec_RunRead.l0 k b (n' : Int) many (w : Int) o') r ∧ Ev (fun k => impl_RunRead.l0 k b (n' : Int) many (w : Int) o') r ∧ r.1.length ≤ 2000) :
    ∃ r : List Int × Int × Bool, Ev (fun k => (if (c : Int) > 2000 then (spec_RunRead.j4 k b many (w : Int) out (nx : Int) (c : Int) true) else (spec_RunRead.j4 k b many (w : Int) out (nx : Int) (c : Int) (decide ((wrap64 ((b.length : Int) - (nx : Int))) < (wrap64 ((c : Int) * (w : Int)))))))) r ∧ Ev (fun k => (if (c : Int) > 2000 then (some (([] : List Int), 0, false)) else (if (wrap64 ((c : Int) * (w : Int))) > (wrap64 ((b.length : Int) - (nx : Int))) then (some (([] : List Int), 0, false)) else ((impl_unpacked.f k b (nx : Int) (mn (wrap64 (8 * (c : Int))) (many - (out.length : Int))) (w : Int)).bind fun t198 => (if out.length + t198.length < 17592186044416 then (impl_RunRead.l0 k b (wrap64 ((nx : Int) + (wrap64 ((c : Int) * (w : Int))))) many (w : Int) (out ++ t198)) else (none)))))) r ∧ r.1.length ≤ 2000 := by
  have bad : Ev (fun k => spec_RunRead.j4 k b many (w : Int) out (nx : Int) (c : Int) true) (([], 0, false) : List Int × Int × Bool) := Ev.step (fun k => by rw [spec_RunRead.j4]) (by exact Ev.pos rfl (Ev.now _))
  by_cases hc : (c : Int) > 2000
  · exact ⟨([], 0, false), Ev.pos hc bad, Ev.pos hc (Ev.now _), by simp⟩
  have hcw : c * w ≤ 2000 * 24 := Nat.mul_le_mul (by omega) hw
  have hccw : ((c : Int) * (w : Int)) = ((c * w : Nat) : Int) := by push_cast; rfl
  have w2 : wrap64 ((b.length : Int) - (nx : Int)) = b.length - nx := wrap64_id (by omega) (by omega)
  have w3 : wrap64 ((c : Int) * (w : Int)) = ((c * w : Nat) : Int) := by rw [hccw]; exact wrap64_id (by omega) (by omega)
  by_cases hf : (b.length : Int) - nx < ((c * w : Nat) : Int)
  · refine ⟨([], 0, false), Ev.neg hc ?_, Ev.neg hc (Ev.pos (by rw [w2, w3]; omega) (Ev.now _)), by simp⟩
    rw [w2, w3, decide_eq_true hf]; exact bad
  · obtain ⟨m, hmm⟩ : ∃ m : Nat, (m : Int) = min (8 * (c : Int)) (many - out.length) := ⟨(min (8 * (c : Int)) (many - out.length)).toNat, by omega⟩
    have w4 : wrap64 (8 * (c : Int)) = 8 * c := wrap64_id (by omega) (by omega)
    have w5 : wrap64 ((nx : Int) + ((c * w : Nat) : Int)) = ((nx + c * w : Nat) : Int) := by rw [wrap64_id (by omega) (by omega)]; push_cast; rfl
    obtain ⟨r, r1, r2, r3⟩ := ih (nx + c * w) (out ++ (List.range m).map (fun i => unum b nx w i)) (by omega) (by omega) (by simp; omega)
    refine ⟨r, Ev.neg hc ?_, Ev.neg hc (Ev.neg (by rw [w2, w3]; omega) ?_), r3⟩
    · rw [w2, w3, decide_eq_false hf]
      refine Ev.step (fun k => by rw [spec_RunRead.j4]) ?_
      exact Ev.neg (by decide) (spec_take b hb hl nx w c many hw (by omega) (by omega) hm out ho m hmm r r1)
    · rw [w3, w4, w5, mn_nat _ _ m hmm]
      exact Ev.bind (impl_unpacked_ev b hb hl nx w c m hw (by omega) (by omega) (by omega)) (Ev.pos (by simp; omega) r2)
theorem run_loop (b : List Int) (hb : ∀ x ∈ b, 0 ≤ x ∧ x ≤ 255) (hl : b.length ≤ 1048576) (w : Nat) (hw : w ≤ 24) (many : Int) (hm0 : 0 ≤ many) (hm : many ≤ 2000) :
    ∀ (F at_ : Nat) (out : List Int), at_ ≤ b.length → b.length + 1 ≤ at_ + F → (out.length : Int) ≤ many →
      ∃ r : List Int × Int × Bool, Ev (fun k => spec_RunRead.l0 k b (at_ : Int) many (w : Int) out) r ∧ Ev (fun k => impl_RunRead.l0 k b (at_ : Int) many (w : Int) out) r ∧ r.1.length ≤ 2000 := by
  intro F
  induction F with
  | zero => intro at_ out h1 h2 _; omega
  | succ F ih =>
    intro at_ out h1 h2 ho
    by_cases hlen : (out.length : Int) < many
    · obtain ⟨g, g1, g2, ⟨gr, gok, gbad⟩⟩ := UvarGet_both b hb hl (at_ : Int) (by omega) (by omega)
      obtain ⟨c, c1, c2, c3⟩ := l2Down1' g.1 gr.1 gr.2
      have w1 : wrap64 (many - (out.length : Int)) = many - out.length := wrap64_id (by omega) (by omega)
      cases hok : g.2.2 with
      | false =>
        refine ⟨([], 0, false), ?_, ?_, by simp⟩
        · refine Ev.step (fun k => by rw [spec_RunRead.l0]) ?_
          exact Ev.pos hlen (Ev.bind g1 (Ev.here c1 (Ev.neg (by rw [hok]; decide) (Ev.now _))))
        · refine Ev.step (fun k => by rw [impl_RunRead.l0]) ?_
          exact Ev.pos hlen (Ev.bind g2 (Ev.neg (by rw [hok]; decide) (Ev.now _)))
      | true =>
        obtain ⟨n1, n2⟩ := gok hok
        obtain ⟨nx, hnx⟩ : ∃ nx : Nat, g.2.1 = (nx : Int) := ⟨g.2.1.toNat, by omega⟩
        rw [hnx] at n1 n2
        have ih' : ∀ (n' : Nat) (o' : List Int), nx ≤ n' → n' ≤ b.length → (o'.length : Int) ≤ many → ∃ r : List Int × Int × Bool, Ev (fun k => spec_RunRead.l0 k b (n' : Int) many (w : Int) o') r ∧ Ev (fun k => impl_RunRead.l0 k b (n' : Int) many (w : Int) o') r ∧ r.1.length ≤ 2000 := fun n' o' q1 q2 q3 => ih n' o' q2 (by omega) q3
        by_cases he : g.1 % 2 = 0
        · obtain ⟨r, r1, r2, r3⟩ := run_even b hb hl w hw many hm0 hm out ho nx (by omega) c c3 ih'
          refine ⟨r, ?_, ?_, r3⟩
          · refine Ev.step (fun k => by rw [spec_RunRead.l0]) ?_
            refine Ev.pos hlen (Ev.bind g1 (Ev.here c1 (Ev.pos hok ?_)))
            rw [and_one, hnx]; exact Ev.pos he r1
          · refine Ev.step (fun k => by rw [impl_RunRead.l0]) ?_
            refine Ev.pos hlen (Ev.bind g2 (Ev.pos hok ?_))
            rw [and_one, hnx, c2, w1]; exact Ev.pos he r2
        · obtain ⟨r, r1, r2, r3⟩ := run_odd b hb hl w hw many hm0 hm out ho nx (by omega) c c3 ih'
          refine ⟨r, ?_, ?_, r3⟩
          · refine Ev.step (fun k => by rw [spec_RunRead.l0]) ?_
            refine Ev.pos hlen (Ev.bind g1 (Ev.here c1 (Ev.pos hok ?_)))
            rw [and_one, hnx]; exact Ev.neg he r1
          · refine Ev.step (fun k => by rw [impl_RunRead.l0]) ?_
            refine Ev.pos hlen (Ev.bind g2 (Ev.pos hok ?_))
            rw [and_one, hnx, c2, w1]; exact Ev.neg he r2
    · refine ⟨(out, (at_ : Int), true), ?_, ?_, by dsimp only; omega⟩
      · exact Ev.step (fun k => by rw [spec_RunRead.l0]) (by exact Ev.neg hlen (Ev.now _))
      · exact Ev.step (fun k => by rw [impl_RunRead.l0]) (by exact Ev.neg hlen (Ev.now _))
theorem RunRead_both (b : List Int) (hb : ∀ x ∈ b, 0 ≤ x ∧ x ≤ 255) (hl : b.length ≤ 1048576) (at_ many w : Int) :
    ∃ r : List Int × Int × Bool, Ev (fun k => spec_RunRead.f k b at_ many w) r ∧ Ev (fun k => impl_RunRead.f k b at_ many w) r ∧ r.1.length ≤ 2000 := by
  have bs : Ev (fun k => spec_RunRead.j0 k b at_ many w [] true) (([], 0, false) : List Int × Int × Bool) := Ev.step (fun k => by rw [spec_RunRead.j0]) (by exact Ev.pos rfl (Ev.now _))
  have bi : Ev (fun k => impl_RunRead.j0 k b at_ many w true) (([], 0, false) : List Int × Int × Bool) := Ev.step (fun k => by rw [impl_RunRead.j0]) (by exact Ev.pos rfl (Ev.now _))
  unfold spec_RunRead.f impl_RunRead.f spec_l8Width.f
  by_cases h1 : 0 ≤ w ∧ w ≤ 24
  · by_cases h2 : 0 ≤ many ∧ many ≤ 2000
    · by_cases h3 : 0 ≤ at_ ∧ at_ ≤ (b.length : Int)
      · obtain ⟨W, rfl⟩ := Int.eq_ofNat_of_zero_le h1.1
        obtain ⟨A, rfl⟩ := Int.eq_ofNat_of_zero_le h3.1
        obtain ⟨r, r1, r2, r3⟩ := run_loop b hb hl W (by omega) many h2.1 h2.2 (b.length + 1) A [] (by omega) (by omega) (by simp; omega)
        refine ⟨r, Ev.here rfl (Ev.here (a := true) (by rw [l1In_some, decide_eq_true h1]; rfl) (Ev.pos rfl (Ev.here (l1In_some _ _ _) (Ev.pos (decide_eq_true h2) (Ev.here (l1In_some _ _ _) ?_))))), Ev.here (within_some _ _ _) (Ev.pos (decide_eq_true h1) (Ev.here (within_some _ _ _) (Ev.pos (decide_eq_true h2) (Ev.here (within_some _ _ _) ?_)))), r3⟩
        · rw [decide_eq_true h3]
          refine Ev.step (fun k => by rw [spec_RunRead.j0]) ?_
          exact Ev.neg (by decide) r1
        · rw [decide_eq_true h3]
          refine Ev.step (fun k => by rw [impl_RunRead.j0]) ?_
          exact Ev.neg (by decide) r2
      · refine ⟨([], 0, false), Ev.here rfl (Ev.here (a := true) (by rw [l1In_some, decide_eq_true h1]; rfl) (Ev.pos rfl (Ev.here (l1In_some _ _ _) (Ev.pos (decide_eq_true h2) (Ev.here (l1In_some _ _ _) ?_))))), Ev.here (within_some _ _ _) (Ev.pos (decide_eq_true h1) (Ev.here (within_some _ _ _) (Ev.pos (decide_eq_true h2) (Ev.here (within_some _ _ _) ?_)))), by simp⟩
        · rw [decide_eq_false h3]; exact bs
        · rw [decide_eq_false h3]; exact bi
    · refine ⟨([], 0, false), Ev.here rfl (Ev.here (a := true) (by rw [l1In_some, decide_eq_true h1]; rfl) (Ev.pos rfl (Ev.here (l1In_some _ _ _) (Ev.neg (by rw [decide_eq_false h2]; decide) bs)))), Ev.here (within_some _ _ _) (Ev.pos (decide_eq_true h1) (Ev.here (within_some _ _ _) (Ev.neg (by rw [decide_eq_false h2]; decide) bi))), by simp⟩
  · refine ⟨([], 0, false), Ev.here rfl (Ev.here (a := false) (by rw [l1In_some, decide_eq_false h1]; rfl) (Ev.neg (by decide) bs)), Ev.here (within_some _ _ _) (Ev.neg (by rw [decide_eq_false h1]; decide) bi), by simp⟩
def inDict (dict : Int) (l : List Int) : Bool := (List.range l.length).all (fun (i : Nat) => !(decide (rd l (i : Int) ≥ dict)))
theorem PlacesRead_both (b : List Int) (hb : ∀ x ∈ b, 0 ≤ x ∧ x ≤ 255) (hl : b.length ≤ 1048576) (at_ many dict : Int) (i0 : -9223372036854775808 ≤ at_) (i1 : at_ ≤ 9223372036854775807) :
    ∃ r : List Int × Int × Bool, Ev (fun k => spec_PlacesRead.f k b at_ many dict) r ∧ Ev (fun k => impl_PlacesRead.f k b at_ many dict) r ∧ r.1.length ≤ 2000 := by
  have bs : Ev (fun k => spec_PlacesRead.j0 k b at_ many dict [] true) (([], 0, false) : List Int × Int × Bool) := Ev.step (fun k => by rw [spec_PlacesRead.j0]) (by exact Ev.pos rfl (Ev.now _))
  unfold spec_PlacesRead.f impl_PlacesRead.f
  have wl : wrap64 ((b.length : Int) - 1) = b.length - 1 := wrap64_id (by omega) (by omega)
  by_cases h : 0 ≤ at_ ∧ at_ ≤ (b.length : Int) - 1
  · have hby := rd_byte b hb at_
    have w1 : wrap64 (at_ + 1) = at_ + 1 := wrap64_id (by omega) (by omega)
    have w2 : wrap64 (rd b at_) = rd b at_ := wrap64_id (by omega) (by omega)
    obtain ⟨r, r1, r2, r3⟩ := RunRead_both b hb hl (at_ + 1) many (rd b at_)
    have tl : ∃ q : List Int × Int × Bool, (r.2.2 = true → Ev (fun k => spec_PlacesRead.l0 k dict [] r.1 r.2.1 0) q ∧ Ev (fun k => impl_PlacesRead.l0 k dict r.1 r.2.1 (r.1.length : Int) 0) q) ∧ (r.2.2 = false → q = ([], 0, false)) ∧ q.1.length ≤ 2000 := by
      cases hok : r.2.2 with
      | false => exact ⟨([], 0, false), by simp, fun _ => rfl, by simp⟩
      | true =>
        have k1 := all_loop (fun k i => spec_PlacesRead.l0 k dict [] r.1 r.2.1 i) (fun (i : Nat) => !(decide (rd r.1 (i : Int) ≥ dict))) r.1.length (([] : List Int), (0 : Int), false) (r.1, r.2.1, true)
          (fun i q hi hp hr => by
            have hp' : ¬ (rd r.1 (i : Int) ≥ dict) := by simpa using hp
            refine Ev.step (fun k => by rw [spec_PlacesRead.l0]) ?_
            refine Ev.pos (by omega) (Ev.pos (by omega) (Ev.neg hp' ?_))
            rw [wrap64_id (by omega) (by omega)]
            simpa using hr)
          (fun i hi hp => by
            have hp' : rd r.1 (i : Int) ≥ dict := by simpa using hp
            refine Ev.step (fun k => by rw [spec_PlacesRead.l0]) ?_
            exact Ev.pos (by omega) (Ev.pos (by omega) (Ev.pos hp' (Ev.now _))))
          (by exact Ev.step (fun k => by rw [spec_PlacesRead.l0]) (by exact Ev.neg (by omega) (Ev.now _)))
        have k2 := all_loop (fun k i => impl_PlacesRead.l0 k dict r.1 r.2.1 (r.1.length : Int) i) (fun (i : Nat) => !(decide (rd r.1 (i : Int) ≥ dict))) r.1.length (([] : List Int), (0 : Int), false) (r.1, r.2.1, true)
          (fun i q hi hp hr => by
            have hp' : ¬ (rd r.1 (i : Int) ≥ dict) := by simpa using hp
            refine Ev.step (fun k => by rw [impl_PlacesRead.l0]) ?_
            refine Ev.pos (by omega) (Ev.pos (by omega) (Ev.pos (by omega) (Ev.neg hp' ?_)))
            rw [wrap64_id (by omega) (by omega)]
            simpa using hr)
          (fun i hi hp => by
            have hp' : rd r.1 (i : Int) ≥ dict := by simpa using hp
            refine Ev.step (fun k => by rw [impl_PlacesRead.l0]) ?_
            exact Ev.pos (by omega) (Ev.pos (by omega) (Ev.pos (by omega) (Ev.pos hp' (Ev.now _)))))
          (by exact Ev.step (fun k => by rw [impl_PlacesRead.l0]) (by exact Ev.neg (by omega) (Ev.now _)))
        refine ⟨_, fun _ => ⟨k1, k2⟩, fun h => absurd h (by simp), ?_⟩
        split
        · exact r3
        · simp
    obtain ⟨q, q1, q2, q3⟩ := tl
    have sp : Ev (fun k => spec_PlacesRead.j0 k b at_ many dict [] false) q := by
      refine Ev.step (fun k => by rw [spec_PlacesRead.j0]) ?_
      rw [w1, w2]
      refine Ev.neg (by decide) (Ev.pos h.1 (Ev.pos (by omega) (Ev.bind r1 ?_)))
      cases hok : r.2.2 with
      | true => exact Ev.pos rfl (q1 hok).1
      | false => rw [q2 hok]; exact Ev.neg (by decide) (Ev.now _)
    have im : Ev (fun k => (impl_RunRead.f k b (at_ + 1) many (rd b at_)).bind fun bt206 => (if bt206.2.2 = true then (impl_PlacesRead.l0 k dict bt206.1 bt206.2.1 (bt206.1.length : Int) 0) else (some (([] : List Int), 0, false)))) q := by
      refine Ev.bind r2 ?_
      cases hok : r.2.2 with
      | true => exact Ev.pos rfl (q1 hok).2
      | false => rw [q2 hok]; exact Ev.neg (by decide) (Ev.now _)
    have imf : Ev (fun k => (impl_within.f at_ 0 (wrap64 ((b.length : Int) - 1))).bind fun t204 => (if t204 = true then (if 0 ≤ at_ then (if at_ < (b.length : Int) then ((impl_RunRead.f k b (wrap64 (at_ + 1)) many (wrap64 (rd b at_))).bind fun bt206 => (if bt206.2.2 = true then (impl_PlacesRead.l0 k dict bt206.1 bt206.2.1 (bt206.1.length : Int) 0) else (some (([] : List Int), 0, false)))) else (none)) else (none)) else (some (([] : List Int), 0, false)))) q := by
      rw [wl, w1, w2]
      exact Ev.here (within_some _ _ _) (Ev.pos (decide_eq_true h) (Ev.pos h.1 (Ev.pos (by omega) im)))
    by_cases h24 : rd b at_ > 24
    · -- the width is too great: the reference looks ahead
      have rb : r = ([], 0, false) := by
        have bi : Ev (fun k => impl_RunRead.j0 k b (at_ + 1) many (rd b at_) true) (([], 0, false) : List Int × Int × Bool) := Ev.step (fun k => by rw [impl_RunRead.j0]) (by exact Ev.pos rfl (Ev.now _))
        refine Ev.det r2 ?_
        unfold impl_RunRead.f
        exact Ev.here (within_some _ _ _) (Ev.neg (by simp; omega) bi)
      have qb : q = ([], 0, false) := q2 (by rw [rb])
      refine ⟨q, Ev.here rfl (Ev.neg (by omega) (Ev.neg (by omega) (Ev.pos h.1 (Ev.pos (by omega) ?_)))), imf, q3⟩
      rw [decide_eq_true h24, qb]; exact bs
    · refine ⟨q, Ev.here rfl (Ev.neg (by omega) (Ev.neg (by omega) (Ev.pos h.1 (Ev.pos (by omega) ?_)))), imf, q3⟩
      rw [decide_eq_false h24]; exact sp
  · refine ⟨([], 0, false), Ev.here rfl ?_, Ev.here (within_some _ _ _) (Ev.neg (by rw [wl, decide_eq_false h]; decide) (Ev.now _)), by simp⟩
    by_cases h1 : at_ < 0
    · exact Ev.pos h1 bs
    · exact Ev.neg h1 (Ev.pos (by omega) bs)
theorem FnExactPlacesRead : ∀ (x0 : List (Int)) (x1 : Int) (x2 : Int) (x3 : Int), (x0.length ≤ maxLen ∧ ∀ y ∈ x0, (Lit.int .u8 y).wf = true) → ((Lit.int .i64 x1).wf = true) → ((Lit.int .i64 x2).wf = true) → ((Lit.int .i64 x3).wf = true) → ∃ k, laws_FnExactPlacesRead.f k x0 x1 x2 x3 = some true := by
  intro b at_ many dict hx ha _ _
  refine Ev.rounds ?_
  unfold laws_FnExactPlacesRead.f
  by_cases hb : (b.length : Int) > 1048576
  · exact Ev.pos hb (Ev.now _)
  refine Ev.neg hb ?_
  have t1 := toByteS_ev b (by omega)
  obtain ⟨r, es, ei, hr⟩ := PlacesRead_both b (fun x hx' => u8_of (hx.2 x hx')) (by omega) at_ many dict (i64_of ha).1 (i64_of ha).2
  have q1 := eqByteS_ev b (by omega)
  have q2 := eqIntS_ev r.1 (by omega)
  obtain ⟨m1, y1, p1, k1, _⟩ := markByteS_evm b 1 (by omega) (by omega)
  obtain ⟨m2, y2, p2, k2, k3⟩ := markIntS_ev r.1 1 (by omega) (by omega)
  repeat' (first
    | with_reducible exact Ev.now _
    | with_reducible refine Ev.bind t1 ?_ | with_reducible refine Ev.bind es ?_ | with_reducible refine Ev.bind ei ?_
    | with_reducible refine Ev.bind q1 ?_ | with_reducible refine Ev.bind q2 ?_
    | with_reducible refine Ev.bind k1 ?_ | with_reducible refine Ev.bind k2 ?_ | with_reducible refine Ev.bind k3 ?_
    | refine Ev.pos (by first | rfl | omega) ?_
    | refine Ev.neg (by first | omega | decide | simp) ?_
    | refine Ev.step (fun k => by rw [laws_FnExactPlacesRead.j0]) ?_
    | refine Ev.step (fun k => by rw [laws_FnExactPlacesRead.j1]) ?_
    | refine Ev.step (fun k => by rw [laws_FnExactPlacesRead.j2]) ?_)
end Go.Proofs.Ytlohdhkgcfebnaa.Pure
