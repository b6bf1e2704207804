/- The pure statement of FnExactPlacesPack: the printed functions answer as the law says, for all arguments. No condition. -/
import Derived.Test.YtnfamhegbfjggaaCore
import Derived.Test.YtnfamhegbfjggaaPFnExactPlacesPackx
import Derived.Test.YtnfamhegbfjggaaArgFnExactPlacesPack
namespace Go.Proofs.Ytnfamhegbfjggaa.Pure
open Go.RowKit Go.Proofs.Ytnfamhegbfjggaa.PFnExactPlacesPack Go.Proofs.Ytnfamhegbfjggaa.Core Go.Proofs.YtnfamhegbfjggaaW.PrintWords Go.Proofs.YtnfamhegbfjggaaW.PrintLast Go.Proofs.YtnfamhegbfjggaaW.PrintMore Go.Proofs.YtnfamhegbfjggaaW.PrintMore2 Go.Proofs.Ytnfamhegbfjggaa.AFnExactPlacesPack
set_option linter.unusedVariables false
set_option linter.unusedSimpArgs false
theorem toIntS_ev (l : List Int) (hl : l.length ≤ 35184372088832) : Ev (fun k => laws_toIntS.f k l) l := by
  unfold laws_toIntS.f
  refine Ev.pos (by omega) (Ev.pos (by omega) ?_)
  have := copy_loop (fun k out i => laws_toIntS.l0 k l out i) l id (fun out i r h ho hr => ?_) (fun out ho => ?_) (List.replicate ((l.length : Int)).toNat 0) (by simp)
  · simpa using this
  · refine Ev.step (fun k => by rw [laws_toIntS.l0]) ?_
    refine Ev.pos (by omega) (Ev.pos (by omega) (Ev.pos (by omega) ?_))
    rw [wrap64_id (by omega) (by omega), rd_eq (by simpa using h)]
    simpa using hr
  · exact Ev.step (fun k => by rw [laws_toIntS.l0]) (by exact Ev.neg (by omega) (Ev.now _))
theorem eqIntS_ev (l : List Int) (hl : l.length ≤ 9223372036854775806) : Ev (fun k => laws_eqIntS.f k l l) true := by
  unfold laws_eqIntS.f
  refine Ev.pos rfl ?_
  refine same_loop (fun k i => laws_eqIntS.l0 k l l i) l.length (fun i r h hr => ?_) ?_
  · refine Ev.step (fun k => by rw [laws_eqIntS.l0]) ?_
    refine Ev.pos (by omega) (Ev.pos (by omega) (Ev.pos (by omega) (Ev.pos rfl ?_)))
    rw [wrap64_id (by omega) (by omega)]
    simpa using hr
  · exact Ev.step (fun k => by rw [laws_eqIntS.l0]) (by exact Ev.neg (by omega) (Ev.now _))
theorem eqByteS_ev (l : List Int) (hl : l.length ≤ 9223372036854775806) : Ev (fun k => laws_eqByteS.f k l l) true := by
  unfold laws_eqByteS.f
  refine Ev.pos rfl ?_
  refine same_loop (fun k i => laws_eqByteS.l0 k l l i) l.length (fun i r h hr => ?_) ?_
  · refine Ev.step (fun k => by rw [laws_eqByteS.l0]) ?_
    refine Ev.pos (by omega) (Ev.pos (by omega) (Ev.pos (by omega) (Ev.pos rfl ?_)))
    rw [wrap64_id (by omega) (by omega)]
    simpa using hr
  · exact Ev.step (fun k => by rw [laws_eqByteS.l0]) (by exact Ev.neg (by omega) (Ev.now _))
theorem markIntS_evm (l : List Int) (c : Int) (hc : 0 ≤ c) (hl : c + l.length ≤ 9223372036854775806) : ∃ m ys, m = c + l.length ∧ Ev (fun k => laws_markIntS.f k l c) (m, ys) ∧ True := by
  have key : ∀ (d i : Nat) (xs : List Int) (c : Int), 0 ≤ c → i + d = xs.length → c + d ≤ 9223372036854775806 → xs.length ≤ 9223372036854775806 → ∃ ys, Ev (fun k => laws_markIntS.l0 k xs c (i : Int)) (c + d, ys) := by
    intro d
    induction d with
    | zero => intro i xs c h0 hi hc hx; exact ⟨xs, Ev.cast (Ev.step (fun k => by rw [laws_markIntS.l0]) (by exact Ev.neg (by omega) (Ev.now _))) (by simp)⟩
    | succ d ih =>
      intro i xs c h0 hi hc hx
      obtain ⟨ys, hy⟩ := ih (i + 1) (xs.set i c) (c + 1) (by omega) (by simp; omega) (by omega) (by simpa using hx)
      refine ⟨ys, Ev.step (fun k => by rw [laws_markIntS.l0]) (Ev.pos (by omega) (Ev.pos (by omega) ?_))⟩
      rw [wrap64_id (x := c + 1) (by omega) (by omega), wrap64_id (x := (i : Int) + 1) (by omega) (by omega)]
      have e : c + 1 + (d : Int) = c + ((d + 1 : Nat) : Int) := by omega
      rw [e] at hy
      simpa using hy
  obtain ⟨ys, hy⟩ := key l.length 0 l c hc (by omega) hl (by omega)
  exact ⟨_, ys, rfl, hy, trivial⟩
theorem markByteS_ev (l : List Int) (c : Int) (hc : 0 ≤ c) (hl : c + l.length ≤ 9223372036854775806) : ∃ m ys, m = c + l.length ∧ Ev (fun k => laws_markByteS.f k l c) (m, ys) ∧ Ev (fun k => laws_heldByteS.f k ys c) m := by
  obtain ⟨m, ys, _, hm, h1, h2⟩ := marks_held 1 9223372036854775807 (by omega) (fun c (_ : Int) => c % 256) (fun k xs c i => laws_markByteS.l0 k xs c i) (fun k xs c i => laws_heldByteS.l0 k xs c i)
    (fun xs c i r h hb h0 hB hr => by
      refine Ev.step (fun k => by rw [laws_markByteS.l0]) ?_
      refine Ev.pos (by omega) (Ev.pos (by omega) ?_)
      rw [wrap64_id (x := c + 1) (by omega) (by omega), wrap64_id (x := (i : Int) + 1) (by omega) (by omega)]
      simpa using hr)
    (fun xs c => Ev.step (fun k => by rw [laws_markByteS.l0]) (by exact Ev.neg (by omega) (Ev.now _)))
    (fun xs c i r z h hb h0 hB hz hr => by
      refine Ev.step (fun k => by rw [laws_heldByteS.l0]) ?_
      refine Ev.pos (by omega) (Ev.pos (by omega) (Ev.pos (by rw [rd_eq (by simpa using h)]; simpa using hz) ?_))
      rw [wrap64_id (x := c + 1) (by omega) (by omega), wrap64_id (x := (i : Int) + 1) (by omega) (by omega)]
      simpa using hr)
    (fun xs c => Ev.step (fun k => by rw [laws_heldByteS.l0]) (by exact Ev.neg (by omega) (Ev.now _)))
    l c hc (by omega)
  exact ⟨m, ys, by omega, h1, h2⟩
theorem l1In_same (x lo hi : Int) : (if x ≥ lo then some (decide (x ≤ hi)) else some false) = some (decide (lo ≤ x ∧ x ≤ hi)) := by
  by_cases h : x ≥ lo
  · rw [if_pos h]; congr 1; simp; omega
  · rw [if_neg h]; congr 1; symm; simp; omega
theorem within_some (x lo hi : Int) : impl_within.f x lo hi = some (decide (lo ≤ x ∧ x ≤ hi)) := by unfold impl_within.f; exact l1In_same x lo hi
theorem l1In_some (x lo hi : Int) : spec_l1In.f x lo hi = some (decide (lo ≤ x ∧ x ≤ hi)) := by unfold spec_l1In.f; exact l1In_same x lo hi
theorem bv_ofInt_wrap (x : Int) : BitVec.ofInt 64 (wrap64 x) = BitVec.ofInt 64 x := by
  apply BitVec.eq_of_toNat_eq
  rw [BitVec.toNat_ofInt, BitVec.toNat_ofInt]
  congr 1
  unfold wrap64; omega
theorem or_wrap (a c : Nat) (ha : a < 2 ^ 64) (hc : c < 2 ^ 64) : Go.bits .or .i64 (wrap64 (a : Int)) (wrap64 (c : Int)) = wrap64 ((a ||| c : Nat) : Int) := by
  have e : Go.bits .or .i64 (wrap64 (a : Int)) (wrap64 (c : Int)) = IntKind.i64.wrap (((BitVec.ofInt 64 (wrap64 (a : Int)) ||| BitVec.ofInt 64 (wrap64 (c : Int))).toNat : Nat) : Int) := rfl
  rw [e, bv_ofInt_wrap, bv_ofInt_wrap, BitVec.ofInt_natCast, BitVec.ofInt_natCast, BitVec.toNat_or, BitVec.toNat_ofNat, BitVec.toNat_ofNat, Nat.mod_eq_of_lt ha, Nat.mod_eq_of_lt hc, IntKind.wrap_i64]
  unfold wrap64; omega
theorem or_digit (m a d : Nat) (ha : a < 2 ^ m) : a ||| d * 2 ^ m = a + d * 2 ^ m := by
  have := Nat.shiftLeft_add_eq_or_of_lt ha d
  rw [Nat.shiftLeft_eq] at this
  rw [Nat.or_comm, ← this, Nat.add_comm]
theorem emod_digit (x p : Int) (hp : 0 < p) : x % (p * 256) = x % p + (x / p) % 256 * p := by
  have h1 := Int.mul_ediv_add_emod x p
  have h2 := Int.mul_ediv_add_emod (x / p) 256
  have a0 := Int.emod_nonneg x (show p ≠ 0 by omega)
  have a1 := Int.emod_lt_of_pos x hp
  have b0 := Int.emod_nonneg (x / p) (show (256 : Int) ≠ 0 by omega)
  have b1 := Int.emod_lt_of_pos (x / p) (show (0 : Int) < 256 by omega)
  have e : x = (x % p + (x / p) % 256 * p) + (p * 256) * (x / p / 256) := by
    have e3 : p * (x / p) = p * (256 * (x / p / 256) + x / p % 256) := by rw [h2]
    rw [Int.mul_add] at e3
    have e4 : p * (256 * (x / p / 256)) = (p * 256) * (x / p / 256) := by rw [Int.mul_assoc]
    have e5 : p * (x / p % 256) = x / p % 256 * p := Int.mul_comm _ _
    omega
  have m0 : 0 ≤ (x / p) % 256 * p := Int.mul_nonneg b0 (by omega)
  have m1 : (x / p) % 256 * p ≤ 255 * p := Int.mul_le_mul_of_nonneg_right (by omega) (by omega)
  generalize hr : x % p + (x / p) % 256 * p = r at *
  conv => lhs; rw [e]
  rw [Int.add_mul_emod_self_left, Int.emod_eq_of_lt (by omega) (by omega)]
theorem bits_and_mask (x m : Int) (k : Nat) (hk : k ≤ 63) (hm : m = 2 ^ k - 1) : Go.bits .and .i64 x m = x % 2 ^ k := by
  have p0 : (0 : Int) < 2 ^ k := Int.pow_pos (by omega)
  have eP : (2 : Int) ^ k = ((2 ^ k : Nat) : Int) := by push_cast; rfl
  have h63 : 2 ^ k ≤ 2 ^ 63 := Nat.pow_le_pow_right (by omega) hk
  have n0 : 0 < 2 ^ k := Nat.pow_pos (by omega)
  have e : Go.bits .and .i64 x m = IntKind.i64.wrap ((((BitVec.ofInt 64 x) &&& (BitVec.ofInt 64 m)).toNat : Nat) : Int) := rfl
  rw [e, BitVec.toNat_and, BitVec.toNat_ofInt, BitVec.toNat_ofInt]
  have em : (m % ((2 ^ 64 : Nat) : Int)).toNat = 2 ^ k - 1 := by
    rw [hm, eP, Int.emod_eq_of_lt (by omega) (by omega)]; omega
  rw [em, Nat.and_two_pow_sub_one_eq_mod]
  have hlt : (x % ((2 ^ 64 : Nat) : Int)).toNat % 2 ^ k < 2 ^ k := Nat.mod_lt _ n0
  rw [wraps_i64 _ (by omega) (by omega), eP, Int.natCast_emod]
  rw [Int.toNat_of_nonneg (Int.emod_nonneg _ (by omega))]
  apply Int.emod_emod_of_dvd
  refine Int.natCast_dvd_natCast.2 (Nat.pow_dvd_pow 2 (by omega))
theorem u64_id {x : Int} (h0 : 0 ≤ x) (h1 : x < 18446744073709551616) : IntKind.u64.wrap x = x := by rw [IntKind.wrap_u64]; omega
theorem bits_and_mask_u (x m : Int) (k : Nat) (hk : k ≤ 63) (hm : m = 2 ^ k - 1) : Go.bits .and .u64 x m = x % 2 ^ k := by
  have p0 : (0 : Int) < 2 ^ k := Int.pow_pos (by omega)
  have eP : (2 : Int) ^ k = ((2 ^ k : Nat) : Int) := by push_cast; rfl
  have h63 : 2 ^ k ≤ 2 ^ 63 := Nat.pow_le_pow_right (by omega) hk
  have n0 : 0 < 2 ^ k := Nat.pow_pos (by omega)
  have e : Go.bits .and .u64 x m = IntKind.u64.wrap ((((BitVec.ofInt 64 x) &&& (BitVec.ofInt 64 m)).toNat : Nat) : Int) := rfl
  rw [e, BitVec.toNat_and, BitVec.toNat_ofInt, BitVec.toNat_ofInt]
  have em : (m % ((2 ^ 64 : Nat) : Int)).toNat = 2 ^ k - 1 := by
    rw [hm, eP, Int.emod_eq_of_lt (by omega) (by omega)]; omega
  rw [em, Nat.and_two_pow_sub_one_eq_mod]
  have hlt : (x % ((2 ^ 64 : Nat) : Int)).toNat % 2 ^ k < 2 ^ k := Nat.mod_lt _ n0
  rw [u64_id (by omega) (by omega), eP, Int.natCast_emod]
  rw [Int.toNat_of_nonneg (Int.emod_nonneg _ (by omega))]
  apply Int.emod_emod_of_dvd
  refine Int.natCast_dvd_natCast.2 (Nat.pow_dvd_pow 2 (by omega))
theorem l2Down7 (x : Int) : spec_l2Down.f x 7 = some (x / 128 % 144115188075855872) := by
  unfold spec_l2Down.f
  rw [if_neg (by decide), if_pos (by decide), wrap64_id (x := 64 - 7) (by omega) (by omega), if_pos (by decide)]
  have e1 : shr .i64 x 7 = x / 128 := rfl
  have e2 : shl .i64 1 (64 - 7) = 144115188075855872 := by
    unfold shl; rw [IntKind.wrap_i64]; rfl
  rw [e1, e2, wrap64_id (by omega) (by omega), bits_and_mask (x / 128) (144115188075855872 - 1) 57 (by omega) rfl]; rfl
theorem l2Down1 (x : Int) : spec_l2Down.f x 1 = some (x / 2 % 9223372036854775808) := by
  unfold spec_l2Down.f
  rw [if_neg (by decide), if_pos (by decide), wrap64_id (x := 64 - 1) (by omega) (by omega), if_pos (by decide)]
  have e1 : shr .i64 x 1 = x / 2 := rfl
  have e2 : shl .i64 1 (64 - 1) = -9223372036854775808 := by
    unfold shl; rw [IntKind.wrap_i64]; rfl
  have e3 : wrap64 (-9223372036854775808 - 1) = 9223372036854775807 := by unfold wrap64; omega
  rw [e1, e2, e3, bits_and_mask (x / 2) 9223372036854775807 63 (by omega) rfl]; rfl
theorem or_u64_128 (x : Int) (h0 : 0 ≤ x) (h1 : x < 128) : Go.bits .or .u64 x 128 = x + 128 := by
  obtain ⟨n, rfl⟩ := Int.eq_ofNat_of_zero_le h0
  have hn : n < 2 ^ 7 := by omega
  have e := (bits_nat .u64 64 (by decide) (fun m h0 h1 => u64_id h0 (by simpa using h1)) n 128 (by omega) (by decide)).2
  have e2 : n ||| 128 = n + 128 := by
    have := or_digit 7 n 1 hn
    simpa using this
  have e3 : Go.bits .or .u64 (n : Int) 128 = ((n ||| 128 : Nat) : Int) := e
  rw [e3, e2]; rfl
/-- The varint of X: both sides print the same bytes. -/
theorem uvarPut_both : ∀ (d : Nat) (x X : Int) (out : List Int), 0 ≤ X → X < 18446744073709551616 → X = x % 18446744073709551616 → X < 128 ^ (d + 1) → out.length + d ≤ 10000 →
    ∃ r : List Int, Ev (fun k => spec_UvarPut.l0 k x (out)) r ∧ Ev (fun k => impl_UvarPut.l0 k X out) r ∧ r.length ≤ out.length + d + 1 ∧ (∀ y ∈ r, y ∈ out ∨ (0 ≤ y ∧ y ≤ 255)) := by
  intro d
  induction d with
  | zero =>
    intro x X out h0 h1 hx hd ho
    have hX : X < 128 := by simpa using hd
    refine ⟨out ++ [X], ?_, ?_, by simp, ?_⟩
    · refine Ev.step (fun k => by rw [spec_UvarPut.l0]) ?_
      refine Ev.here (l2Down7 x) (Ev.pos (by omega) (Ev.pos (by omega) (Ev.const ?_)))
      have : x % 256 = X := by omega
      rw [this]
    · refine Ev.step (fun k => by rw [impl_UvarPut.l0]) ?_
      refine Ev.neg (by omega) (Ev.pos (by omega) (Ev.const ?_))
      have : X % 256 = X := by omega
      rw [this]
    · intro y hy
      rcases List.mem_append.1 hy with h | h
      · exact .inl h
      · obtain rfl := List.mem_singleton.1 h; right; omega
  | succ d ih =>
    intro x X out h0 h1 hx hd ho
    by_cases hX : X < 128
    · refine ⟨out ++ [X], ?_, ?_, by simp, ?_⟩
      · refine Ev.step (fun k => by rw [spec_UvarPut.l0]) ?_
        refine Ev.here (l2Down7 x) (Ev.pos (by omega) (Ev.pos (by omega) (Ev.const ?_)))
        have : x % 256 = X := by omega
        rw [this]
      · refine Ev.step (fun k => by rw [impl_UvarPut.l0]) ?_
        refine Ev.neg (by omega) (Ev.pos (by omega) (Ev.const ?_))
        have : X % 256 = X := by omega
        rw [this]
      · intro y hy
        rcases List.mem_append.1 hy with h | h
        · exact .inl h
        · obtain rfl := List.mem_singleton.1 h; right; omega
    · have hpow : X / 128 < 128 ^ (d + 1) := by
        rw [Int.pow_succ] at hd
        omega
      have hq : x / 128 % 144115188075855872 = X / 128 := by omega
      obtain ⟨r, r1, r2, r3, r4⟩ := ih (x / 128 % 144115188075855872) (X / 128) (out ++ [X % 128 + 128]) (by omega) (by omega) (by rw [hq]; omega) hpow (by simp; omega)
      refine ⟨r, ?_, ?_, by simp at r3; omega, ?_⟩
      · refine Ev.step (fun k => by rw [spec_UvarPut.l0]) ?_
        refine Ev.here (l2Down7 x) (Ev.neg (by omega) (Ev.pos (by omega) (Ev.here (l2Down7 x) ?_)))
        rw [bits_and_mask x 127 7 (by omega) rfl]
        have e : (2 : Int) ^ 7 = 128 := rfl
        rw [e, wrap64_id (by omega) (by omega)]
        have e2 : (x % 128 + 128) % 256 = X % 128 + 128 := by omega
        rw [e2]; exact r1
      · refine Ev.step (fun k => by rw [impl_UvarPut.l0]) ?_
        refine Ev.pos (by omega) (Ev.pos (by omega) ?_)
        rw [bits_and_mask_u X 127 7 (by omega) rfl]
        have e : (2 : Int) ^ 7 = 128 := rfl
        rw [e, or_u64_128 _ (by omega) (by omega)]
        have e2 : (X % 128 + 128) % 256 = X % 128 + 128 := by omega
        rw [e2]; exact r2
      · intro y hy
        rcases r4 y hy with h | h
        · rcases List.mem_append.1 h with h | h
          · exact .inl h
          · obtain rfl := List.mem_singleton.1 h; right; omega
        · exact .inr h
theorem UvarPut_ev (x : Int) : ∃ r : List Int, Ev (fun k => spec_UvarPut.f k x) r ∧ Ev (fun k => impl_UvarPut.f k x) r ∧ r.length ≤ 10 ∧ (∀ y ∈ r, 0 ≤ y ∧ y ≤ 255) := by
  unfold spec_UvarPut.f impl_UvarPut.f
  have e : IntKind.u64.wrap x = x % 18446744073709551616 := by rw [IntKind.wrap_u64]
  rw [e]
  obtain ⟨r, r1, r2, r3, r4⟩ := uvarPut_both 9 x (x % 18446744073709551616) [] (by omega) (by omega) rfl (by
    have : (128 : Int) ^ (9 + 1) = 1180591620717411303424 := by decide
    omega) (by simp)
  exact ⟨r, r1, r2, by simpa using r3, fun y hy => by
    rcases r4 y hy with h | h
    · cases h
    · exact h⟩
/-- How many bits a number has, told in at most f rounds. -/
def blF : Nat → Nat → Nat
  | 0, _ => 0
  | f + 1, n => if n = 0 then 0 else blF f (n / 2) + 1
theorem blF_le : ∀ (f n : Nat), blF f n ≤ f
  | 0, _ => Nat.le_refl _
  | f + 1, n => by
    unfold blF
    have := blF_le f (n / 2)
    split <;> omega
theorem blF_more : ∀ (f n : Nat), n < 2 ^ f → ∀ g, blF (f + g) n = blF f n
  | 0, n, h, g => by
    obtain rfl : n = 0 := by simpa using h
    cases g with
    | zero => rfl
    | succ g => rw [Nat.zero_add]; unfold blF; rw [if_pos rfl]
  | f + 1, n, h, g => by
    rw [show f + 1 + g = (f + g) + 1 by omega]
    unfold blF
    rw [blF_more f (n / 2) (by rw [Nat.pow_succ] at h; omega) g]
theorem blF_shift : ∀ (k f n : Nat), 0 < n / 2 ^ k → blF (f + k) n = k + blF f (n / 2 ^ k)
  | 0, f, n, h => by simp
  | k + 1, f, n, h => by
    rw [show f + (k + 1) = (f + k) + 1 by omega]
    have hn : n ≠ 0 := by
      intro e; rw [e] at h; simp at h
    have hd : n / 2 / 2 ^ k = n / 2 ^ (k + 1) := by rw [Nat.div_div_eq_div_mul, Nat.pow_succ, Nat.mul_comm]
    rw [show blF (f + k + 1) n = blF (f + k) (n / 2) + 1 from by rw [blF, if_neg hn], blF_shift k f (n / 2) (by rw [hd]; exact h), hd]
    omega
theorem tab_at (v : Int) (h0 : 0 ≤ v) (h1 : v < 256) : bt (⟨#[0, 1, 2, 2, 3, 3, 3, 3, 4, 4, 4, 4, 4, 4, 4, 4, 5, 5, 5, 5, 5, 5, 5, 5, 5, 5, 5, 5, 5, 5, 5, 5, 6, 6, 6, 6, 6, 6, 6, 6, 6, 6, 6, 6, 6, 6, 6, 6, 6, 6, 6, 6, 6, 6, 6, 6, 6, 6, 6, 6, 6, 6, 6, 6, 7, 7, 7, 7, 7, 7, 7, 7, 7, 7, 7, 7, 7, 7, 7, 7, 7, 7, 7, 7, 7, 7, 7, 7, 7, 7, 7, 7, 7, 7, 7, 7, 7, 7, 7, 7, 7, 7, 7, 7, 7, 7, 7, 7, 7, 7, 7, 7, 7, 7, 7, 7, 7, 7, 7, 7, 7, 7, 7, 7, 7, 7, 7, 7, 8, 8, 8, 8, 8, 8, 8, 8, 8, 8, 8, 8, 8, 8, 8, 8, 8, 8, 8, 8, 8, 8, 8, 8, 8, 8, 8, 8, 8, 8, 8, 8, 8, 8, 8, 8, 8, 8, 8, 8, 8, 8, 8, 8, 8, 8, 8, 8, 8, 8, 8, 8, 8, 8, 8, 8, 8, 8, 8, 8, 8, 8, 8, 8, 8, 8, 8, 8, 8, 8, 8, 8, 8, 8, 8, 8, 8, 8, 8, 8, 8, 8, 8, 8, 8, 8, 8, 8, 8, 8, 8, 8, 8, 8, 8, 8, 8, 8, 8, 8, 8, 8, 8, 8, 8, 8, 8, 8, 8, 8, 8, 8, 8, 8, 8, 8, 8, 8, 8, 8, 8, 8, 8, 8, 8, 8, 8, 8]⟩ : ByteArray) v = (blF 8 v.toNat : Int) := by
  have key : ∀ n : Fin 256, bt (⟨#[0, 1, 2, 2, 3, 3, 3, 3, 4, 4, 4, 4, 4, 4, 4, 4, 5, 5, 5, 5, 5, 5, 5, 5, 5, 5, 5, 5, 5, 5, 5, 5, 6, 6, 6, 6, 6, 6, 6, 6, 6, 6, 6, 6, 6, 6, 6, 6, 6, 6, 6, 6, 6, 6, 6, 6, 6, 6, 6, 6, 6, 6, 6, 6, 7, 7, 7, 7, 7, 7, 7, 7, 7, 7, 7, 7, 7, 7, 7, 7, 7, 7, 7, 7, 7, 7, 7, 7, 7, 7, 7, 7, 7, 7, 7, 7, 7, 7, 7, 7, 7, 7, 7, 7, 7, 7, 7, 7, 7, 7, 7, 7, 7, 7, 7, 7, 7, 7, 7, 7, 7, 7, 7, 7, 7, 7, 7, 7, 8, 8, 8, 8, 8, 8, 8, 8, 8, 8, 8, 8, 8, 8, 8, 8, 8, 8, 8, 8, 8, 8, 8, 8, 8, 8, 8, 8, 8, 8, 8, 8, 8, 8, 8, 8, 8, 8, 8, 8, 8, 8, 8, 8, 8, 8, 8, 8, 8, 8, 8, 8, 8, 8, 8, 8, 8, 8, 8, 8, 8, 8, 8, 8, 8, 8, 8, 8, 8, 8, 8, 8, 8, 8, 8, 8, 8, 8, 8, 8, 8, 8, 8, 8, 8, 8, 8, 8, 8, 8, 8, 8, 8, 8, 8, 8, 8, 8, 8, 8, 8, 8, 8, 8, 8, 8, 8, 8, 8, 8, 8, 8, 8, 8, 8, 8, 8, 8, 8, 8, 8, 8, 8, 8, 8, 8, 8, 8]⟩ : ByteArray) ((n.val : Nat) : Int) = (blF 8 n.val : Int) := by decide +kernel
  have h : bt (⟨#[0, 1, 2, 2, 3, 3, 3, 3, 4, 4, 4, 4, 4, 4, 4, 4, 5, 5, 5, 5, 5, 5, 5, 5, 5, 5, 5, 5, 5, 5, 5, 5, 6, 6, 6, 6, 6, 6, 6, 6, 6, 6, 6, 6, 6, 6, 6, 6, 6, 6, 6, 6, 6, 6, 6, 6, 6, 6, 6, 6, 6, 6, 6, 6, 7, 7, 7, 7, 7, 7, 7, 7, 7, 7, 7, 7, 7, 7, 7, 7, 7, 7, 7, 7, 7, 7, 7, 7, 7, 7, 7, 7, 7, 7, 7, 7, 7, 7, 7, 7, 7, 7, 7, 7, 7, 7, 7, 7, 7, 7, 7, 7, 7, 7, 7, 7, 7, 7, 7, 7, 7, 7, 7, 7, 7, 7, 7, 7, 8, 8, 8, 8, 8, 8, 8, 8, 8, 8, 8, 8, 8, 8, 8, 8, 8, 8, 8, 8, 8, 8, 8, 8, 8, 8, 8, 8, 8, 8, 8, 8, 8, 8, 8, 8, 8, 8, 8, 8, 8, 8, 8, 8, 8, 8, 8, 8, 8, 8, 8, 8, 8, 8, 8, 8, 8, 8, 8, 8, 8, 8, 8, 8, 8, 8, 8, 8, 8, 8, 8, 8, 8, 8, 8, 8, 8, 8, 8, 8, 8, 8, 8, 8, 8, 8, 8, 8, 8, 8, 8, 8, 8, 8, 8, 8, 8, 8, 8, 8, 8, 8, 8, 8, 8, 8, 8, 8, 8, 8, 8, 8, 8, 8, 8, 8, 8, 8, 8, 8, 8, 8, 8, 8, 8, 8, 8, 8]⟩ : ByteArray) ((v.toNat : Nat) : Int) = (blF 8 v.toNat : Int) := key ⟨v.toNat, by omega⟩
  rw [Int.toNat_of_nonneg h0] at h
  exact h
theorem len64_j0 (x p : Int) (h0 : 0 ≤ x) (h1 : x < 4294967296) (hp0 : 0 ≤ p) (hp1 : p ≤ 32) : Ev (fun k => bits_Len64.j0 k x p) (p + blF 32 x.toNat) := by
  refine Ev.step (fun k => by rw [bits_Len64.j0]) ?_
  by_cases h16 : x ≥ 65536
  · have e16 : blF 32 x.toNat = 16 + blF 16 (x.toNat / 2 ^ 16) := blF_shift 16 16 x.toNat (by omega)
    have q16 : x.toNat / 2 ^ 16 = (x / 65536).toNat := by omega
    refine Ev.pos h16 ?_
    by_cases h8 : x / 65536 ≥ 256
    · have e8 : blF 16 (x / 65536).toNat = 8 + blF 8 ((x / 65536).toNat / 2 ^ 8) := blF_shift 8 8 _ (by omega)
      have q8 : (x / 65536).toNat / 2 ^ 8 = (x / 65536 / 256 % 256).toNat := by omega
      refine Ev.pos h8 (Ev.pos (by omega) (Ev.pos (by omega) (Ev.const ?_)))
      rw [tab_at _ (by omega) (by omega), e16, q16, e8, q8]
      have := blF_le 8 (x / 65536 / 256 % 256).toNat
      rw [wrap64_id (x := p + 16) (by omega) (by omega), wrap64_id (x := p + 16 + 8) (by omega) (by omega), wrap64_id (x := ((blF 8 (x / 65536 / 256 % 256).toNat : Nat) : Int)) (by omega) (by omega), wrap64_id (by omega) (by omega)]
      congr 1; push_cast; omega
    · have e8 : blF 16 (x / 65536).toNat = blF 8 (x / 65536).toNat := blF_more 8 _ (by omega) 8
      have q8 : x / 65536 % 256 = x / 65536 := by omega
      refine Ev.neg h8 (Ev.pos (by omega) (Ev.pos (by omega) (Ev.const ?_)))
      rw [tab_at _ (by omega) (by omega), e16, q16, e8, q8]
      have := blF_le 8 (x / 65536).toNat
      rw [wrap64_id (x := p + 16) (by omega) (by omega), wrap64_id (x := ((blF 8 (x / 65536).toNat : Nat) : Int)) (by omega) (by omega), wrap64_id (by omega) (by omega)]
      congr 1; push_cast; omega
  · have e16 : blF 32 x.toNat = blF 16 x.toNat := blF_more 16 _ (by omega) 16
    refine Ev.neg h16 ?_
    by_cases h8 : x ≥ 256
    · have e8 : blF 16 x.toNat = 8 + blF 8 (x.toNat / 2 ^ 8) := blF_shift 8 8 _ (by omega)
      have q8 : x.toNat / 2 ^ 8 = (x / 256 % 256).toNat := by omega
      refine Ev.pos h8 (Ev.pos (by omega) (Ev.pos (by omega) (Ev.const ?_)))
      rw [tab_at _ (by omega) (by omega), e16, e8, q8]
      have := blF_le 8 (x / 256 % 256).toNat
      rw [wrap64_id (x := p + 8) (by omega) (by omega), wrap64_id (x := ((blF 8 (x / 256 % 256).toNat : Nat) : Int)) (by omega) (by omega), wrap64_id (by omega) (by omega)]
      congr 1; push_cast; omega
    · have e8 : blF 16 x.toNat = blF 8 x.toNat := blF_more 8 _ (by omega) 8
      have q8 : x % 256 = x := by omega
      refine Ev.neg h8 (Ev.pos (by omega) (Ev.pos (by omega) (Ev.const ?_)))
      rw [tab_at _ (by omega) (by omega), e16, e8, q8]
      have := blF_le 8 x.toNat
      rw [wrap64_id (x := ((blF 8 x.toNat : Nat) : Int)) (by omega) (by omega), wrap64_id (by omega) (by omega)]
/-- The width of a whole number, as one without a sign. -/
def widB (x : Int) : Int := (blF 64 (x % 18446744073709551616).toNat : Int)
theorem widB_range (x : Int) : 0 ≤ widB x ∧ widB x ≤ 64 := by
  unfold widB
  have := blF_le 64 (x % 18446744073709551616).toNat
  omega
theorem impl_widthOf_ev (x : Int) : Ev (fun k => impl_widthOf.f k x) (widB x) := by
  unfold impl_widthOf.f bits_Len64.f widB
  have e : IntKind.u64.wrap x = x % 18446744073709551616 := by rw [IntKind.wrap_u64]
  rw [e]
  generalize hX : x % 18446744073709551616 = X
  have h0 : 0 ≤ X := by omega
  have h1 : X < 18446744073709551616 := by omega
  have key : Ev (fun k => if X ≥ 4294967296 then (bits_Len64.j0 k (X / 4294967296) 32) else (bits_Len64.j0 k X 0)) (blF 64 X.toNat : Int) := by
    by_cases h : X ≥ 4294967296
    · refine Ev.pos h (Ev.cast (len64_j0 (X / 4294967296) 32 (by omega) (by omega) (by omega) (by omega)) ?_)
      have := blF_shift 32 32 X.toNat (by omega)
      have q : X.toNat / 2 ^ 32 = (X / 4294967296).toNat := by omega
      rw [this, q]; push_cast; omega
    · refine Ev.neg h (Ev.cast (len64_j0 X 0 h0 (by omega) (by omega) (by omega)) ?_)
      have := blF_more 32 X.toNat (by omega) 32
      rw [this]; omega
  exact Ev.bind key (Ev.now _)
theorem or_u8_range (a b : Int) : 0 ≤ Go.bits .or .u8 a b ∧ Go.bits .or .u8 a b ≤ 255 := by
  have e : Go.bits .or .u8 a b = IntKind.u8.wrap (((BitVec.ofInt 8 a ||| BitVec.ofInt 8 b).toNat : Nat) : Int) := rfl
  rw [e, IntKind.wrap_u8]; omega
theorem or_u8_zero (a : Int) (h0 : 0 ≤ a) (h1 : a ≤ 255) : Go.bits .or .u8 a 0 = a := by
  have e : Go.bits .or .u8 a 0 = IntKind.u8.wrap (((BitVec.ofInt 8 a ||| BitVec.ofInt 8 0).toNat : Nat) : Int) := rfl
  have z : BitVec.ofInt 8 0 = 0#8 := rfl
  rw [e, z, BitVec.or_zero, BitVec.toNat_ofInt, IntKind.wrap_u8]; omega
theorem and_one (x : Int) : Go.bits .and .i64 x 1 = x % 2 := bits_and_mask x 1 1 (by omega) rfl
/-- Bit k of number i is put into its place. -/
def bput (l : List Int) (w i k : Nat) (out : List Int) : List Int :=
  out.set ((i * w + k) / 8) (Go.bits .or .u8 (rd out (((i * w + k) / 8 : Nat) : Int)) (shl .u8 ((shr .i64 (rd l (i : Int)) (k : Int)) % 2) (((i * w + k) % 8 : Nat) : Int)))
def brow (l : List Int) (w i : Nat) (out : List Int) : List Int := (List.range w).foldl (fun o k => bput l w i k o) out
def bitsR (l : List Int) (w : Nat) : List Int := (List.range l.length).foldl (fun o i => brow l w i o) (List.replicate ((l.length * w + 7) / 8) 0)
def BOk (n : Nat) (out : List Int) : Prop := out.length = n ∧ ∀ x ∈ out, 0 ≤ x ∧ x ≤ 255
theorem bput_ok {n : Nat} {l : List Int} {w i k : Nat} {out : List Int} (h : BOk n out) : BOk n (bput l w i k out) := by
  refine ⟨by simpa [bput] using h.1, fun x hx => ?_⟩
  unfold bput at hx
  rcases List.mem_or_eq_of_mem_set hx with h' | rfl
  · exact h.2 x h'
  · exact or_u8_range _ _
theorem brow_ok {n : Nat} {l : List Int} {w i : Nat} : ∀ (m : Nat) {out : List Int}, BOk n out → BOk n ((List.range m).foldl (fun o k => bput l w i k o) out) := by
  intro m
  induction m with
  | zero => intro out h; exact h
  | succ m ih => intro out h; rw [List.range_succ, List.foldl_append]; exact bput_ok (ih h)
theorem bput_skip {n : Nat} {l : List Int} {w i k : Nat} {out : List Int} (h : BOk n out) (hb : (shr .i64 (rd l (i : Int)) (k : Int)) % 2 = 0) (hi : (i * w + k) / 8 < n) : bput l w i k out = out := by
  unfold bput
  rw [hb]
  have e : shl .u8 0 (((i * w + k) % 8 : Nat) : Int) = 0 := by unfold shl; rw [Int.zero_mul, IntKind.wrap_u8]; rfl
  have hl : (i * w + k) / 8 < out.length := by rw [h.1]; exact hi
  have er : rd out (((i * w + k) / 8 : Nat) : Int) = out[(i * w + k) / 8] := rd_eq (by omega)
  have hm := h.2 _ (List.getElem_mem hl)
  rw [e, er, or_u8_zero _ hm.1 hm.2, List.set_getElem_self]
theorem bitsR_ok (l : List Int) (w : Nat) : BOk ((l.length * w + 7) / 8) (bitsR l w) := by
  unfold bitsR
  have : ∀ m, BOk ((l.length * w + 7) / 8) ((List.range m).foldl (fun o i => brow l w i o) (List.replicate ((l.length * w + 7) / 8) 0)) := by
    intro m
    induction m with
    | zero => exact ⟨by simp, fun x hx => by obtain rfl := List.eq_of_mem_replicate hx; omega⟩
    | succ m ih => rw [List.range_succ, List.foldl_append]; exact brow_ok w ih
  exact this _
theorem pos_facts (l : List Int) (hl : l.length ≤ 4000) (w : Nat) (hw : w ≤ 64) (i k : Nat) (hi : i < l.length) (hk : k < w) :
    (wrap64 ((i : Int) * (w : Int)) + (k : Int)) = ((i * w + k : Nat) : Int) ∧ i * w + k < l.length * w ∧ l.length * w ≤ 256000 := by
  have h1 : (i + 1) * w ≤ l.length * w := Nat.mul_le_mul_right _ hi
  rw [Nat.add_mul, Nat.one_mul] at h1
  have h2 : l.length * w ≤ 4000 * 64 := Nat.mul_le_mul hl hw
  have hc : ((i : Int) * (w : Int)) = ((i * w : Nat) : Int) := by push_cast; rfl
  rw [hc, wrap64_id (by omega) (by omega)]
  exact ⟨by push_cast; rfl, by omega, by omega⟩
theorem spec_l8Bits_ev (l : List Int) (hl : l.length ≤ 4000) (w : Nat) (hw : w ≤ 64) : Ev (fun k => spec_l8Bits.f k l (w : Int)) (bitsR l w) := by
  have h2 : l.length * w ≤ 4000 * 64 := Nat.mul_le_mul hl hw
  have hc : ((l.length : Int) * (w : Int)) = ((l.length * w : Nat) : Int) := by push_cast; rfl
  have hN : wrap64 (Int.tdiv (wrap64 (wrap64 ((l.length : Int) * (w : Int)) + 7)) 8) = (((l.length * w + 7) / 8 : Nat) : Int) := by
    rw [hc, wrap64_id (x := ((l.length * w : Nat) : Int)) (by omega) (by omega), wrap64_id (x := ((l.length * w : Nat) : Int) + 7) (by omega) (by omega), Int.tdiv_eq_ediv_of_nonneg (by omega), wrap64_id (by omega) (by omega)]
    omega
  unfold spec_l8Bits.f
  rw [hN]
  refine Ev.pos (by omega) (Ev.pos (by omega) ?_)
  rw [Int.toNat_natCast]
  refine loop_inv (fun k out i => spec_l8Bits.l0 k l (w : Int) out i) (fun i out => brow l w i out) l.length _ (fun _ out => BOk ((l.length * w + 7) / 8) out) _ ⟨by simp, fun x hx => by obtain rfl := List.eq_of_mem_replicate hx; omega⟩ (fun i out hi ho => brow_ok w ho) (fun i out hi ho hr => ?_) (fun out ho he => ?_)
  · refine Ev.step (fun k => by rw [spec_l8Bits.l0]) ?_
    refine Ev.pos (by omega) ?_
    refine loop_inv (fun n o k => spec_l8Bits.l1 n l (w : Int) o (i : Int) k) (fun k o => bput l w i k o) w _ (fun _ o => BOk ((l.length * w + 7) / 8) o) out ho (fun k o _ h => bput_ok h) (fun k o hk hok hr2 => ?_) (fun o hok he => ?_)
    · obtain ⟨p1, p2, p3⟩ := pos_facts l hl w hw i k hi hk
      refine Ev.step (fun k => by rw [spec_l8Bits.l1]) ?_
      refine Ev.pos (by omega) (Ev.pos (by omega) (Ev.pos (by omega) (Ev.pos (by omega) ?_)))
      rw [wrap64_id (x := (k : Int) + 1) (by omega) (by omega), p1, and_one]
      have hr3 : Ev (fun n => spec_l8Bits.l1 n l (w : Int) (bput l w i k o) (i : Int) ((k : Int) + 1)) (bitsR l w) := by simpa using hr2
      by_cases hb : (shr .i64 (rd l (i : Int)) (k : Int)) % 2 = 0
      · refine Ev.neg (by omega) ?_
        rw [bput_skip hok hb (by omega)] at hr3
        exact hr3
      · have hb1 : (shr .i64 (rd l (i : Int)) (k : Int)) % 2 = 1 := by omega
        rw [wrap64_id (x := ((i * w + k : Nat) : Int)) (by omega) (by omega), Int.tdiv_eq_ediv_of_nonneg (by omega), Int.tmod_eq_emod_of_nonneg (by omega)]
        have e1 : wrap64 (((i * w + k : Nat) : Int) / 8) = (((i * w + k) / 8 : Nat) : Int) := by rw [wrap64_id (by omega) (by omega)]; omega
        have e2 : ((i * w + k : Nat) : Int) % 8 = (((i * w + k) % 8 : Nat) : Int) := by omega
        rw [e1, e2]
        have hlen := hok.1
        refine Ev.pos hb1 (Ev.pos (by omega) (Ev.pos (by omega) (Ev.pos (by omega) ?_)))
        unfold bput at hr3
        rw [hb1] at hr3
        rw [Int.toNat_natCast]
        exact hr3
    · refine Ev.step (fun k => by rw [spec_l8Bits.l1]) ?_
      refine Ev.neg (by omega) ?_
      rw [wrap64_id (x := (i : Int) + 1) (by omega) (by omega), he]
      have : (List.range w).foldl (fun o k => bput l w i k o) out = brow l w i out := rfl
      rw [this]
      simpa using hr
  · refine Ev.step (fun k => by rw [spec_l8Bits.l0]) ?_
    refine Ev.neg (by omega) (Ev.const ?_)
    rw [he]; rfl
theorem impl_packed_ev (l : List Int) (hl : l.length ≤ 4000) (w : Nat) (hw : w ≤ 64) : Ev (fun k => impl_packed.f k l (w : Int)) (bitsR l w) := by
  have h2 : l.length * w ≤ 4000 * 64 := Nat.mul_le_mul hl hw
  have hc : ((l.length : Int) * (w : Int)) = ((l.length * w : Nat) : Int) := by push_cast; rfl
  have hN : wrap64 (Int.tdiv (wrap64 (wrap64 ((l.length : Int) * (w : Int)) + 7)) 8) = (((l.length * w + 7) / 8 : Nat) : Int) := by
    rw [hc, wrap64_id (x := ((l.length * w : Nat) : Int)) (by omega) (by omega), wrap64_id (x := ((l.length * w : Nat) : Int) + 7) (by omega) (by omega), Int.tdiv_eq_ediv_of_nonneg (by omega), wrap64_id (by omega) (by omega)]
    omega
  unfold impl_packed.f
  rw [hN]
  refine Ev.pos (by omega) (Ev.pos (by omega) ?_)
  rw [Int.toNat_natCast]
  refine loop_inv (fun k out i => impl_packed.l0 k (w : Int) out l (l.length : Int) i) (fun i out => brow l w i out) l.length _ (fun _ out => BOk ((l.length * w + 7) / 8) out) _ ⟨by simp, fun x hx => by obtain rfl := List.eq_of_mem_replicate hx; omega⟩ (fun i out hi ho => brow_ok w ho) (fun i out hi ho hr => ?_) (fun out ho he => ?_)
  · refine Ev.step (fun k => by rw [impl_packed.l0]) ?_
    refine Ev.pos (by omega) (Ev.pos (by omega) (Ev.pos (by omega) ?_))
    refine loop_inv (fun n o k => impl_packed.l1 n (w : Int) o (i : Int) (rd l (i : Int)) l (l.length : Int) (i : Int) (w : Int) k) (fun k o => bput l w i k o) w _ (fun _ o => BOk ((l.length * w + 7) / 8) o) out ho (fun k o _ h => bput_ok h) (fun k o hk hok hr2 => ?_) (fun o hok he => ?_)
    · obtain ⟨p1, p2, p3⟩ := pos_facts l hl w hw i k hi hk
      refine Ev.step (fun k => by rw [impl_packed.l1]) ?_
      rw [wrap64_id (x := (k : Int) + 1) (by omega) (by omega), p1, and_one]
      have hr3 : Ev (fun n => impl_packed.l1 n (w : Int) (bput l w i k o) (i : Int) (rd l (i : Int)) l (l.length : Int) (i : Int) (w : Int) ((k : Int) + 1)) (bitsR l w) := by simpa using hr2
      rw [wrap64_id (x := ((i * w + k : Nat) : Int)) (by omega) (by omega), Int.tdiv_eq_ediv_of_nonneg (by omega), Int.tmod_eq_emod_of_nonneg (by omega)]
      have e1 : wrap64 (((i * w + k : Nat) : Int) / 8) = (((i * w + k) / 8 : Nat) : Int) := by rw [wrap64_id (by omega) (by omega)]; omega
      have e2 : ((i * w + k : Nat) : Int) % 8 = (((i * w + k) % 8 : Nat) : Int) := by omega
      have e3 : (shr .i64 (rd l (i : Int)) (k : Int)) % 2 % 256 = (shr .i64 (rd l (i : Int)) (k : Int)) % 2 := by omega
      rw [e1, e2, e3]
      have hlen := hok.1
      refine Ev.pos (by omega) (Ev.pos (by omega) (Ev.pos (by omega) (Ev.pos (by omega) (Ev.pos (by omega) ?_))))
      unfold bput at hr3
      rw [Int.toNat_natCast]
      exact hr3
    · refine Ev.step (fun k => by rw [impl_packed.l1]) ?_
      refine Ev.neg (by omega) ?_
      rw [wrap64_id (x := (i : Int) + 1) (by omega) (by omega), he]
      have : (List.range w).foldl (fun o k => bput l w i k o) out = brow l w i out := rfl
      rw [this]
      simpa using hr
  · refine Ev.step (fun k => by rw [impl_packed.l0]) ?_
    refine Ev.neg (by omega) (Ev.const ?_)
    rw [he]; rfl
theorem bitsSize_spec (w : Nat) (hw : w ≤ 24) : spec_BitsSize.f 1 (w : Int) = some (((w + 7) / 8 : Nat) : Int) := by
  unfold spec_BitsSize.f
  simp only [l1In_some, Option.bind_some]
  rw [decide_eq_true (show (0 : Int) ≤ 1 ∧ (1 : Int) ≤ 2000 by omega), decide_eq_true (show (0 : Int) ≤ (w : Int) ∧ (w : Int) ≤ 62 by omega), if_pos rfl, if_pos rfl]
  rw [Int.one_mul, wrap64_id (x := (w : Int)) (by omega) (by omega), wrap64_id (x := (w : Int) + 7) (by omega) (by omega), Int.tdiv_eq_ediv_of_nonneg (by omega), wrap64_id (by omega) (by omega)]
  congr 1
theorem bitsSize_impl (w : Nat) (hw : w ≤ 24) : impl_BitsSize.f 1 (w : Int) = some (((w + 7) / 8 : Nat) : Int) := by
  unfold impl_BitsSize.f
  simp only [within_some, Option.bind_some]
  rw [decide_eq_true (show (0 : Int) ≤ 1 ∧ (1 : Int) ≤ 2000 by omega), decide_eq_true (show (0 : Int) ≤ (w : Int) ∧ (w : Int) ≤ 62 by omega), if_pos rfl, if_pos rfl]
  rw [Int.one_mul, wrap64_id (x := (w : Int)) (by omega) (by omega), wrap64_id (x := (w : Int) + 7) (by omega) (by omega), Int.tdiv_eq_ediv_of_nonneg (by omega), wrap64_id (by omega) (by omega)]
  congr 1
/-- The bytes of a number, the low ones first. -/
def wbytes (x : Int) (n : Nat) : List Int := (List.range n).map fun (k : Nat) => (shr .i64 x (8 * (k : Int))) % 256
theorem wbytes_length (x : Int) (n : Nat) : (wbytes x n).length = n := by simp [wbytes]
theorem spec_WordPut_ev (x : Int) (n : Nat) (hn : n ≤ 8) : Ev (fun k => spec_WordPut.f k x (n : Int)) (wbytes x n) := by
  unfold spec_WordPut.f
  refine append_loop (fun k s i => spec_WordPut.l0 k x (n : Int) s i) (fun (i : Nat) => (shr .i64 x (8 * (i : Int))) % 256) n _ (fun i s hi hl hr => ?_) ?_
  · refine Ev.step (fun k => by rw [spec_WordPut.l0]) ?_
    refine Ev.pos (by omega) (Ev.here (l1In_some _ _ _) (Ev.pos (by simp; omega) ?_))
    rw [wrap64_id (x := 8 * (i : Int)) (by omega) (by omega), wrap64_id (x := (i : Int) + 1) (by omega) (by omega)]
    refine Ev.pos (by omega) (Ev.pos (by omega) ?_)
    simpa using hr
  · exact Ev.step (fun k => by rw [spec_WordPut.l0]) (by exact Ev.neg (by omega) (Ev.now _))
theorem impl_WordPut_ev (x : Int) (n : Nat) (hn : n ≤ 8) : Ev (fun k => impl_WordPut.f k x (n : Int)) (wbytes x n) := by
  unfold impl_WordPut.f
  refine Ev.here (within_some _ _ _) ?_
  by_cases h0 : n = 0
  · subst h0
    exact Ev.neg (by simp) (Ev.now _)
  refine Ev.pos (by simp; omega) ?_
  refine append_loop (fun k s i => impl_WordPut.l0 k x s (n : Int) i) (fun (i : Nat) => (shr .i64 x (8 * (i : Int))) % 256) n _ (fun i s hi hl hr => ?_) ?_
  · refine Ev.step (fun k => by rw [impl_WordPut.l0]) ?_
    rw [wrap64_id (x := 8 * (i : Int)) (by omega) (by omega), wrap64_id (x := (i : Int) + 1) (by omega) (by omega)]
    refine Ev.pos (by omega) (Ev.pos (by omega) (Ev.pos (by omega) ?_))
    simpa using hr
  · exact Ev.step (fun k => by rw [impl_WordPut.l0]) (by exact Ev.neg (by omega) (Ev.now _))
def AllI (d : List Int) : Prop := ∀ x ∈ d, -9223372036854775808 ≤ x ∧ x ≤ 9223372036854775807
theorem rd_I {d : List Int} (h : AllI d) (j : Int) : -9223372036854775808 ≤ rd d j ∧ rd d j ≤ 9223372036854775807 := by
  by_cases hj : j.toNat < d.length
  · rw [rd_eq hj]; exact h _ (List.getElem_mem hj)
  · unfold rd; rw [List.getD_eq_getElem?_getD, List.getElem?_eq_none (by omega)]; simp
/-- How many numbers alike follow from a place on. -/
def alkF (l : List Int) (a : Nat) : Nat → Nat → Nat
  | 0, n => n
  | f + 1, n => if a + n < l.length ∧ rd l ((a + n : Nat) : Int) = rd l (a : Int) then alkF l a f (n + 1) else n
theorem alkF_le (l : List Int) (a : Nat) : ∀ f n, a + n ≤ l.length → n ≤ alkF l a f n ∧ a + alkF l a f n ≤ l.length
  | 0, n, h => ⟨Nat.le_refl _, h⟩
  | f + 1, n, h => by
    unfold alkF
    split
    · rename_i hc
      have := alkF_le l a f (n + 1) (by omega)
      omega
    · exact ⟨Nat.le_refl _, h⟩
def alk (l : List Int) (a : Nat) : Nat := alkF l a (l.length - a) 0
theorem alk_le (l : List Int) (a : Nat) (h : a < l.length) : 1 ≤ alk l a ∧ a + alk l a ≤ l.length := by
  unfold alk
  obtain ⟨f, hf⟩ : ∃ f, l.length - a = f + 1 := ⟨l.length - a - 1, by omega⟩
  rw [hf]
  unfold alkF
  rw [if_pos ⟨by omega, by simp⟩]
  have := alkF_le l a f 1 (by omega)
  omega
theorem impl_alike_ev (l : List Int) (hl : l.length ≤ 1048576) (a : Nat) (h : a < l.length) : Ev (fun k => impl_alikeFrom.f k l (a : Int)) (alk l a : Int) := by
  unfold impl_alikeFrom.f alk
  have key : ∀ f n : Nat, a + n ≤ l.length → l.length - (a + n) ≤ f → Ev (fun k => impl_alikeFrom.l0 k l (a : Int) (n : Int)) (alkF l a f n : Int) := by
    intro f
    induction f with
    | zero =>
      intro n h1 h2
      refine Ev.step (fun k => by rw [impl_alikeFrom.l0]) ?_
      rw [wrap64_id (x := (a : Int) + n) (by omega) (by omega)]
      exact Ev.neg (by omega) (Ev.now _)
    | succ f ih =>
      intro n h1 h2
      refine Ev.step (fun k => by rw [impl_alikeFrom.l0]) ?_
      rw [wrap64_id (x := (a : Int) + n) (by omega) (by omega)]
      unfold alkF
      have e : ((a + n : Nat) : Int) = (a : Int) + n := by omega
      by_cases hlt : a + n < l.length
      · by_cases he : rd l ((a : Int) + n) = rd l (a : Int)
        · rw [if_pos ⟨hlt, by rw [e]; exact he⟩]
          refine Ev.pos (by omega) (Ev.pos (by omega) (Ev.pos (by omega) (Ev.pos (by omega) (Ev.pos he ?_))))
          rw [wrap64_id (x := (n : Int) + 1) (by omega) (by omega)]
          simpa using ih (n + 1) (by omega) (by omega)
        · rw [if_neg (by rw [e]; exact fun h => he h.2)]
          exact Ev.pos (by omega) (Ev.pos (by omega) (Ev.pos (by omega) (Ev.pos (by omega) (Ev.neg he (Ev.now _)))))
      · rw [if_neg (fun h => hlt h.1)]
        exact Ev.neg (by omega) (Ev.now _)
  simpa using key (l.length - a) 0 (by omega) (by omega)
theorem alike_same : ∀ (k : Nat) (l : List Int) (a i : Int), spec_l8Alike.l0 k l a i = impl_alikeFrom.l0 k l a i
  | 0, _, _, _ => by rw [spec_l8Alike.l0, impl_alikeFrom.l0]
  | k + 1, l, a, i => by rw [spec_l8Alike.l0, impl_alikeFrom.l0]; simp only [alike_same k]
theorem spec_alike_ev (l : List Int) (hl : l.length ≤ 1048576) (a : Nat) (h : a < l.length) : Ev (fun k => spec_l8Alike.f k l (a : Int)) (alk l a : Int) :=
  Ev.congr (fun k => by unfold spec_l8Alike.f impl_alikeFrom.f; exact alike_same k _ _ _) (impl_alike_ev l hl a h)
/-- How many groups are taken from a place on. -/
def grpF (l : List Int) (a : Nat) : Nat → Nat → Nat
  | 0, g => g
  | f + 1, g => if a + 8 * g < l.length ∧ alk l (a + 8 * g) < 8 then grpF l a f (g + 1) else g
theorem grpF_le (l : List Int) (a : Nat) : ∀ f g, 1 ≤ g → a + 8 * (g - 1) < l.length → 1 ≤ grpF l a f g ∧ a + 8 * (grpF l a f g - 1) < l.length
  | 0, g, h, h2 => ⟨h, h2⟩
  | f + 1, g, h, h2 => by
    unfold grpF
    split
    · exact grpF_le l a f (g + 1) (by omega) (by rw [Nat.add_sub_cancel]; omega)
    · exact ⟨h, h2⟩
theorem impl_groups_ev (l : List Int) (hl : l.length ≤ 1048576) (a : Nat) : ∀ f g : Nat, 1 ≤ g → a + 8 * (g - 1) < l.length → l.length - (a + 8 * g) ≤ f → Ev (fun k => impl_groupsFrom.l0 k l (a : Int) (g : Int)) (grpF l a f g : Int) := by
  intro f
  induction f with
  | zero =>
    intro g h1 h2 h3
    refine Ev.step (fun k => by rw [impl_groupsFrom.l0]) ?_
    rw [wrap64_id (x := 8 * (g : Int)) (by omega) (by omega), wrap64_id (x := (a : Int) + 8 * (g : Int)) (by omega) (by omega)]
    exact Ev.neg (by omega) (Ev.now _)
  | succ f ih =>
    intro g h1 h2 h3
    refine Ev.step (fun k => by rw [impl_groupsFrom.l0]) ?_
    rw [wrap64_id (x := 8 * (g : Int)) (by omega) (by omega), wrap64_id (x := (a : Int) + 8 * (g : Int)) (by omega) (by omega)]
    unfold grpF
    by_cases hlt : a + 8 * g < l.length
    · have e : (a : Int) + 8 * (g : Int) = ((a + 8 * g : Nat) : Int) := by omega
      refine Ev.pos (by omega) ?_
      rw [e]
      refine Ev.bind (impl_alike_ev l hl _ hlt) ?_
      by_cases h8 : alk l (a + 8 * g) < 8
      · rw [if_pos ⟨hlt, h8⟩]
        refine Ev.pos (by omega) ?_
        rw [wrap64_id (x := (g : Int) + 1) (by omega) (by omega)]
        simpa using ih (g + 1) (by omega) (by rw [Nat.add_sub_cancel]; omega) (by omega)
      · rw [if_neg (fun h => h8 h.2)]
        exact Ev.neg (by omega) (Ev.now _)
    · rw [if_neg (fun h => hlt h.1)]
      exact Ev.neg (by omega) (Ev.now _)
/-- The numbers of m places from a place on, zeros behind the end. -/
def padAt (l : List Int) (a j : Nat) : Int := if a + j < l.length then rd l ((a + j : Nat) : Int) else 0
def numsAt (l : List Int) (a m : Nat) : List Int := (List.range m).map fun (j : Nat) => padAt l a j
theorem numsAt_length (l : List Int) (a m : Nat) : (numsAt l a m).length = m := by simp [numsAt]
theorem numsAt_copy (l : List Int) (a m : Nat) : copyL (List.replicate m 0) (l.drop a) = numsAt l a m := by
  apply List.ext_getElem?
  intro j
  unfold copyL numsAt padAt
  simp only [List.length_replicate, List.length_drop]
  by_cases hm : j < m
  · by_cases hj : a + j < l.length
    · have e : rd l ((a : Int) + (j : Int)) = l[a + j] := by
        have h1 : (a : Int) + (j : Int) = ((a + j : Nat) : Int) := by omega
        rw [h1]; exact rd_eq (by rw [Int.toNat_natCast]; exact hj)
      rw [List.getElem?_append_left (by simp; omega), List.getElem?_take, if_pos hm, List.getElem?_drop, List.getElem?_eq_getElem hj]
      simp [hm, hj, e]
    · rw [List.getElem?_append_right (by simp; omega)]
      simp [hm, hj, List.getElem?_replicate]
      omega
  · rw [List.getElem?_eq_none (by simp; omega), List.getElem?_eq_none (by simp; omega)]
/-- Eight numbers more. -/
theorem spec_group_step (l : List Int) (hl : l.length ≤ 1048576) (w : Int) (out : List Int) (a g : Nat) (hg : a + 8 * g < l.length) (r)
    (h : Ev (fun k => spec_RunPack.l2 k l w out ((a + 8 * (g + 1) : Nat) : Int) (numsAt l a (8 * (g + 1)))) r) : Ev (fun k => spec_RunPack.l3 k l w out ((a + 8 * g : Nat) : Int) (numsAt l a (8 * g)) 0) r := by
  refine append_from (fun k s i => spec_RunPack.l3 k l w out ((a + 8 * g : Nat) : Int) s i) (fun (j : Nat) => padAt l a (8 * g + j)) 8 r (numsAt l a (8 * g)) (fun i s hi hs hr => ?_) ?_
  · rw [numsAt_length] at hs
    refine Ev.step (fun k => by rw [spec_RunPack.l3]) ?_
    rw [wrap64_id (x := ((a + 8 * g : Nat) : Int) + (i : Int)) (by omega) (by omega), wrap64_id (x := (i : Int) + 1) (by omega) (by omega)]
    have e : ((a + 8 * g : Nat) : Int) + (i : Int) = ((a + (8 * g + i) : Nat) : Int) := by omega
    rw [e]
    by_cases hlt : a + (8 * g + i) < l.length
    · refine Ev.pos (by omega) (Ev.pos (by omega) (Ev.pos (by omega) (Ev.pos (by omega) ?_)))
      simpa [padAt, hlt] using hr
    · refine Ev.pos (by omega) (Ev.neg (by omega) (Ev.pos (by omega) ?_))
      simpa [padAt, hlt] using hr
  · refine Ev.step (fun k => by rw [spec_RunPack.l3]) ?_
    refine Ev.neg (by decide) ?_
    rw [wrap64_id (x := ((a + 8 * g : Nat) : Int) + 8) (by omega) (by omega)]
    have e : ((a + 8 * g : Nat) : Int) + 8 = ((a + 8 * (g + 1) : Nat) : Int) := by omega
    have e2 : numsAt l a (8 * g) ++ (List.range 8).map (fun (j : Nat) => padAt l a (8 * g + j)) = numsAt l a (8 * (g + 1)) := by
      unfold numsAt
      rw [show 8 * (g + 1) = 8 * g + 8 by omega, List.range_add, List.map_append, List.map_map]; rfl
    rw [e, e2]; exact h
theorem spec_groups (l : List Int) (hl : l.length ≤ 1048576) (w : Int) (out : List Int) (a : Nat) (r) : ∀ f g : Nat, 1 ≤ g → a + 8 * (g - 1) < l.length → l.length - (a + 8 * g) ≤ f →
    Ev (fun k => spec_RunPack.j4 k l w out ((a + 8 * grpF l a f g : Nat) : Int) (numsAt l a (8 * grpF l a f g)) false) r → Ev (fun k => spec_RunPack.l2 k l w out ((a + 8 * g : Nat) : Int) (numsAt l a (8 * g))) r := by
  intro f
  induction f with
  | zero =>
    intro g h1 h2 h3 h
    refine Ev.step (fun k => by rw [spec_RunPack.l2]) ?_
    exact Ev.neg (by omega) h
  | succ f ih =>
    intro g h1 h2 h3 h
    refine Ev.step (fun k => by rw [spec_RunPack.l2]) ?_
    unfold grpF at h
    by_cases hlt : a + 8 * g < l.length
    · refine Ev.pos (by omega) (Ev.neg (by rw [numsAt_length]; omega) (Ev.bind (spec_alike_ev l hl _ hlt) ?_))
      by_cases h8 : alk l (a + 8 * g) < 8
      · rw [if_pos ⟨hlt, h8⟩] at h
        rw [decide_eq_true (show ((alk l (a + 8 * g) : Nat) : Int) < 8 by omega)]
        refine Ev.step (fun k => by rw [spec_RunPack.j4]) ?_
        exact Ev.pos rfl (spec_group_step l hl w out a g hlt r (ih (g + 1) (by omega) (by rw [Nat.add_sub_cancel]; omega) (by omega) h))
      · rw [if_neg (fun h => h8 h.2)] at h
        rw [decide_eq_false (show ¬ ((alk l (a + 8 * g) : Nat) : Int) < 8 by omega)]
        exact h
    · rw [if_neg (fun h => hlt h.1)] at h
      exact Ev.neg (by omega) h
theorem bitsR_le (l : List Int) (w : Nat) : (bitsR l w).length = (l.length * w + 7) / 8 := (bitsR_ok l w).1
theorem runpack_loop (l : List Int) (hl : l.length ≤ 2000) (w : Nat) (hw : w ≤ 24) : ∀ (n a : Nat) (out : List Int), l.length - a ≤ n → a ≤ l.length → out.length + 40 * (l.length - a) ≤ 1000000 → ∀ s : Nat, (s = a ∨ (a = l.length ∧ l.length ≤ s)) →
    ∃ r : List Int, Ev (fun k => spec_RunPack.l1 k l (w : Int) out (s : Int)) (r, true) ∧ Ev (fun k => impl_RunPack.l0 k l (w : Int) out (a : Int)) (r, true) ∧ r.length ≤ out.length + 40 * (l.length - a) := by
  intro n
  induction n with
  | zero =>
    intro a out hn ha ho s hs
    refine ⟨out, ?_, ?_, by omega⟩
    · exact Ev.step (fun k => by rw [spec_RunPack.l1]) (by exact Ev.neg (by omega) (Ev.now _))
    · exact Ev.step (fun k => by rw [impl_RunPack.l0]) (by exact Ev.neg (by omega) (Ev.now _))
  | succ n ih =>
    intro a out hn ha ho s hs
    by_cases hlt : a < l.length
    · obtain rfl : s = a := by omega
      have hk := alk_le l s hlt
      by_cases h8 : 8 ≤ alk l s
      · obtain ⟨u, u1, u2, u3, _⟩ := UvarPut_ev (2 * (alk l s : Int))
        have hb : (w + 7) / 8 ≤ 3 := by omega
        have w1 := spec_WordPut_ev (rd l (s : Int)) ((w + 7) / 8) (by omega)
        have w2 := impl_WordPut_ev (rd l (s : Int)) ((w + 7) / 8) (by omega)
        have wl := wbytes_length (rd l (s : Int)) ((w + 7) / 8)
        obtain ⟨r, r1, r2, r3⟩ := ih (s + alk l s) (out ++ u ++ wbytes (rd l (s : Int)) ((w + 7) / 8)) (by omega) (by omega) (by simp only [List.length_append]; omega) (s + alk l s) (.inl rfl)
        have hlen : (out ++ u).length ≤ out.length + 10 := by simp only [List.length_append]; omega
        have hlen2 : (out ++ u ++ wbytes (rd l (s : Int)) ((w + 7) / 8)).length ≤ out.length + 13 := by simp only [List.length_append]; omega
        refine ⟨r, ?_, ?_, by omega⟩
        · refine Ev.step (fun k => by rw [spec_RunPack.l1]) ?_
          refine Ev.pos (by omega) (Ev.bind (spec_alike_ev l (by omega) s hlt) (Ev.pos (by omega) ?_))
          rw [wrap64_id (x := 2 * ((alk l s : Nat) : Int)) (by omega) (by omega), wrap64_id (x := (s : Int) + ((alk l s : Nat) : Int)) (by omega) (by omega)]
          refine Ev.bind u1 (Ev.pos (by omega) (Ev.here rfl ?_))
          have e : (s : Int) + ((alk l s : Nat) : Int) = ((s + alk l s : Nat) : Int) := by omega
          rw [e]
          by_cases h0 : 0 < w
          · exact Ev.pos (by omega) (Ev.pos (by omega) (Ev.here (bitsSize_spec w hw) (Ev.bind w1 (Ev.pos (by omega) r1))))
          · obtain rfl : w = 0 := by omega
            refine Ev.neg (by omega) ?_
            have e0 : wbytes (rd l (s : Int)) ((0 + 7) / 8) = [] := rfl
            rw [e0, List.append_nil] at r1
            exact r1
        · refine Ev.step (fun k => by rw [impl_RunPack.l0]) ?_
          refine Ev.pos (by omega) (Ev.bind (impl_alike_ev l (by omega) s hlt) (Ev.pos (by omega) ?_))
          rw [wrap64_id (x := 2 * ((alk l s : Nat) : Int)) (by omega) (by omega), wrap64_id (x := (s : Int) + ((alk l s : Nat) : Int)) (by omega) (by omega)]
          have e : (s : Int) + ((alk l s : Nat) : Int) = ((s + alk l s : Nat) : Int) := by omega
          rw [e]
          exact Ev.bind u2 (Ev.pos (by omega) (Ev.here rfl (Ev.pos (by omega) (Ev.here (bitsSize_impl w hw) (Ev.bind w2 (Ev.pos (by omega) r2))))))
      · obtain ⟨G, hG⟩ : ∃ G, G = grpF l s (l.length - (s + 8 * 1)) 1 := ⟨_, rfl⟩
        have hgl := grpF_le l s (l.length - (s + 8 * 1)) 1 (by omega) (by omega)
        rw [← hG] at hgl
        obtain ⟨u, u1, u2, u3, _⟩ := UvarPut_ev (2 * (G : Int) + 1)
        have hnl := numsAt_length l s (8 * G)
        have b1 := spec_l8Bits_ev (numsAt l s (8 * G)) (by omega) w (by omega)
        have b2 := impl_packed_ev (numsAt l s (8 * G)) (by omega) w (by omega)
        have bl := bitsR_le (numsAt l s (8 * G)) w
        rw [hnl] at bl
        have hbl : (bitsR (numsAt l s (8 * G)) w).length ≤ 24 * G := by
          have h1 : 8 * G * w ≤ 8 * G * 24 := Nat.mul_le_mul_left _ hw
          omega
        have hlen : (out ++ u).length ≤ out.length + 10 := by simp only [List.length_append]; omega
        have hlen2 : (out ++ u ++ bitsR (numsAt l s (8 * G)) w).length ≤ out.length + 10 + 24 * G := by simp only [List.length_append]; omega
        obtain ⟨r, r1, r2, r3⟩ := ih (min (s + 8 * G) l.length) (out ++ u ++ bitsR (numsAt l s (8 * G)) w) (by omega) (by omega) (by omega) (s + 8 * G) (by omega)
        refine ⟨r, ?_, ?_, by omega⟩
        · refine Ev.step (fun k => by rw [spec_RunPack.l1]) ?_
          refine Ev.pos (by omega) (Ev.bind (spec_alike_ev l (by omega) s hlt) (Ev.neg (by omega) ?_))
          refine Ev.step (fun k => by rw [spec_RunPack.l2]) ?_
          refine Ev.pos (by omega) (Ev.pos rfl ?_)
          refine Ev.step (fun k => by rw [spec_RunPack.j4]) ?_
          refine Ev.pos rfl ?_
          have h1 := spec_group_step l (by omega) (w : Int) out s 0 (by omega) (r, true) (spec_groups l (by omega) (w : Int) out s (r, true) (l.length - (s + 8 * 1)) 1 (by omega) (by omega) (by omega) (by
            rw [← hG]
            refine Ev.step (fun k => by rw [spec_RunPack.j4]) ?_
            refine Ev.neg (by decide) ?_
            rw [hnl]
            have e1 : ((8 * G : Nat) : Int) / 8 = (G : Int) := by omega
            rw [e1, wrap64_id (x := (G : Int)) (by omega) (by omega), wrap64_id (x := 2 * (G : Int)) (by omega) (by omega), wrap64_id (x := 2 * (G : Int) + 1) (by omega) (by omega)]
            exact Ev.bind u1 (Ev.pos (by omega) (Ev.here rfl (Ev.bind b1 (Ev.pos (by omega) r1))))))
          simpa [numsAt] using h1
        · refine Ev.step (fun k => by rw [impl_RunPack.l0]) ?_
          refine Ev.pos (by omega) (Ev.bind (impl_alike_ev l (by omega) s hlt) (Ev.neg (by omega) ?_))
          have hg := impl_groups_ev l (by omega) s (l.length - (s + 8 * 1)) 1 (by omega) (by omega) (by omega)
          rw [← hG] at hg
          refine Ev.bind (a := (G : Int)) (by unfold impl_groupsFrom.f; simpa using hg) ?_
          rw [wrap64_id (x := 8 * (G : Int)) (by omega) (by omega), wrap64_id (x := 2 * (G : Int)) (by omega) (by omega), wrap64_id (x := 2 * (G : Int) + 1) (by omega) (by omega), wrap64_id (x := (s : Int) + 8 * (G : Int)) (by omega) (by omega)]
          have e1 : (8 * (G : Int)).toNat = 8 * G := by omega
          have e2 : mn ((s : Int) + 8 * (G : Int)) (l.length : Int) = ((min (s + 8 * G) l.length : Nat) : Int) := by unfold mn; split <;> omega
          rw [e1, e2, Int.toNat_natCast, numsAt_copy]
          exact Ev.pos (by omega) (Ev.pos (by omega) (Ev.pos (by omega) (Ev.pos (by omega) (Ev.bind u2 (Ev.pos (by omega) (Ev.here rfl (Ev.bind b2 (Ev.pos (by omega) r2))))))))
    · refine ⟨out, ?_, ?_, by omega⟩
      · exact Ev.step (fun k => by rw [spec_RunPack.l1]) (by exact Ev.neg (by omega) (Ev.now _))
      · exact Ev.step (fun k => by rw [impl_RunPack.l0]) (by exact Ev.neg (by omega) (Ev.now _))
/-- A number takes at most w bits. -/
theorem blF_le_iff : ∀ (f n w : Nat), n < 2 ^ f → (blF f n ≤ w ↔ n < 2 ^ w)
  | 0, n, w, h => by
    obtain rfl : n = 0 := by simpa using h
    exact ⟨fun _ => Nat.two_pow_pos w, fun _ => by simp [blF]⟩
  | f + 1, n, w, h => by
    unfold blF
    by_cases h0 : n = 0
    · rw [if_pos h0, h0]
      exact ⟨fun _ => Nat.two_pow_pos w, fun _ => Nat.zero_le _⟩
    · rw [if_neg h0]
      cases w with
      | zero => constructor
                · intro h; omega
                · intro h; simp at h; omega
      | succ w =>
        have := blF_le_iff f (n / 2) w (by rw [Nat.pow_succ] at h; omega)
        rw [Nat.pow_succ]
        constructor
        · intro h2; have := this.1 (by omega); omega
        · intro h2; have := this.2 (by omega); omega
theorem widB_le (x : Int) (h0 : 0 ≤ x) (h1 : x ≤ 9223372036854775807) (w : Nat) (hw : w ≤ 62) : widB x ≤ (w : Int) ↔ shr .i64 x (w : Int) = 0 := by
  obtain ⟨n, rfl⟩ := Int.eq_ofNat_of_zero_le h0
  have e : ((n : Int) % 18446744073709551616).toNat = n := by omega
  have hk := blF_le_iff 64 n w (by omega)
  unfold widB shr
  rw [e]
  have e2 : min ((w : Int).toNat) IntKind.i64.bits = w := by
    have : IntKind.i64.bits = 64 := rfl
    rw [this, Int.toNat_natCast]; omega
  rw [e2]
  have e3 : ((n : Int) / 2 ^ w) = ((n / 2 ^ w : Nat) : Int) := by push_cast; rfl
  rw [e3]
  have hp := Nat.two_pow_pos w
  constructor
  · intro h
    have : n < 2 ^ w := hk.1 (by omega)
    rw [Nat.div_eq_of_lt this]; rfl
  · intro h
    have h2 : n / 2 ^ w = 0 := by omega
    have : n < 2 ^ w := by
      rcases Nat.div_eq_zero_iff.1 h2 with h3 | h3
      · omega
      · exact h3
    have := hk.2 this
    omega
def bitsIn (w : Nat) (x : Int) : Bool := decide (0 ≤ x) && decide (shr .i64 x (w : Int) = 0)
theorem RunPack_both (l : List Int) (hI : AllI l) (hl : l.length ≤ 1048576) (w : Nat) (hw : w ≤ 24) : ∃ r : List Int × Bool, Ev (fun k => spec_RunPack.f k l (w : Int)) r ∧ Ev (fun k => impl_RunPack.f k l (w : Int)) r ∧ r.1.length ≤ 100000 := by
  have hsw : spec_l8Width.f (w : Int) = some true := by
    unfold spec_l8Width.f
    rw [l1In_some, decide_eq_true (by omega)]; rfl
  unfold spec_RunPack.f impl_RunPack.f impl_BitsPack.f
  have bad : Ev (fun k => impl_RunPack.j0 k l (w : Int) true) ([], false) := Ev.step (fun k => by rw [impl_RunPack.j0]) (by exact Ev.pos rfl (Ev.now _))
  by_cases hb : (l.length : Int) > 2000
  · refine ⟨([], false), ?_, ?_, by simp⟩
    · refine Ev.here rfl (Ev.here hsw (Ev.pos rfl ?_))
      rw [decide_eq_true hb]
      exact Ev.step (fun k => by rw [spec_RunPack.j0]) (by exact Ev.pos rfl (Ev.now _))
    · refine Ev.bind (Ev.pos hb (Ev.step (fun k => by rw [impl_BitsPack.j0]) (by exact Ev.pos rfl (Ev.now _)))) ?_
      exact Ev.neg (by decide) bad
  have hl2 : l.length ≤ 2000 := by omega
  have sh := all_loop (fun k i => spec_RunPack.l0 k l (w : Int) [] i) (fun i => bitsIn w (rd l (i : Int))) l.length ([], false)
  have ih := all_loop (fun k i => impl_BitsPack.l0 k l (w : Int) l (l.length : Int) i) (fun i => bitsIn w (rd l (i : Int))) l.length ([], false) (bitsR l w, true)
    (fun i r hi hp hr => by
      simp only [bitsIn, Bool.and_eq_true, decide_eq_true_eq] at hp
      have hI2 := rd_I hI (i : Int)
      have hle := (widB_le _ hp.1 hI2.2 w (by omega)).2 hp.2
      refine Ev.step (fun k => by rw [impl_BitsPack.l0]) ?_
      have hp1 := hp.1
      refine Ev.pos (by omega) (Ev.pos (by omega) (Ev.pos (by omega) (Ev.neg (by omega) (Ev.bind (impl_widthOf_ev _) (Ev.neg (by omega) ?_)))))
      rw [wrap64_id (x := (i : Int) + 1) (by omega) (by omega)]
      simpa using hr)
    (fun i hi hp => by
      refine Ev.step (fun k => by rw [impl_BitsPack.l0]) ?_
      refine Ev.pos (by omega) (Ev.pos (by omega) (Ev.pos (by omega) ?_))
      have hI2 := rd_I hI (i : Int)
      by_cases h0 : rd l (i : Int) < 0
      · exact Ev.pos h0 (Ev.now _)
      · refine Ev.neg h0 (Ev.bind (impl_widthOf_ev _) (Ev.pos ?_ (Ev.now _)))
        have h1 : ¬ shr .i64 (rd l (i : Int)) (w : Int) = 0 := by
          intro h; rw [bitsIn, decide_eq_true (by omega), decide_eq_true h] at hp; cases hp
        have h2 : ¬ widB (rd l (i : Int)) ≤ (w : Int) := fun h => h1 ((widB_le _ (by omega) hI2.2 w (by omega)).1 h)
        omega)
    (by
      refine Ev.step (fun k => by rw [impl_BitsPack.l0]) ?_
      exact Ev.neg (by omega) (Ev.bind (impl_packed_ev l (by omega) w (by omega)) (Ev.now _)))
  obtain ⟨r, r1, r2, r3⟩ := runpack_loop l hl2 w hw l.length 0 [] (by omega) (by omega) (by simp; omega) 0 (.inl rfl)
  have sh2 := sh (r, true)
    (fun i q hi hp hr => by
      simp only [bitsIn, Bool.and_eq_true, decide_eq_true_eq] at hp
      refine Ev.step (fun k => by rw [spec_RunPack.l0]) ?_
      refine Ev.pos (by omega) (Ev.pos (by omega) (Ev.neg (by omega) (Ev.pos (by omega) (Ev.pos hp.2 ?_))))
      rw [wrap64_id (x := (i : Int) + 1) (by omega) (by omega)]
      simpa using hr)
    (fun i hi hp => by
      refine Ev.step (fun k => by rw [spec_RunPack.l0]) ?_
      refine Ev.pos (by omega) (Ev.pos (by omega) ?_)
      by_cases h0 : rd l (i : Int) < 0
      · exact Ev.pos h0 (Ev.now _)
      · refine Ev.neg h0 (Ev.pos (by omega) (Ev.neg ?_ (Ev.now _)))
        intro h; rw [bitsIn, decide_eq_true (by omega), decide_eq_true h] at hp; cases hp)
    (by
      refine Ev.step (fun k => by rw [spec_RunPack.l0]) ?_
      refine Ev.neg (by omega) ?_
      simpa using r1)
  cases hA : (List.range l.length).all (fun i => bitsIn w (rd l (i : Int))) with
  | false =>
    rw [hA] at sh2 ih
    refine ⟨([], false), ?_, ?_, by simp⟩
    · refine Ev.here rfl (Ev.here hsw (Ev.pos rfl ?_))
      rw [decide_eq_false hb]
      exact Ev.step (fun k => by rw [spec_RunPack.j0]) (by exact Ev.neg (by decide) (by simpa using sh2))
    · refine Ev.bind (a := ([], false)) (Ev.neg hb (Ev.here (within_some _ _ _) ?_)) (Ev.neg (by decide) bad)
      rw [decide_eq_true (show 0 ≤ (w : Int) ∧ (w : Int) ≤ 62 by omega)]
      exact Ev.step (fun k => by rw [impl_BitsPack.j0]) (by exact Ev.neg (by decide) (by simpa using ih))
  | true =>
    rw [hA] at sh2 ih
    refine ⟨(r, true), ?_, ?_, by simp at r3; simp; omega⟩
    · refine Ev.here rfl (Ev.here hsw (Ev.pos rfl ?_))
      rw [decide_eq_false hb]
      exact Ev.step (fun k => by rw [spec_RunPack.j0]) (by exact Ev.neg (by decide) (by simpa using sh2))
    · refine Ev.bind (a := (bitsR l w, true)) (Ev.neg hb (Ev.here (within_some _ _ _) ?_)) (Ev.pos rfl ?_)
      · rw [decide_eq_true (show 0 ≤ (w : Int) ∧ (w : Int) ≤ 62 by omega)]
        exact Ev.step (fun k => by rw [impl_BitsPack.j0]) (by exact Ev.neg (by decide) (by simpa using ih))
      · rw [decide_eq_false (show ¬ (w : Int) > 24 by omega)]
        exact Ev.step (fun k => by rw [impl_RunPack.j0]) (by exact Ev.neg (by decide) (by simpa using r2))
theorem BitsWidth_both (x : Nat) (hx : x ≤ 2000) : ∃ w : Nat, w ≤ 11 ∧ Ev (fun k => spec_BitsWidth.f k (x : Int)) (w : Int) ∧ Ev (fun k => impl_BitsWidth.f k (x : Int)) (w : Int) := by
  have e : ((x : Int) % 18446744073709551616).toNat = x := by omega
  have hb : blF 64 x = blF 11 x := blF_more 11 x (by omega) 53
  have hle := blF_le 11 x
  have hw : widB (x : Int) = (blF 11 x : Int) := by unfold widB; rw [e, hb]
  refine ⟨blF 11 x, hle, ?_, ?_⟩
  · unfold spec_BitsWidth.f
    have key : ∀ (f n w : Nat), n < 2 ^ f → f ≤ 11 → w + f ≤ 11 → Ev (fun k => spec_BitsWidth.l0 k (n : Int) (w : Int)) ((w + blF f n : Nat) : Int) := by
      intro f
      induction f with
      | zero =>
        intro n w hn _ _
        obtain rfl : n = 0 := by simpa using hn
        refine Ev.step (fun k => by rw [spec_BitsWidth.l0]) ?_
        exact Ev.neg (by omega) (Ev.neg (by omega) (Ev.const (by simp [blF])))
      | succ f ih =>
        intro n w hn hf hwf
        have hpow : (2 : Nat) ^ (f + 1) ≤ 2 ^ 11 := Nat.pow_le_pow_right (by decide) hf
        refine Ev.step (fun k => by rw [spec_BitsWidth.l0]) ?_
        by_cases h0 : n = 0
        · subst h0
          exact Ev.neg (by omega) (Ev.neg (by omega) (Ev.const (by simp [blF])))
        · refine Ev.pos (by omega) ?_
          rw [wrap64_id (x := (w : Int) + 1) (by omega) (by omega), Int.tdiv_eq_ediv_of_nonneg (by omega), wrap64_id (x := (n : Int) / 2) (by omega) (by omega)]
          have h1 := ih (n / 2) (w + 1) (by rw [Nat.pow_succ] at hn; omega) (by omega) (by omega)
          have e1 : blF (f + 1) n = blF f (n / 2) + 1 := by rw [blF, if_neg h0]
          have e2 : ((n / 2 : Nat) : Int) = (n : Int) / 2 := by omega
          rw [e2] at h1
          refine Ev.cast (by simpa using h1) ?_
          rw [e1]; push_cast; omega
    refine Ev.neg (by omega) ?_
    simpa using key 11 x 0 (by omega) (by omega) (by omega)
  · unfold impl_BitsWidth.f
    have h1 := impl_widthOf_ev (x : Int)
    rw [hw] at h1
    exact Ev.neg (by omega) (Ev.bind h1 (Ev.neg (by omega) (Ev.bind h1 (Ev.now _))))
theorem PlacesPack_both (l : List Int) (hI : AllI l) (hl : l.length ≤ 1048576) (many : Int) : ∃ r : List Int × Bool, Ev (fun k => spec_PlacesPack.f k l many) r ∧ Ev (fun k => impl_PlacesPack.f k l many) r ∧ r.1.length ≤ 200000 := by
  unfold spec_PlacesPack.f impl_PlacesPack.f
  rcases Decidable.em (0 ≤ many ∧ many ≤ 2000) with hm | hm
  case inr =>
    refine ⟨([], false), ?_, ?_, by simp⟩
    · exact Ev.here (l1In_some _ _ _) (Ev.neg (by rw [decide_eq_false hm]; decide) (Ev.now _))
    · exact Ev.here (within_some _ _ _) (Ev.neg (by rw [decide_eq_false hm]; decide) (Ev.now _))
  have hw1 : wrap64 (many - 1) = many - 1 := wrap64_id (by omega) (by omega)
  obtain ⟨w, hw, b1, b2⟩ := BitsWidth_both (many - 1).toNat (by omega)
  obtain ⟨r, r1, r2, r3⟩ := RunPack_both l hI hl w (by omega)
  have hx : mx (many - 1) 0 = (((many - 1).toNat : Nat) : Int) := by unfold mx; split <;> omega
  have hs : spec_l1Max.f (many - 1) 0 = some (((many - 1).toNat : Nat) : Int) := by
    unfold spec_l1Max.f; split <;> (congr 1; omega)
  obtain ⟨q, q1, q2⟩ : ∃ q : List Int × Bool, q = (if r.2 = true then ([(w : Int) % 256] ++ r.1, true) else ([], false)) ∧ q.1.length ≤ 200000 := by
    refine ⟨_, rfl, ?_⟩
    split
    · simp; omega
    · simp
  have fin1 : Ev (fun k => (spec_RunPack.f k l (w : Int)).bind fun bt => if bt.2 = true then ((some (([(w : Int) % 256] : List Int) : List Int)).bind fun y => (if y.length + bt.1.length < 140737488355328 then (some ((y ++ bt.1), true)) else (none))) else (some (([] : List Int), false))) q := by
    refine Ev.bind r1 ?_
    by_cases h : r.2 = true
    · have e : q = ([(w : Int) % 256] ++ r.1, true) := by rw [q1, if_pos h]
      rw [e]
      exact Ev.pos h (Ev.here rfl (Ev.pos (by simp; omega) (Ev.now _)))
    · have e : q = ([], false) := by rw [q1, if_neg h]
      rw [e]
      exact Ev.neg h (Ev.now _)
  have fin2 : Ev (fun k => (impl_RunPack.f k l (w : Int)).bind fun bt => if bt.2 = true then ((some (([(w : Int) % 256] : List Int) : List Int)).bind fun y => (if y.length + bt.1.length < 140737488355328 then (some ((y ++ bt.1), true)) else (none))) else (some (([] : List Int), false))) q := by
    refine Ev.bind r2 ?_
    by_cases h : r.2 = true
    · have e : q = ([(w : Int) % 256] ++ r.1, true) := by rw [q1, if_pos h]
      rw [e]
      exact Ev.pos h (Ev.here rfl (Ev.pos (by simp; omega) (Ev.now _)))
    · have e : q = ([], false) := by rw [q1, if_neg h]
      rw [e]
      exact Ev.neg h (Ev.now _)
  have a1 := all_loop (fun k i => spec_PlacesPack.l0 k l many i) (fun i => decide (0 ≤ rd l (i : Int) ∧ rd l (i : Int) ≤ many - 1)) l.length ([], false) q
    (fun i r hi hp hr => by
      refine Ev.step (fun k => by rw [spec_PlacesPack.l0]) ?_
      rw [hw1]
      refine Ev.pos (by omega) (Ev.pos (by omega) (Ev.here (l1In_some _ _ _) (Ev.pos hp ?_)))
      rw [wrap64_id (x := (i : Int) + 1) (by omega) (by omega)]
      simpa using hr)
    (fun i hi hp => by
      refine Ev.step (fun k => by rw [spec_PlacesPack.l0]) ?_
      rw [hw1]
      exact Ev.pos (by omega) (Ev.pos (by omega) (Ev.here (l1In_some _ _ _) (Ev.neg (by rw [hp]; decide) (Ev.now _)))))
    (by
      refine Ev.step (fun k => by rw [spec_PlacesPack.l0]) ?_
      rw [hw1]
      exact Ev.neg (by omega) (Ev.here hs (Ev.bind b1 fin1)))
  have a2 := all_loop (fun k i => impl_PlacesPack.l0 k l many l (l.length : Int) i) (fun i => decide (0 ≤ rd l (i : Int) ∧ rd l (i : Int) ≤ many - 1)) l.length ([], false) q
    (fun i r hi hp hr => by
      refine Ev.step (fun k => by rw [impl_PlacesPack.l0]) ?_
      rw [hw1]
      refine Ev.pos (by omega) (Ev.pos (by omega) (Ev.pos (by omega) (Ev.here (within_some _ _ _) (Ev.pos hp ?_))))
      rw [wrap64_id (x := (i : Int) + 1) (by omega) (by omega)]
      simpa using hr)
    (fun i hi hp => by
      refine Ev.step (fun k => by rw [impl_PlacesPack.l0]) ?_
      rw [hw1]
      exact Ev.pos (by omega) (Ev.pos (by omega) (Ev.pos (by omega) (Ev.here (within_some _ _ _) (Ev.neg (by rw [hp]; decide) (Ev.now _))))))
    (by
      refine Ev.step (fun k => by rw [impl_PlacesPack.l0]) ?_
      rw [hw1, hx]
      exact Ev.neg (by omega) (Ev.bind b2 fin2))
  refine ⟨_, Ev.here (l1In_some _ _ _) (Ev.pos (decide_eq_true hm) a1), Ev.here (within_some _ _ _) (Ev.pos (decide_eq_true hm) a2), ?_⟩
  split
  · exact q2
  · simp
theorem FnExactPlacesPack : ∀ (x0 : List (Int)) (x1 : Int), (x0.length ≤ maxLen ∧ ∀ y ∈ x0, (Lit.int .i64 y).wf = true) → ((Lit.int .i64 x1).wf = true) → ∃ k, laws_FnExactPlacesPack.f k x0 x1 = some true := by
  intro l many hx _
  refine Ev.rounds ?_
  unfold laws_FnExactPlacesPack.f
  by_cases hb : (l.length : Int) > 1048576
  · exact Ev.pos hb (Ev.now _)
  refine Ev.neg hb ?_
  have t1 := toIntS_ev l (by omega)
  obtain ⟨r, es, ei, hr⟩ := PlacesPack_both l (fun x hx' => i64_of (hx.2 x hx')) (by omega) many
  have q1 := eqIntS_ev l (by omega)
  have q3 := eqByteS_ev r.1 (by omega)
  obtain ⟨m1, y1, p1, k1, _⟩ := markIntS_evm l 1 (by omega) (by omega)
  obtain ⟨m3, y3, p3, k3, k4⟩ := markByteS_ev r.1 1 (by omega) (by omega)
  repeat' (first
    | with_reducible exact Ev.now _
    | with_reducible refine Ev.bind t1 ?_ | with_reducible refine Ev.bind es ?_ | with_reducible refine Ev.bind ei ?_
    | with_reducible refine Ev.bind q1 ?_ | with_reducible refine Ev.bind q3 ?_
    | with_reducible refine Ev.bind k1 ?_ | with_reducible refine Ev.bind k3 ?_ | with_reducible refine Ev.bind k4 ?_
    | refine Ev.pos (by first | rfl | omega) ?_
    | refine Ev.neg (by first | omega | decide | simp) ?_
    | refine Ev.step (fun k => by rw [laws_FnExactPlacesPack.j0]) ?_
    | refine Ev.step (fun k => by rw [laws_FnExactPlacesPack.j1]) ?_
    | refine Ev.step (fun k => by rw [laws_FnExactPlacesPack.j2]) ?_)
end Go.Proofs.Ytnfamhegbfjggaa.Pure
