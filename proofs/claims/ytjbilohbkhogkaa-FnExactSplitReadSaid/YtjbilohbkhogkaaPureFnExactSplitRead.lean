/- The pure statement of FnExactSplitRead: the printed functions answer as the law says, for all arguments. No condition. -/
import Derived.Test.YtjbilohbkhogkaaCore
import Derived.Test.YtjbilohbkhogkaaPFnExactSplitReadx
import Derived.Test.YtjbilohbkhogkaaArgFnExactSplitRead
namespace Go.Proofs.Ytjbilohbkhogkaa.Pure
open Go.RowKit Go.Proofs.Ytjbilohbkhogkaa.PFnExactSplitRead Go.Proofs.Ytjbilohbkhogkaa.Core Go.Proofs.YtjbilohbkhogkaaW.PrintWords Go.Proofs.YtjbilohbkhogkaaW.PrintLast Go.Proofs.YtjbilohbkhogkaaW.PrintMore Go.Proofs.Ytjbilohbkhogkaa.AFnExactSplitRead
set_option linter.unusedVariables false
set_option linter.unusedSimpArgs false
theorem toByteS_ev (l : List Int) (hl : l.length ≤ 281474976710656) : Ev (fun k => laws_toByteS.f k l) l := by
  unfold laws_toByteS.f
  refine Ev.pos (by omega) (Ev.pos (by omega) ?_)
  have := copy_loop (fun k out i => laws_toByteS.l0 k l out i) l id (fun out i r h ho hr => ?_) (fun out ho => ?_) (List.replicate ((l.length : Int)).toNat 0) (by simp)
  · simpa using this
  · refine Ev.step (fun k => by rw [laws_toByteS.l0]) ?_
    refine Ev.pos (by omega) (Ev.pos (by omega) (Ev.pos (by omega) ?_))
    rw [wrap64_id (by omega) (by omega), rd_eq (by simpa using h)]
    simpa using hr
  · exact Ev.step (fun k => by rw [laws_toByteS.l0]) (by exact Ev.neg (by omega) (Ev.now _))
theorem eqByteS_ev (l : List Int) (hl : l.length ≤ 9223372036854775806) : Ev (fun k => laws_eqByteS.f k l l) true := by
  unfold laws_eqByteS.f
  refine Ev.pos rfl ?_
  refine same_loop (fun k i => laws_eqByteS.l0 k l l i) l.length (fun i r h hr => ?_) ?_
  · refine Ev.step (fun k => by rw [laws_eqByteS.l0]) ?_
    refine Ev.pos (by omega) (Ev.pos (by omega) (Ev.pos (by omega) (Ev.pos rfl ?_)))
    rw [wrap64_id (by omega) (by omega)]
    simpa using hr
  · exact Ev.step (fun k => by rw [laws_eqByteS.l0]) (by exact Ev.neg (by omega) (Ev.now _))
theorem markByteS_evm (l : List Int) (c : Int) (hc : 0 ≤ c) (hl : c + l.length ≤ 9223372036854775806) : ∃ m ys, m = c + l.length ∧ Ev (fun k => laws_markByteS.f k l c) (m, ys) ∧ True := by
  have key : ∀ (d i : Nat) (xs : List Int) (c : Int), 0 ≤ c → i + d = xs.length → c + d ≤ 9223372036854775806 → xs.length ≤ 9223372036854775806 → ∃ ys, Ev (fun k => laws_markByteS.l0 k xs c (i : Int)) (c + d, ys) := by
    intro d
    induction d with
    | zero => intro i xs c h0 hi hc hx; exact ⟨xs, Ev.cast (Ev.step (fun k => by rw [laws_markByteS.l0]) (by exact Ev.neg (by omega) (Ev.now _))) (by simp)⟩
    | succ d ih =>
      intro i xs c h0 hi hc hx
      obtain ⟨ys, hy⟩ := ih (i + 1) (xs.set i (c % 256)) (c + 1) (by omega) (by simp; omega) (by omega) (by simpa using hx)
      refine ⟨ys, Ev.step (fun k => by rw [laws_markByteS.l0]) (Ev.pos (by omega) (Ev.pos (by omega) ?_))⟩
      rw [wrap64_id (x := c + 1) (by omega) (by omega), wrap64_id (x := (i : Int) + 1) (by omega) (by omega)]
      have e : c + 1 + (d : Int) = c + ((d + 1 : Nat) : Int) := by omega
      rw [e] at hy
      simpa using hy
  obtain ⟨ys, hy⟩ := key l.length 0 l c hc (by omega) hl (by omega)
  exact ⟨_, ys, rfl, hy, trivial⟩
theorem eqVal_ev (a : S101) : laws_eqVal.f a.f0 a.f1 a.f0 a.f1 = some true := by
  unfold laws_eqVal.f
  simp
theorem eqValS_ev (l : List S101) (hl : l.length ≤ 9223372036854775806) : Ev (fun k => laws_eqValS.f k l l) true := by
  unfold laws_eqValS.f
  refine Ev.pos rfl ?_
  refine same_loop (fun k i => laws_eqValS.l0 k l l i) l.length (fun i r h hr => ?_) ?_
  · refine Ev.step (fun k => by rw [laws_eqValS.l0]) ?_
    refine Ev.pos (by omega) (Ev.pos (by omega) (Ev.pos (by omega) (Ev.here (eqVal_ev _) (Ev.pos rfl ?_))))
    rw [wrap64_id (by omega) (by omega)]
    simpa using hr
  · exact Ev.step (fun k => by rw [laws_eqValS.l0]) (by exact Ev.neg (by omega) (Ev.now _))
theorem markText_l0_ev : ∀ (n : Nat) (c : Int) (out : ByteArray), 0 ≤ c → c < 10 ^ n → c ≤ 9223372036854775807 → out.size + n + 1 ≤ 1000 → ∃ t, Ev (fun k => laws_markText.l0 k c out) t := by
  intro n
  induction n with
  | zero =>
    intro c out h0 h1 hb hs
    obtain rfl : c = 0 := by simp at h1; omega
    exact ⟨_, Ev.step (fun k => by rw [laws_markText.l0]) (by exact Ev.neg (by omega) (Ev.pos (by omega) (Ev.now _)))⟩
  | succ n ih =>
    intro c out h0 h1 hb hs
    by_cases hc : c > 0
    · have h2 : c / 10 < 10 ^ n := by
        rw [Int.pow_succ] at h1
        exact Int.ediv_lt_of_lt_mul (by omega) h1
      obtain ⟨t, ht⟩ := ih (c / 10) (strOfNums [(wrap64 (48 + (Int.tmod c 10))) % 256] ++ out) (by omega) h2 (by omega) (by
        rw [ByteArray.size_append, strOfNums_size]; simp; omega)
      refine ⟨t, Ev.step (fun k => by rw [laws_markText.l0]) ?_⟩
      refine Ev.pos hc (Ev.here rfl (Ev.pos (by rw [strOfNums_size]; simp; omega) ?_))
      rw [Int.tdiv_eq_ediv_of_nonneg h0, wrap64_id (x := c / 10) (by omega) (by omega)]
      exact ht
    · obtain rfl : c = 0 := by omega
      exact ⟨_, Ev.step (fun k => by rw [laws_markText.l0]) (by exact Ev.neg (by omega) (Ev.pos (by omega) (Ev.now _)))⟩
theorem markText_ev (c : Int) (h : c ≤ 9223372036854775807) : ∃ t, Ev (fun k => laws_markText.f k c) t := by
  unfold laws_markText.f
  by_cases hc : c ≤ 0
  · exact ⟨_, Ev.pos hc (Ev.now _)⟩
  · obtain ⟨t, ht⟩ := markText_l0_ev 19 c (⟨#[]⟩ : ByteArray) (by omega) (by omega) h (by decide)
    exact ⟨t, Ev.neg hc ht⟩
noncomputable def mtxt (c : Int) : ByteArray := if h : c ≤ 9223372036854775807 then (markText_ev c h).choose else ByteArray.empty
theorem mtxt_ev {c : Int} (h : c ≤ 9223372036854775807) : Ev (fun k => laws_markText.f k c) (mtxt c) := by
  unfold mtxt
  rw [dif_pos h]
  exact (markText_ev c h).choose_spec
theorem markValS_ev (l : List S101) (c : Int) (hc : 0 ≤ c) (hl : c + 2 * l.length ≤ 9223372036854775806) : ∃ m ys, m = c + 2 * l.length ∧ Ev (fun k => laws_markValS.f k l c) (m, ys) ∧ Ev (fun k => laws_heldValS.f k ys c) m := by
  obtain ⟨m, ys, _, hm, h1, h2⟩ := marks_held 2 9223372036854775807 (by omega) (fun c (_ : S101) => (⟨c, mtxt (c + 1)⟩ : S101)) (fun k xs c i => laws_markValS.l0 k xs c i) (fun k xs c i => laws_heldValS.l0 k xs c i)
    (fun xs c i r h hb h0 hB hr => by
      refine Ev.step (fun k => by rw [laws_markValS.l0]) ?_
      refine Ev.pos (by omega) (Ev.pos (by omega) ?_)
      rw [wrap64_id (x := c + 1) (by omega) (by omega), wrap64_id (x := c + 1 + 1) (by omega) (by omega), wrap64_id (x := (i : Int) + 1) (by omega) (by omega)]
      refine Ev.here rfl ?_
      refine Ev.bind (mtxt_ev (by omega)) ?_
      have e : c + 1 + 1 = c + 2 := by omega
      simpa [rd_T101, h, e] using hr)
    (fun xs c => Ev.step (fun k => by rw [laws_markValS.l0]) (by exact Ev.neg (by omega) (Ev.now _)))
    (fun xs c i r z h hb h0 hB hz hr => by
      have e : rd_T101 xs (i : Int) = xs[i] := getD_eq (by simpa using h)
      refine Ev.step (fun k => by rw [laws_heldValS.l0]) ?_
      refine Ev.pos (by omega) (Ev.pos (by omega) ?_)
      rw [wrap64_id (x := c + 1) (by omega) (by omega), wrap64_id (x := c + 1 + 1) (by omega) (by omega), wrap64_id (x := (i : Int) + 1) (by omega) (by omega)]
      refine Ev.pos (by rw [e, hz]) ?_
      refine Ev.bind (mtxt_ev (by omega)) (Ev.pos (by rw [e, hz]) ?_)
      have e : c + 1 + 1 = c + 2 := by omega
      simpa [e] using hr)
    (fun xs c => Ev.step (fun k => by rw [laws_heldValS.l0]) (by exact Ev.neg (by omega) (Ev.now _)))
    l c hc (by omega)
  exact ⟨m, ys, by omega, h1, h2⟩
/-- Byte number kk of value number i, put into x. -/
def sstep (b : List Int) (at_ many i : Int) (x : Int) (kk : Nat) : Int :=
  Go.bits .or .i64 x (shl .i64 (wrap64 (rd b (wrap64 ((wrap64 (at_ + (wrap64 ((kk : Int) * many)))) + i)))) (wrap64 (8 * (kk : Int))))
def sval (b : List Int) (at_ many : Int) (wide : Nat) (i : Int) : Int := (List.range wide).foldl (fun x kk => sstep b at_ many i x kk) 0
def sgn (wide : Nat) (x : Int) : Int := if (wide : Int) = 4 then wrap64 (wrap32 x) else x
theorem rd_byte (b : List Int) (hb : ∀ x ∈ b, 0 ≤ x ∧ x ≤ 255) (j : Int) : 0 ≤ rd b j ∧ rd b j ≤ 255 := by
  by_cases h : j.toNat < b.length
  · rw [rd_eq h]; exact hb _ (List.getElem_mem h)
  · unfold rd; rw [List.getD_eq_getElem?_getD, List.getElem?_eq_none (by omega)]; simp
theorem shl_at (d : Int) (kk : Nat) (hk : kk ≤ 6) (h0 : 0 ≤ d) (h1 : d ≤ 255) : shl .i64 d (wrap64 (8 * (kk : Int))) = d * 2 ^ (8 * kk) := by
  have e : wrap64 (8 * (kk : Int)) = 8 * (kk : Int) := wrap64_id (by omega) (by omega)
  unfold shl
  rw [e]
  have e2 : min (8 * (kk : Int)).toNat IntKind.i64.bits = 8 * kk := by
    have : IntKind.i64.bits = 64 := rfl
    omega
  rw [e2, IntKind.wrap_i64]
  have h2 : (2 : Int) ^ (8 * kk) ≤ 2 ^ 48 := by
    have : (2 : Nat) ^ (8 * kk) ≤ 2 ^ 48 := Nat.pow_le_pow_right (by omega) (by omega)
    exact_mod_cast this
  have h3 : (0 : Int) < 2 ^ (8 * kk) := Int.pow_pos (by omega)
  have h4 : d * 2 ^ (8 * kk) ≤ 255 * 2 ^ 48 := Int.mul_le_mul h1 h2 (by omega) (by omega)
  have h5 : 0 ≤ d * 2 ^ (8 * kk) := Int.mul_nonneg h0 (by omega)
  omega
theorem sstep_range (b : List Int) (hb : ∀ x ∈ b, 0 ≤ x ∧ x ≤ 255) (at_ many i x : Int) (kk : Nat) (hk : kk ≤ 3) (hx0 : 0 ≤ x) (hx1 : x < 2 ^ (8 * kk)) :
    0 ≤ sstep b at_ many i x kk ∧ sstep b at_ many i x kk < 2 ^ (8 * (kk + 1)) := by
  have hd := rd_byte b hb (wrap64 ((wrap64 (at_ + (wrap64 ((kk : Int) * many)))) + i))
  unfold sstep
  rw [wrap64_id (x := rd b _) (by omega) (by omega), shl_at _ kk (by omega) hd.1 hd.2]
  have h3 : (0 : Int) < 2 ^ (8 * kk) := Int.pow_pos (by omega)
  have e : (2 : Int) ^ (8 * (kk + 1)) = 2 ^ (8 * kk) * 256 := by
    rw [Nat.mul_add, Int.pow_add]; rfl
  have h5 : 0 ≤ rd b (wrap64 ((wrap64 (at_ + (wrap64 ((kk : Int) * many)))) + i)) * 2 ^ (8 * kk) := Int.mul_nonneg hd.1 (by omega)
  have h4 : rd b (wrap64 ((wrap64 (at_ + (wrap64 ((kk : Int) * many)))) + i)) * 2 ^ (8 * kk) ≤ 255 * 2 ^ (8 * kk) := Int.mul_le_mul_of_nonneg_right hd.2 (by omega)
  exact or_range (8 * (kk + 1)) (by omega) hx0 (by rw [e]; omega) h5 (by rw [e]; omega)
theorem split_idx (at_ many i len : Int) (wide kk : Nat) (ha : 0 ≤ at_) (hm : 0 ≤ many) (hle : at_ + wide * many ≤ len) (hl : len ≤ 1048576) (hk : kk < wide) (hi0 : 0 ≤ i) (hi1 : i < many) :
    0 ≤ wrap64 ((wrap64 (at_ + (wrap64 ((kk : Int) * many)))) + i) ∧ wrap64 ((wrap64 (at_ + (wrap64 ((kk : Int) * many)))) + i) < len := by
  have h1 : ((kk : Int) + 1) * many ≤ (wide : Int) * many := Int.mul_le_mul_of_nonneg_right (by omega) hm
  rw [Int.add_mul, Int.one_mul] at h1
  have h2 : 0 ≤ (kk : Int) * many := Int.mul_nonneg (by omega) hm
  rw [wrap64_id (x := (kk : Int) * many) (by omega) (by omega), wrap64_id (x := at_ + (kk : Int) * many) (by omega) (by omega), wrap64_id (by omega) (by omega)]
  omega
theorem sgn_spec (wide : Nat) (x : Int) (h : (wide : Int) = 4 → 0 ≤ x ∧ x < 4294967296) : sgn wide x = if (wide : Int) = 4 then (if x > 2147483647 then wrap64 (x - 4294967296) else x) else x := by
  unfold sgn
  by_cases h4 : (wide : Int) = 4
  · rw [if_pos h4, if_pos h4]
    have := h h4
    by_cases h5 : x > 2147483647
    · rw [if_pos h5]; unfold wrap64 wrap32; omega
    · rw [if_neg h5]; unfold wrap64 wrap32; omega
  · rw [if_neg h4, if_neg h4]
theorem sval_range (b : List Int) (hb : ∀ x ∈ b, 0 ≤ x ∧ x ≤ 255) (at_ many : Int) (wide : Nat) (i : Int) (h4 : (wide : Int) = 4) : 0 ≤ sval b at_ many wide i ∧ sval b at_ many wide i < 4294967296 := by
  have : ∀ n : Nat, n ≤ 4 → 0 ≤ (List.range n).foldl (fun x kk => sstep b at_ many i x kk) 0 ∧ (List.range n).foldl (fun x kk => sstep b at_ many i x kk) 0 < 2 ^ (8 * n) := by
    intro n
    induction n with
    | zero => intro _; simp
    | succ n ih =>
      intro hn
      obtain ⟨h0, h1⟩ := ih (by omega)
      rw [List.range_succ, List.foldl_append]
      exact sstep_range b hb at_ many i _ n (by omega) h0 h1
  obtain rfl : wide = 4 := by omega
  exact this 4 (by omega)
theorem spec_split_inner (b : List Int) (hb : ∀ x ∈ b, 0 ≤ x ∧ x ≤ 255) (hl : b.length ≤ 1048576) (at_ many : Int) (wide : Nat) (ha : 0 ≤ at_) (hm : 0 ≤ many) (hm2 : many ≤ 2000) (hw : wide = 4 ∨ wide = 8) (hle : at_ + wide * many ≤ b.length) (i : Nat) (out : List S101) (r) (hi : (i : Int) < many) (ho : out.length = i)
    (h : Ev (fun k => spec_SplitRead.l0 k b at_ many (wide : Int) (out ++ [(⟨sgn wide (sval b at_ many wide i), (⟨#[]⟩ : ByteArray)⟩ : S101)]) (i + 1 : Nat)) r) :
    Ev (fun k => spec_SplitRead.l1 k b at_ many (wide : Int) out (i : Int) 0 0) r := by
  refine loop_cps (fun k x kk => spec_SplitRead.l1 k b at_ many (wide : Int) out (i : Int) x kk) (fun kk x => sstep b at_ many i x kk) wide r (fun kk x hk hr => ?_) 0 ?_
  · obtain ⟨g0, g1⟩ := split_idx at_ many i b.length wide kk ha hm hle (by omega) hk (by omega) hi
    refine Ev.step (fun k => by rw [spec_SplitRead.l1]) ?_
    refine Ev.pos (by omega) (Ev.pos g0 (Ev.pos g1 (Ev.pos (by rw [wrap64_id (by omega) (by omega)]; omega) ?_)))
    rw [wrap64_id (x := (kk : Int) + 1) (by omega) (by omega)]
    simpa [sstep] using hr
  · have hs : (List.range wide).foldl (fun x kk => sstep b at_ many i x kk) 0 = sval b at_ many wide i := rfl
    rw [hs]
    refine Ev.step (fun k => by rw [spec_SplitRead.l1]) ?_
    refine Ev.neg (by omega) ?_
    rw [wrap64_id (x := (i : Int) + 1) (by omega) (by omega)]
    have e := sgn_spec wide (sval b at_ many wide i) (fun h4 => sval_range b hb at_ many wide i h4)
    have h' : Ev (fun k => spec_SplitRead.l0 k b at_ many (wide : Int) (out ++ [(⟨sgn wide (sval b at_ many wide i), (⟨#[]⟩ : ByteArray)⟩ : S101)]) ((i : Int) + 1)) r := by simpa using h
    rw [e] at h'
    by_cases h4 : (wide : Int) = 4
    · refine Ev.pos h4 ?_
      rw [if_pos h4] at h'
      by_cases h5 : sval b at_ many wide i > 2147483647
      · refine Ev.pos h5 (Ev.pos (by omega) ?_)
        rw [if_pos h5] at h'; exact h'
      · refine Ev.neg h5 (Ev.pos (by omega) ?_)
        rw [if_neg h5] at h'; exact h'
    · refine Ev.neg h4 (Ev.pos (by omega) ?_)
      rw [if_neg h4] at h'; exact h'
theorem impl_split_inner (b : List Int) (hb : ∀ x ∈ b, 0 ≤ x ∧ x ≤ 255) (hl : b.length ≤ 1048576) (at_ many : Int) (wide : Nat) (ha : 0 ≤ at_) (hm : 0 ≤ many) (hm2 : many ≤ 2000) (hw : wide = 4 ∨ wide = 8) (hle : at_ + wide * many ≤ b.length) (i : Nat) (out : List S101) (r) (hi : (i : Int) < many) (ho : out.length = i)
    (h : Ev (fun k => impl_SplitRead.l0 k b at_ many (wide : Int) (out ++ [(⟨sgn wide (sval b at_ many wide i), (⟨#[]⟩ : ByteArray)⟩ : S101)]) many (i + 1 : Nat)) r) :
    Ev (fun k => impl_SplitRead.l1 k b at_ many (wide : Int) out (i : Int) 0 many (i : Int) (wide : Int) 0) r := by
  refine loop_cps (fun k x kk => impl_SplitRead.l1 k b at_ many (wide : Int) out (i : Int) x many (i : Int) (wide : Int) kk) (fun kk x => sstep b at_ many i x kk) wide r (fun kk x hk hr => ?_) 0 ?_
  · obtain ⟨g0, g1⟩ := split_idx at_ many i b.length wide kk ha hm hle (by omega) hk (by omega) hi
    refine Ev.step (fun k => by rw [impl_SplitRead.l1]) ?_
    refine Ev.pos (by omega) (Ev.pos g0 (Ev.pos g1 (Ev.pos (by rw [wrap64_id (by omega) (by omega)]; omega) ?_)))
    rw [wrap64_id (x := (kk : Int) + 1) (by omega) (by omega)]
    simpa [sstep] using hr
  · have hs : (List.range wide).foldl (fun x kk => sstep b at_ many i x kk) 0 = sval b at_ many wide i := rfl
    rw [hs]
    refine Ev.step (fun k => by rw [impl_SplitRead.l1]) ?_
    refine Ev.neg (by omega) ?_
    refine Ev.here (a := sgn wide (sval b at_ many wide i)) ?_ ?_
    · unfold impl_signed.f sgn
      by_cases h4 : (wide : Int) = 4
      · rw [if_pos h4, if_pos h4]
      · rw [if_neg h4, if_neg h4]
    · refine Ev.pos (by omega) ?_
      rw [wrap64_id (x := (i : Int) + 1) (by omega) (by omega)]
      simpa using h
def svals (b : List Int) (at_ many : Int) (wide : Nat) : List S101 := (List.range many.toNat).map fun (i : Nat) => (⟨sgn wide (sval b at_ many wide i), (⟨#[]⟩ : ByteArray)⟩ : S101)
theorem l1In_some (x lo hi : Int) : spec_l1In.f x lo hi = some (decide (lo ≤ x ∧ x ≤ hi)) := by
  unfold spec_l1In.f
  by_cases h : x ≥ lo
  · rw [if_pos h]; congr 1; simp; omega
  · rw [if_neg h]; congr 1; symm; simp; omega
theorem within_some (x lo hi : Int) : impl_within.f x lo hi = some (decide (lo ≤ x ∧ x ≤ hi)) := l1In_some x lo hi
theorem split_both (t : Int) (b : List Int) (hb : ∀ x ∈ b, 0 ≤ x ∧ x ≤ 255) (hl : b.length ≤ 1048576) (at_ many : Int) :
    ∃ r : List S101 × Int × Bool, Ev (fun k => spec_SplitRead.f k t b at_ many) r ∧ Ev (fun k => impl_SplitRead.f k t b at_ many) r ∧ r.1.length ≤ 2000 := by
  obtain ⟨W, hW, hWi, hW2⟩ : ∃ W : Int, spec_SplitWide.f t = some W ∧ impl_SplitWide.f t = some W ∧ (W = 0 ∨ W = 4 ∨ W = 8) := by
    unfold spec_SplitWide.f impl_SplitWide.f impl_wideOf.f
    by_cases h1 : t = 1
    · exact ⟨4, by simp [h1], by simp [h1], by omega⟩
    by_cases h2 : t = 2
    · exact ⟨8, by simp [h2], by simp [h2], by omega⟩
    by_cases h5 : t = 5
    · exact ⟨8, by simp [h5], by simp [h5], by omega⟩
    · exact ⟨0, by simp [h1, h2, h5], by simp [h1, h2, h5], by omega⟩
  have bads : ∀ w, Ev (fun k => spec_SplitRead.j0 k b at_ many w true) (([], 0, false) : List S101 × Int × Bool) := fun w => Ev.step (fun k => by rw [spec_SplitRead.j0]) (by exact Ev.pos rfl (Ev.now _))
  have badi : ∀ w, Ev (fun k => impl_SplitRead.j0 k b at_ many w true) (([], 0, false) : List S101 × Int × Bool) := fun w => Ev.step (fun k => by rw [impl_SplitRead.j0]) (by exact Ev.pos rfl (Ev.now _))
  unfold spec_SplitRead.f impl_SplitRead.f
  by_cases h0 : W = 0
  · exact ⟨_, Ev.here hW (Ev.pos h0 (bads _)), Ev.here hWi (Ev.pos h0 (badi _)), by simp⟩
  by_cases hm : 0 ≤ many ∧ many ≤ 2000
  · by_cases ha : 0 ≤ at_ ∧ at_ ≤ (b.length : Int)
    · obtain ⟨wide, rfl, hw⟩ : ∃ wide : Nat, W = (wide : Int) ∧ (wide = 4 ∨ wide = 8) := by
        rcases hW2 with h | h | h
        · exact absurd h h0
        · exact ⟨4, h, .inl rfl⟩
        · exact ⟨8, h, .inr rfl⟩
      have hp0 : 0 ≤ (wide : Int) * many := Int.mul_nonneg (by omega) hm.1
      have hp1 : (wide : Int) * many ≤ 16000 := by
        rcases hw with rfl | rfl <;> omega
      have e1 : wrap64 ((b.length : Int) - at_) = b.length - at_ := wrap64_id (by omega) (by omega)
      have e2 : wrap64 ((wide : Int) * many) = wide * many := wrap64_id (by omega) (by omega)
      have e3 : wrap64 (many * (wide : Int)) = wide * many := by rw [Int.mul_comm]; exact e2
      by_cases hf : (b.length : Int) - at_ < wide * many
      · refine ⟨([], 0, false), Ev.here hW (Ev.neg h0 (Ev.here (l1In_some _ _ _) (Ev.pos (by simp [hm]) (Ev.here (l1In_some _ _ _) (Ev.pos (by simp [ha]) ?_))))), Ev.here hWi (Ev.neg h0 (Ev.here (within_some _ _ _) (Ev.pos (by simp [hm]) (Ev.here (within_some _ _ _) (Ev.pos (by simp [ha]) ?_))))), ?_⟩
        · have : (decide ((wrap64 ((b.length : Int) - at_)) < (wrap64 ((wide : Int) * many)))) = true := by rw [e1, e2]; simpa using hf
          rw [this]; exact bads _
        · have : (decide ((wrap64 (many * (wide : Int))) > (wrap64 ((b.length : Int) - at_)))) = true := by rw [e1, e3]; simpa using hf
          rw [this]; exact badi _
        · simp
      · have hle : at_ + wide * many ≤ b.length := by omega
        obtain ⟨n, rfl⟩ := Int.eq_ofNat_of_zero_le hm.1
        refine ⟨(svals b at_ n wide, wrap64 (at_ + wide * n), true), Ev.here hW (Ev.neg h0 (Ev.here (l1In_some _ _ _) (Ev.pos (by simp [hm]) (Ev.here (l1In_some _ _ _) (Ev.pos (by simp [ha]) ?_))))), Ev.here hWi (Ev.neg h0 (Ev.here (within_some _ _ _) (Ev.pos (by simp [hm]) (Ev.here (within_some _ _ _) (Ev.pos (by simp [ha]) ?_))))), ?_⟩
        · have : (decide ((wrap64 ((b.length : Int) - at_)) < (wrap64 ((wide : Int) * (n : Int))))) = false := by rw [e1, e2]; simpa using hf
          rw [this]
          refine Ev.step (fun k => by rw [spec_SplitRead.j0]) ?_
          refine Ev.neg (by decide) ?_
          refine append_loop (fun k out i => spec_SplitRead.l0 k b at_ n (wide : Int) out i) (fun i => (⟨sgn wide (sval b at_ n wide i), (⟨#[]⟩ : ByteArray)⟩ : S101)) n _ (fun i out hi ho hr => ?_) ?_
          · exact Ev.step (fun k => by rw [spec_SplitRead.l0]) (by exact Ev.pos (by omega) (spec_split_inner b hb hl at_ n wide ha.1 hm.1 hm.2 hw hle i out _ (by omega) ho hr))
          · refine Ev.step (fun k => by rw [spec_SplitRead.l0]) ?_
            refine Ev.neg (by omega) (Ev.const ?_)
            rw [e2]; rfl
        · have : (decide ((wrap64 ((n : Int) * (wide : Int))) > (wrap64 ((b.length : Int) - at_)))) = false := by rw [e1, e3]; simpa using hf
          rw [this]
          refine Ev.step (fun k => by rw [impl_SplitRead.j0]) ?_
          refine Ev.neg (by decide) ?_
          refine append_loop (fun k out i => impl_SplitRead.l0 k b at_ n (wide : Int) out n i) (fun i => (⟨sgn wide (sval b at_ n wide i), (⟨#[]⟩ : ByteArray)⟩ : S101)) n _ (fun i out hi ho hr => ?_) ?_
          · exact Ev.step (fun k => by rw [impl_SplitRead.l0]) (by exact Ev.pos (by omega) (impl_split_inner b hb hl at_ n wide ha.1 hm.1 hm.2 hw hle i out _ (by omega) ho hr))
          · refine Ev.step (fun k => by rw [impl_SplitRead.l0]) ?_
            refine Ev.neg (by omega) (Ev.const ?_)
            rw [e3]; rfl
        · simp [svals]; omega
    · refine ⟨([], 0, false), Ev.here hW (Ev.neg h0 (Ev.here (l1In_some _ _ _) (Ev.pos (by simp [hm]) (Ev.here (l1In_some _ _ _) (Ev.neg (by simp; omega) (bads _)))))), Ev.here hWi (Ev.neg h0 (Ev.here (within_some _ _ _) (Ev.pos (by simp [hm]) (Ev.here (within_some _ _ _) (Ev.neg (by simp; omega) (badi _)))))), by simp⟩
  · refine ⟨([], 0, false), Ev.here hW (Ev.neg h0 (Ev.here (l1In_some _ _ _) (Ev.neg (by simp; omega) (bads _)))), Ev.here hWi (Ev.neg h0 (Ev.here (within_some _ _ _) (Ev.neg (by simp; omega) (badi _)))), by simp⟩
theorem FnExactSplitRead : ∀ (x0 : Int) (x1 : List (Int)) (x2 : Int) (x3 : Int), ((Lit.int .i64 x0).wf = true) → (x1.length ≤ maxLen ∧ ∀ y ∈ x1, (Lit.int .u8 y).wf = true) → ((Lit.int .i64 x2).wf = true) → ((Lit.int .i64 x3).wf = true) → ∃ k, laws_FnExactSplitRead.f k x0 x1 x2 x3 = some true := by
  intro t b at_ many ht hw ha hn
  refine Ev.rounds ?_
  unfold laws_FnExactSplitRead.f
  by_cases hb : (b.length : Int) > 1048576
  · exact Ev.pos hb (Ev.now _)
  refine Ev.neg hb ?_
  have t1 := toByteS_ev b (by omega)
  obtain ⟨r, es, ei, hr⟩ := split_both t b (fun x hx => u8_of (hw.2 x hx)) (by omega) at_ many
  have q1 := eqByteS_ev b (by omega)
  have q2 := eqValS_ev r.1 (by omega)
  obtain ⟨m1, y1, p1, k1, _⟩ := markByteS_evm b 1 (by omega) (by omega)
  obtain ⟨m2, y2, p2, k2, k3⟩ := markValS_ev r.1 1 (by omega) (by omega)
  repeat' (first
    | with_reducible exact Ev.now _
    | with_reducible refine Ev.bind t1 ?_ | with_reducible refine Ev.bind es ?_ | with_reducible refine Ev.bind ei ?_
    | with_reducible refine Ev.bind q1 ?_ | with_reducible refine Ev.bind q2 ?_
    | with_reducible refine Ev.bind k1 ?_ | with_reducible refine Ev.bind k2 ?_ | with_reducible refine Ev.bind k3 ?_
    | refine Ev.pos (by first | rfl | omega) ?_
    | refine Ev.neg (by first | omega | decide | simp) ?_
    | refine Ev.step (fun k => by rw [laws_FnExactSplitRead.j0]) ?_
    | refine Ev.step (fun k => by rw [laws_FnExactSplitRead.j1]) ?_
    | refine Ev.step (fun k => by rw [laws_FnExactSplitRead.j2]) ?_)
end Go.Proofs.Ytjbilohbkhogkaa.Pure
