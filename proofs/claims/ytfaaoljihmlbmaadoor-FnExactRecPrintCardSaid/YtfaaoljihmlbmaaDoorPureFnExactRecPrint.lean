/- The pure statement of FnExactRecPrint: the printed functions answer as the law says, for all arguments. No condition. -/
import Derived.Test.YtfaaoljihmlbmaaDoorCore
import Derived.Test.YtfaaoljihmlbmaaDoorPFnExactRecPrintx
import Derived.Test.YtfaaoljihmlbmaaDoorArgFnExactRecPrint
namespace Go.Proofs.YtfaaoljihmlbmaaDoor.Pure
open Go.RowKit Go.Proofs.YtfaaoljihmlbmaaDoor.PFnExactRecPrint Go.Proofs.YtfaaoljihmlbmaaDoor.Core Go.Proofs.YtfaaoljihmlbmaaDoorW.PrintWords Go.Proofs.YtfaaoljihmlbmaaDoorW.PrintLast Go.Proofs.YtfaaoljihmlbmaaDoorW.PrintMore Go.Proofs.YtfaaoljihmlbmaaDoorW.PrintMore2 Go.Proofs.YtfaaoljihmlbmaaDoor.AFnExactRecPrint
set_option linter.unusedVariables false
set_option linter.unusedSimpArgs false
def cvVal (x : S45) : S36 := ⟨x.f0, x.f1⟩
theorem toValS_ev (l : List S45) (hl : l.length ≤ 1048576) : Ev (fun k => laws_toValS.f k l) (l.map cvVal) := by
  unfold laws_toValS.f
  refine Ev.pos (by omega) (Ev.pos (by omega) ?_)
  refine copy_loop (fun k out i => laws_toValS.l0 k l out i) l cvVal (fun out i r h ho hr => ?_) (fun out ho => ?_) (List.replicate ((l.length : Int)).toNat z36) (by simp)
  · refine Ev.step (fun k => by rw [laws_toValS.l0]) ?_
    refine Ev.pos (by omega) (Ev.pos (by omega) (Ev.here rfl (Ev.pos (by omega) ?_)))
    rw [wrap64_id (by omega) (by omega)]
    have e : rd_T45 l (i : Int) = l[i] := getD_eq (by simpa using h)
    simp only [e]
    simpa [cvVal] using hr
  · exact Ev.step (fun k => by rw [laws_toValS.l0]) (by exact Ev.neg (by omega) (Ev.now _))
theorem szVal_some (x : S45) (hw : w45 x) (c : Int) (h0 : 0 ≤ c) (h1 : c ≤ 1048576) : ∃ r, laws_szVal.f x.f0 x.f1 c = some r ∧ r ≤ c := by
  have b0 : (x.f1.size : Int) ≤ 9223372036854775807 := by have := hw.2; unfold maxLen at this; omega
  unfold laws_szVal.f
  rw [wrap64_id (x := c - (x.f1.size : Int)) (by omega) (by omega)]
  by_cases n0 : c - (x.f1.size : Int) < 0
  · exact ⟨-1, by simp [n0], by omega⟩
  simp only [if_neg n0, Option.bind_some]
  exact ⟨_, rfl, by omega⟩
theorem szValS_ev (l : List S45) (hw : l.length ≤ maxLen) (ht : ∀ x ∈ l, w45 x) (c : Int) (h0 : 0 ≤ c) (h1 : c ≤ 1048576) : ∃ r, Ev (fun k => laws_szValS.f k l c) r ∧ r ≤ c ∧ (0 ≤ r → r + l.length ≤ c) := by
  have hm : l.length ≤ 9223372036854775807 := by unfold maxLen at hw; omega
  unfold laws_szValS.f
  rw [wrap64_id (by omega) (by omega)]
  by_cases hn : c - (l.length : Int) < 0
  · exact ⟨-1, Ev.pos hn (Ev.now _), by omega, by omega⟩
  · obtain ⟨r, hr, hrc⟩ := budget_loop (fun k c i => laws_szValS.l0 k l c i) l.length (fun c i hc0 hc1 hi => by
      have e : rd_T45 l (i : Int) = l[i] := getD_eq (by simpa using hi)
      obtain ⟨c', hc', hle⟩ := szVal_some l[i] (ht l[i] (List.getElem_mem hi)) c hc0 hc1
      refine ⟨c', hle, fun hneg => ?_, fun hpos r hr => ?_⟩
      · exact Ev.step (fun k => by rw [laws_szValS.l0]) (by exact Ev.pos (by omega) (Ev.pos (by omega) (Ev.here (by rw [e]; exact hc') (Ev.pos hneg (Ev.now _)))))
      · refine Ev.step (fun k => by rw [laws_szValS.l0]) ?_
        refine Ev.pos (by omega) (Ev.pos (by omega) (Ev.here (by rw [e]; exact hc') (Ev.neg (by omega) ?_)))
        rw [wrap64_id (by omega) (by omega)]
        simpa using hr)
      (fun c => Ev.step (fun k => by rw [laws_szValS.l0]) (by exact Ev.neg (by omega) (Ev.now _))) (c - l.length) (by omega) (by omega)
    exact ⟨r, Ev.neg hn hr, by omega, by omega⟩
theorem eqVal_ev (a : S36) : laws_eqVal.f a.f0 a.f1 a.f0 a.f1 = some true := by
  unfold laws_eqVal.f
  simp
theorem eqValS_ev (l : List S36) (hl : l.length ≤ 9223372036854775806) : Ev (fun k => laws_eqValS.f k l l) true := by
  unfold laws_eqValS.f
  refine Ev.pos rfl ?_
  refine same_loop (fun k i => laws_eqValS.l0 k l l i) l.length (fun i r h hr => ?_) ?_
  · refine Ev.step (fun k => by rw [laws_eqValS.l0]) ?_
    refine Ev.pos (by omega) (Ev.pos (by omega) (Ev.pos (by omega) (Ev.here (eqVal_ev _) (Ev.pos rfl ?_))))
    rw [wrap64_id (by omega) (by omega)]
    simpa using hr
  · exact Ev.step (fun k => by rw [laws_eqValS.l0]) (by exact Ev.neg (by omega) (Ev.now _))
/-! ### The text of a value, and of a record -/
def hxD : ByteArray := (⟨#[48, 49, 50, 51, 52, 53, 54, 55, 56, 57, 97, 98, 99, 100, 101, 102]⟩ : ByteArray)
def hx1 (a : ByteArray) (i : Int) : ByteArray := hxD.extract (bt a i / 16 : Int).toNat (bt a i / 16 + 1 : Int).toNat
def hx2 (a : ByteArray) (i : Int) : ByteArray := hxD.extract (bt a i % 16 : Int).toNat (bt a i % 16 + 1 : Int).toNat
theorem ext_one (d : ByteArray) (n : Int) : (d.extract n.toNat (n + 1).toNat).size ≤ 1 := by rw [ByteArray.size_extract]; omega
theorem hx1_size (a : ByteArray) (i : Int) : (hx1 a i).size ≤ 1 := ext_one _ _
theorem hx2_size (a : ByteArray) (i : Int) : (hx2 a i).size ≤ 1 := ext_one _ _
/-- The digits of so many bytes from a place on, behind what there is. -/
def hexR (a : ByteArray) : Nat → Nat → ByteArray → ByteArray
  | 0, _, acc => acc
  | d + 1, i, acc => hexR a d (i + 1) ((acc ++ hx1 a (i : Int)) ++ hx2 a (i : Int))
theorem hexR_size (a : ByteArray) : ∀ (d i : Nat) (acc : ByteArray), (hexR a d i acc).size ≤ acc.size + 2 * d
  | 0, _, acc => by simp [hexR]
  | d + 1, i, acc => by
    have := hexR_size a d (i + 1) ((acc ++ hx1 a (i : Int)) ++ hx2 a (i : Int))
    rw [ByteArray.size_append, ByteArray.size_append] at this
    have h1 := hx1_size a (i : Int)
    have h2 := hx2_size a (i : Int)
    rw [hexR]; omega
theorem spec_hex_loop (a : ByteArray) (ha : a.size ≤ 1048576) : ∀ (d i : Nat) (acc : ByteArray), i + d = a.size → acc.size ≤ 1 + 2 * i → Ev (fun k => spec_l22Hex.l0 k a acc (i : Int)) (hexR a d i acc) := by
  intro d
  induction d with
  | zero =>
    intro i acc hi hs
    exact Ev.step (fun k => by rw [spec_l22Hex.l0]) (by exact Ev.neg (by omega) (Ev.now _))
  | succ d ih =>
    intro i acc hi hs
    obtain ⟨u0, u1⟩ := bt_range a (i : Int)
    have h1 := hx1_size a (i : Int)
    have h2 := hx2_size a (i : Int)
    have hr := ih (i + 1) ((acc ++ hx1 a (i : Int)) ++ hx2 a (i : Int)) (by omega) (by rw [ByteArray.size_append, ByteArray.size_append]; omega)
    have hz : (acc ++ hx1 a (i : Int)).size ≤ acc.size + 1 := by rw [ByteArray.size_append]; omega
    have e1 : wrap64 (bt a (i : Int)) = bt a (i : Int) := wrap64_id (by omega) (by omega)
    have e2 : Int.tdiv (bt a (i : Int)) 16 = bt a (i : Int) / 16 := Int.tdiv_eq_ediv_of_nonneg u0
    have e3 : Int.tmod (bt a (i : Int)) 16 = bt a (i : Int) % 16 := Int.tmod_eq_emod_of_nonneg u0
    have e4 : wrap64 (bt a (i : Int) / 16) = bt a (i : Int) / 16 := wrap64_id (by omega) (by omega)
    have e5 : wrap64 (bt a (i : Int) / 16 + 1) = bt a (i : Int) / 16 + 1 := wrap64_id (by omega) (by omega)
    have e6 : wrap64 (bt a (i : Int) % 16 + 1) = bt a (i : Int) % 16 + 1 := wrap64_id (by omega) (by omega)
    have e7 : wrap64 ((i : Int) + 1) = ((i + 1 : Nat) : Int) := by rw [wrap64_id (by omega) (by omega)]; omega
    refine Ev.step (fun k => by rw [spec_l22Hex.l0]) ?_
    rw [e1, e2, e3, e4, e5, e6, e7]
    clear e1 e2 e3 e4 e5 e6 e7 ih
    refine Ev.pos (by omega) (Ev.pos (by omega) (Ev.pos (by omega) (Ev.pos (by omega) (Ev.pos (by omega) (Ev.pos ?_ (Ev.pos (by omega) (Ev.pos (by omega) (Ev.pos (by omega) (Ev.pos ?_ hr)))))))))
    · show acc.size + (hx1 a (i : Int)).size ≤ _; omega
    · show (acc ++ hx1 a (i : Int)).size + (hx2 a (i : Int)).size ≤ _; omega
theorem impl_hex_loop (a : ByteArray) (ha : a.size ≤ 1048576) (n : Int) : ∀ (d i : Nat) (acc : ByteArray), i + d = a.size → acc.size ≤ 1 + 2 * i → Ev (fun k => impl_valText.l0 k acc (a.size : Int) (i : Int) n a) (hexR a d i acc, decide (n = 0) && decide ((a.size : Int) ≤ 40)) := by
  intro d
  induction d with
  | zero =>
    intro i acc hi hs
    refine Ev.step (fun k => by rw [impl_valText.l0]) (Ev.neg (by omega) ?_)
    by_cases hn : n = 0
    · exact Ev.pos hn (Ev.const (by simp [hn, hexR]))
    · exact Ev.neg hn (Ev.const (by simp [hn, hexR]))
  | succ d ih =>
    intro i acc hi hs
    obtain ⟨u0, u1⟩ := bt_range a (i : Int)
    have h1 := hx1_size a (i : Int)
    have h2 := hx2_size a (i : Int)
    have hr := ih (i + 1) ((acc ++ hx1 a (i : Int)) ++ hx2 a (i : Int)) (by omega) (by rw [ByteArray.size_append, ByteArray.size_append]; omega)
    have hz : (hx1 a (i : Int) ++ hx2 a (i : Int)).size ≤ 2 := by rw [ByteArray.size_append]; omega
    rw [ByteArray.append_assoc] at hr
    have e2 : Int.tdiv (bt a (i : Int)) 16 = bt a (i : Int) / 16 := Int.tdiv_eq_ediv_of_nonneg u0
    have e3 : Int.tmod (bt a (i : Int)) 16 = bt a (i : Int) % 16 := Int.tmod_eq_emod_of_nonneg u0
    have e4 : bt a (i : Int) / 16 % 256 = bt a (i : Int) / 16 := by omega
    have e5 : (bt a (i : Int) / 16 + 1) % 256 = bt a (i : Int) / 16 + 1 := by omega
    have e6 : (bt a (i : Int) % 16 + 1) % 256 = bt a (i : Int) % 16 + 1 := by omega
    have e7 : wrap64 ((i : Int) + 1) = ((i + 1 : Nat) : Int) := by rw [wrap64_id (by omega) (by omega)]; omega
    refine Ev.step (fun k => by rw [impl_valText.l0]) ?_
    rw [e2, e3, e4, e5, e6, e7]
    clear e2 e3 e4 e5 e6 e7 ih
    refine Ev.pos (by omega) (Ev.pos (by omega) (Ev.pos (by omega) (Ev.pos (by omega) (Ev.pos (by omega) (Ev.pos (by omega) (Ev.pos (by omega) (Ev.pos (by omega) (Ev.pos (by omega) (Ev.pos ?_ (Ev.pos ?_ ?_))))))))))
    · show (hx1 a (i : Int)).size + (hx2 a (i : Int)).size ≤ _; omega
    · show acc.size + (hx1 a (i : Int) ++ hx2 a (i : Int)).size ≤ _; omega
    · rw [hexR, ByteArray.append_assoc]; exact hr
def bs (l : List UInt8) : ByteArray := ⟨l.toArray⟩
theorem bs_size (l : List UInt8) : (bs l).size = l.length := by simp [bs, ByteArray.size]
theorem bs_append (l m : List UInt8) : bs l ++ bs m = bs (l ++ m) := by
  apply ByteArray.ext
  simp [bs]
theorem bs_self (b : ByteArray) : bs b.data.toList = b := by simp [bs]
theorem digit_bs (m : Nat) : strOfNums [(48 + ((m % 10 : Nat) : Int)) % 256] = bs [UInt8.ofNat (48 + m % 10)] := by
  unfold strOfNums bs
  have e : ((48 + ((m % 10 : Nat) : Int)) % 256).toNat = 48 + m % 10 := by omega
  simp only [List.map_cons, List.map_nil, e]
/-- What stands before the digits. -/
def sgnB (n : Int) : List UInt8 := if n < 0 then [45] else []
theorem dec_len : ∀ (N m : Nat), m < 10 ^ N → (Lib.decDigits m).length ≤ N + 1
  | 0, m, h => by rw [Lib.decDigits, dif_pos (by simp at h; omega)]; simp
  | N + 1, m, h => by
    rw [Lib.decDigits]
    by_cases h1 : m < 10
    · rw [dif_pos h1]; simp
    · rw [dif_neg h1, List.length_append]
      have := dec_len N (m / 10) (by rw [Nat.pow_succ] at h; omega)
      simp; omega
theorem spec_num_loop (n : Int) : ∀ (N m : Nat) (x : Int) (acc : List UInt8), m ≤ N → 0 < m → x.natAbs = m → m ≤ 9223372036854775808 → acc.length + (Lib.decDigits m).length ≤ 1000 → (-9223372036854775808 ≤ x) → x ≤ 9223372036854775807 →
    Ev (fun k => spec_l22Num.l0 k n (bs acc) x) (bs (sgnB n ++ (Lib.decDigits m ++ acc))) := by
  intro N
  induction N with
  | zero => intro m x acc h h0; omega
  | succ N ih =>
    intro m x acc hN h0 hx hm hl x0 x1
    have em : (((m % 10 : Nat) : Int)) = (m : Int) % 10 := by omega
    -- the rest, behind a digit
    have rest : ∀ y : Int, y.natAbs = m / 10 → -9223372036854775808 ≤ y → y ≤ 9223372036854775807 → Ev (fun k => spec_l22Num.l0 k n (bs (UInt8.ofNat (48 + m % 10) :: acc)) y) (bs (sgnB n ++ (Lib.decDigits m ++ acc))) := by
      intro y hy y0 y1
      by_cases h10 : m < 10
      · have hz : y = 0 := by omega
        subst hz
        have ed : Lib.decDigits m ++ acc = UInt8.ofNat (48 + m % 10) :: acc := by
          rw [Lib.decDigits, dif_pos h10, Nat.mod_eq_of_lt h10]; rfl
        have el : (Lib.decDigits m ++ acc).length ≤ 1000 := by rw [List.length_append]; omega
        rw [ed] at el
        refine Ev.step (fun k => by rw [spec_l22Num.l0]) (Ev.pos rfl ?_)
        rw [ed]
        by_cases hn : n < 0
        · have es : sgnB n = [45] := if_pos hn
          rw [es]
          refine Ev.pos hn (Ev.pos (by rw [bs_size]; omega) (Ev.const ?_))
          exact congrArg some (bs_append [45] _)
        · have es : sgnB n = [] := if_neg hn
          rw [es]
          exact Ev.neg hn (Ev.const rfl)
      · have ed : Lib.decDigits m ++ acc = Lib.decDigits (m / 10) ++ (UInt8.ofNat (48 + m % 10) :: acc) := by
          rw [Lib.decDigits, dif_neg h10]; simp
        have el : (Lib.decDigits m ++ acc).length ≤ 1000 := by rw [List.length_append]; omega
        rw [ed, List.length_append] at el
        rw [ed]
        exact ih (m / 10) y (UInt8.ofNat (48 + m % 10) :: acc) (by omega) (by omega) hy (by omega) (by omega) y0 y1
    have la : acc.length ≤ 1000 := by omega
    refine Ev.step (fun k => by rw [spec_l22Num.l0]) (Ev.neg (by omega) ?_)
    have go : ∀ z : Int, z = 48 + ((m % 10 : Nat) : Int) → Ev (fun k => (some (([z % 256] : List Int) : List Int)).bind fun y106 => (if (strOfNums y106).size + (bs acc).size ≤ 9223372036854775807 then (spec_l22Num.l0 k n ((strOfNums y106) ++ (bs acc)) (wrap64 (Int.tdiv x 10))) else (none))) (bs (sgnB n ++ (Lib.decDigits m ++ acc))) := by
      intro z hz
      subst hz
      refine Ev.here rfl (Ev.pos (by rw [strOfNums_size, bs_size]; simp; omega) ?_)
      rw [digit_bs, bs_append]
      have ht : (Int.tdiv x 10).natAbs = m / 10 := by rw [Int.natAbs_tdiv, hx]; rfl
      rw [wrap64_id (by omega) (by omega)]
      exact rest _ ht (by omega) (by omega)
    by_cases hx0 : 0 ≤ x
    · have e3 : Int.tmod x 10 = x % 10 := Int.tmod_eq_emod_of_nonneg hx0
      have e4 : x % 10 = ((m % 10 : Nat) : Int) := by omega
      have e5 : wrap64 (48 + x % 10) = 48 + x % 10 := wrap64_id (by omega) (by omega)
      rw [e3, e5]
      refine Ev.neg (by omega) ?_
      exact go (48 + x % 10) (by rw [e4])
    · have e3 : Int.tmod x 10 = -((m % 10 : Nat) : Int) := by
        have h1 := Int.tmod_add_mul_tdiv x 10
        have h2 : Int.tdiv x 10 = -((m / 10 : Nat) : Int) := by
          have : x = -(m : Int) := by omega
          rw [this, Int.neg_tdiv, Int.tdiv_eq_ediv_of_nonneg (by omega)]
          rfl
        rw [h2] at h1
        omega
      have e4 : wrap64 (-(-((m % 10 : Nat) : Int))) = ((m % 10 : Nat) : Int) := by rw [Int.neg_neg]; exact wrap64_id (by omega) (by omega)
      have e5 : wrap64 (48 + ((m % 10 : Nat) : Int)) = 48 + ((m % 10 : Nat) : Int) := wrap64_id (by omega) (by omega)
      rw [e3, e4, e5]
      by_cases hz : (m % 10 : Nat) = 0
      · have e6 : wrap64 (48 + -((m % 10 : Nat) : Int)) = 48 + ((m % 10 : Nat) : Int) := by rw [hz]; exact wrap64_id (by decide) (by decide)
        rw [e6]
        exact Ev.neg (by omega) (go _ rfl)
      · exact Ev.pos (by omega) (go _ rfl)
theorem itoa_parts (n : Int) (h : n ≠ 0) : Lib.itoa n = sgnB n ++ Lib.decDigits n.natAbs := by
  unfold Lib.itoa sgnB
  by_cases hn : n < 0
  · rw [if_pos hn, if_pos hn]; rfl
  · rw [if_neg hn, if_neg hn]
    have : n.toNat = n.natAbs := by omega
    rw [this]; rfl
theorem itoa_zero : Lib.itoa 0 = [48] := by
  unfold Lib.itoa
  rw [if_neg (by decide), Lib.decDigits, dif_pos (by decide)]
  rfl
theorem spec_num_ev (n : Int) (h0 : -9223372036854775808 ≤ n) (h1 : n ≤ 9223372036854775807) : Ev (fun k => spec_l22Num.f k n) (bs (Lib.itoa n)) := by
  unfold spec_l22Num.f
  by_cases hn : n = 0
  · subst hn; exact Ev.pos rfl (Ev.const (by rw [itoa_zero]; rfl))
  · refine Ev.neg hn ?_
    have hl := dec_len 20 n.natAbs (by omega)
    have := spec_num_loop n n.natAbs n.natAbs n [] (Nat.le_refl _) (by omega) rfl (by omega) (by simp; omega) h0 h1
    rw [List.append_nil, ← itoa_parts n hn] at this
    exact this
theorem itoa_size (n : Int) (h0 : -9223372036854775808 ≤ n) (h1 : n ≤ 9223372036854775807) : (bs (Lib.itoa n)).size ≤ 22 := by
  rw [bs_size]
  by_cases hn : n = 0
  · subst hn; rw [itoa_zero]; decide
  · rw [itoa_parts n hn, List.length_append]
    have hl := dec_len 20 n.natAbs (by omega)
    have : (sgnB n).length ≤ 1 := by unfold sgnB; split <;> simp
    omega
/-- A value that is right, and its word. -/
def vGood (v : S36) : Bool := decide (v.f1.toList = ([] : List UInt8)) || (decide (v.f0 = 0) && decide ((v.f1.size : Int) ≤ 40))
def word (v : S36) : ByteArray := if v.f1.toList = ([] : List UInt8) then bs (Lib.itoa v.f0) else hexR v.f1 v.f1.size 0 (⟨#[120]⟩ : ByteArray)
structure VIn (v : S36) : Prop where
  h0 : -9223372036854775808 ≤ v.f0
  h1 : v.f0 ≤ 9223372036854775807
  hs : v.f1.size ≤ 1048576
theorem no_size {t : ByteArray} (h : t.toList = ([] : List UInt8)) : t.size = 0 := by
  rw [ByteArray.toList_eq] at h
  have : t.data.toList.length = 0 := by rw [h]; rfl
  rw [Array.length_toList] at this
  exact this
theorem word_size {v : S36} (hv : VIn v) (h : vGood v = true) : (word v).size ≤ 81 := by
  unfold word
  unfold vGood at h
  by_cases ht : v.f1.toList = ([] : List UInt8)
  · rw [if_pos ht]; have := itoa_size v.f0 hv.h0 hv.h1; omega
  · rw [if_neg ht]
    simp only [ht, decide_false, Bool.false_or, Bool.and_eq_true, decide_eq_true_eq] at h
    have := hexR_size v.f1 v.f1.size 0 (⟨#[120]⟩ : ByteArray)
    have e : (⟨#[120]⟩ : ByteArray).size = 1 := rfl
    omega
theorem impl_valText_ev {v : S36} (hv : VIn v) : Ev (fun k => impl_valText.f k v.f0 v.f1) (word v, vGood v) := by
  unfold impl_valText.f word vGood
  by_cases ht : v.f1.toList = ([] : List UInt8)
  · rw [if_pos ht]
    refine Ev.pos ht (Ev.here (a := bs (Lib.itoa v.f0)) ?_ (Ev.const (by simp [ht])))
    unfold strconv_Itoa_18.f
    rw [if_pos ⟨hv.h0, hv.h1⟩]; rfl
  · rw [if_neg ht]
    refine Ev.neg ht (Ev.cast (impl_hex_loop v.f1 hv.hs v.f0 v.f1.size 0 (⟨#[120]⟩ : ByteArray) (by omega) (by decide)) ?_)
    simp [ht]
def jt : List ByteArray → ByteArray
  | [] => ⟨#[]⟩
  | t :: r => ((⟨#[32]⟩ : ByteArray) ++ t) ++ jt r
def jn : List ByteArray → ByteArray
  | [] => ⟨#[]⟩
  | t :: r => t ++ jt r
theorem jt_list (l : List ByteArray) : (jt l).data.toList = Lib.joinTail [32] (l.map (·.data.toList)) := by
  induction l with
  | nil => rfl
  | cons t r ih => simp [jt, Lib.joinTail, ih] at ih ⊢
theorem jn_list (l : List ByteArray) : (jn l).data.toList = Lib.join (l.map (·.data.toList)) [32] := by
  cases l with
  | nil => rfl
  | cons t r => rw [List.map_cons, Lib.join_cons, ← jt_list]; simp [jn]
theorem join_some (l : List ByteArray) (h : (jn l).size ≤ 140737488355328) (hl : l.length ≤ 140737488355328) : strings_Join.f l (⟨#[32]⟩ : ByteArray) = some (jn l) := by
  unfold strings_Join.f
  have e : Lib.join (l.map (·.data.toList)) (⟨#[32]⟩ : ByteArray).data.toList = (jn l).data.toList := (jn_list l).symm
  rw [e, if_pos ⟨by rw [Array.length_toList]; exact h, hl⟩]
theorem jt_append (a b : List ByteArray) : jt (a ++ b) = jt a ++ jt b := by
  induction a with
  | nil => simp [jt]; rfl
  | cons t r ih => simp only [List.cons_append, jt, ih, ByteArray.append_assoc]
theorem jn_snoc (a : List ByteArray) (b : ByteArray) : jn (a ++ [b]) = (if 0 < a.length then jn a ++ (⟨#[32]⟩ : ByteArray) else jn a) ++ b := by
  have e0 : ∀ x : ByteArray, x ++ (⟨#[]⟩ : ByteArray) = x := fun x => by apply ByteArray.ext; simp
  cases a with
  | nil => simp [jn, jt, e0]; apply ByteArray.ext; simp
  | cons t r => simp only [List.cons_append, jn, jt_append, jt, e0, List.length_cons]; rw [if_pos (by omega)]; simp only [ByteArray.append_assoc]
theorem jn_size (l : List ByteArray) (h : ∀ x ∈ l, x.size ≤ 81) : (jn l).size ≤ 82 * l.length := by
  have ht : ∀ r : List ByteArray, (∀ x ∈ r, x.size ≤ 81) → (jt r).size ≤ 82 * r.length := by
    intro r
    induction r with
    | nil => intro _; simp [jt]; rfl
    | cons x r ih =>
      intro h
      have h1 := h x (by simp)
      have h2 := ih (fun y hy => h y (by simp [hy]))
      have e : (⟨#[32]⟩ : ByteArray).size = 1 := rfl
      rw [jt, ByteArray.size_append, ByteArray.size_append, List.length_cons]; omega
  cases l with
  | nil => simp [jn]; rfl
  | cons x r =>
    have h1 := h x (by simp)
    have h2 := ht r (fun y hy => h y (by simp [hy]))
    rw [jn, ByteArray.size_append, List.length_cons]; omega
/-- What both answer. -/
def recR (l : List S36) : ByteArray × Bool := if l.length ≤ 300 ∧ l.all vGood = true then (jn (l.map word), true) else (⟨#[]⟩, false)
theorem spec_rec_loop (l : List S36) (hl : l.length ≤ 300) (hv : ∀ v ∈ l, VIn v) : ∀ (d i : Nat), i + d = l.length → (l.take i).all vGood = true →
    Ev (fun k => spec_RecPrint.l0 k (jn ((l.take i).map word)) (i : Int) l) (if l.all vGood = true then (jn (l.map word), true) else (⟨#[]⟩, false)) := by
  intro d
  induction d with
  | zero =>
    intro i hi ha
    obtain rfl : i = l.length := by omega
    rw [List.take_length] at ha ⊢
    rw [if_pos ha]
    exact Ev.step (fun k => by rw [spec_RecPrint.l0]) (by exact Ev.neg (by omega) (Ev.now _))
  | succ d ih =>
    intro i hi ha
    have hil : i < l.length := by omega
    have e : rd_T36 l (i : Int) = l.getD i z36 := rfl
    rw [getD_eq hil] at e
    have hm : l[i] ∈ l := List.getElem_mem _
    have hvi := hv _ hm
    have et : l.take (i + 1) = l.take i ++ [l[i]] := by rw [List.take_succ_eq_append_getElem hil]
    have hsz : (jn ((l.take i).map word)).size ≤ 82 * i := by
      have := jn_size ((l.take i).map word) (fun x hx => by
        obtain ⟨v, hv1, rfl⟩ := List.mem_map.1 hx
        exact word_size (hv v (List.mem_of_mem_take hv1)) (List.all_eq_true.1 ha v hv1))
      rw [List.length_map, List.length_take] at this
      omega
    have hlen : ((l.take i).map word).length = i := by rw [List.length_map, List.length_take]; omega
    have bad : vGood l[i] = false → Ev (fun k => spec_RecPrint.j1 k (jn ((l.take i).map word)) (i : Int) true l (l[i]).f0 (l[i]).f1) (if l.all vGood = true then (jn (l.map word), true) else (⟨#[]⟩, false)) := by
      intro hb
      rw [if_neg (fun h => by rw [List.all_eq_true.1 h _ hm] at hb; cases hb)]
      exact Ev.step (fun k => by rw [spec_RecPrint.j1]) (by exact Ev.pos rfl (Ev.now _))
    have good : vGood l[i] = true → Ev (fun k => spec_RecPrint.j1 k (jn ((l.take i).map word)) (i : Int) false l (l[i]).f0 (l[i]).f1) (if l.all vGood = true then (jn (l.map word), true) else (⟨#[]⟩, false)) := by
      intro hg
      have hnext := ih (i + 1) (by omega) (by rw [et, List.all_append, ha]; simp [hg])
      rw [et, List.map_append, List.map_cons, List.map_nil, jn_snoc, hlen] at hnext
      have hw := word_size hvi hg
      have e7 : wrap64 ((i : Int) + 1) = ((i + 1 : Nat) : Int) := by rw [wrap64_id (by omega) (by omega)]; omega
      have tail : ∀ acc : ByteArray, acc.size ≤ 82 * i + 1 → Ev (fun k => spec_RecPrint.l0 k (acc ++ word l[i]) ((i + 1 : Nat) : Int) l) (if l.all vGood = true then (jn (l.map word), true) else (⟨#[]⟩, false)) → Ev (fun k => spec_RecPrint.j2 k acc (i : Int) l (l[i]).f0 (l[i]).f1) (if l.all vGood = true then (jn (l.map word), true) else (⟨#[]⟩, false)) := by
        intro acc hacc hn
        refine Ev.step (fun k => by rw [spec_RecPrint.j2]) ?_
        rw [e7]
        by_cases ht : (l[i]).f1.toList = ([] : List UInt8)
        · have ew : word l[i] = bs (Lib.itoa (l[i]).f0) := by unfold word; rw [if_pos ht]
          rw [ew] at hn hw
          exact Ev.pos ht (Ev.bind (spec_num_ev _ hvi.h0 hvi.h1) (Ev.pos (by omega) hn))
        · have ew : word l[i] = hexR (l[i]).f1 (l[i]).f1.size 0 (⟨#[120]⟩ : ByteArray) := by unfold word; rw [if_neg ht]
          rw [ew] at hn hw
          refine Ev.neg ht (Ev.bind (a := hexR (l[i]).f1 (l[i]).f1.size 0 (⟨#[120]⟩ : ByteArray)) ?_ (Ev.pos (by omega) hn))
          unfold spec_l22Hex.f
          exact spec_hex_loop _ hvi.hs _ 0 _ (by omega) (by decide)
      refine Ev.step (fun k => by rw [spec_RecPrint.j1]) (Ev.neg (by decide) ?_)
      by_cases h0 : 0 < i
      · rw [if_pos h0] at hnext
        have e1 : (⟨#[32]⟩ : ByteArray).size = 1 := rfl
        exact Ev.pos (by omega) (Ev.pos (by omega) (tail _ (by rw [ByteArray.size_append]; omega) hnext))
      · rw [if_neg h0] at hnext
        exact Ev.neg (by omega) (tail _ (by omega) hnext)
    refine Ev.step (fun k => by rw [spec_RecPrint.l0]) ?_
    rw [e]
    refine Ev.pos (by omega) (Ev.pos (by omega) ?_)
    by_cases ht : (l[i]).f1.toList = ([] : List UInt8)
    · have hz := no_size ht
      have hg : vGood l[i] = true := by unfold vGood; simp [ht]
      have ed : decide (((l[i]).f1.size : Int) > 40) = false := by rw [hz]; decide
      rw [ed]
      by_cases hn : (l[i]).f0 = 0
      · exact Ev.pos hn (good hg)
      · exact Ev.neg hn (Ev.pos ht (good hg))
    · by_cases hn : (l[i]).f0 = 0
      · refine Ev.pos hn ?_
        by_cases h40 : ((l[i]).f1.size : Int) > 40
        · rw [decide_eq_true h40]
          exact bad (by unfold vGood; simp [ht, hn]; omega)
        · rw [decide_eq_false h40]
          exact good (by unfold vGood; simp [ht, hn]; omega)
      · exact Ev.neg hn (Ev.neg ht (bad (by unfold vGood; simp [ht, hn])))
theorem spec_RecPrint_ev (l : List S36) (hv : ∀ v ∈ l, VIn v) : Ev (fun k => spec_RecPrint.f k l) (recR l) := by
  unfold spec_RecPrint.f recR
  by_cases hl : l.length ≤ 300
  · refine Ev.neg (by omega) (Ev.cast (spec_rec_loop l hl hv l.length 0 (by omega) (by simp)) ?_)
    by_cases h : l.all vGood = true
    · rw [if_pos h, if_pos ⟨hl, h⟩]
    · rw [if_neg h, if_neg (fun h' => h h'.2)]
  · rw [if_neg (fun h' => hl h'.1)]
    exact Ev.pos (by omega) (Ev.now _)
theorem impl_rec_loop (l : List S36) (hl : l.length ≤ 1048576) (hv : ∀ v ∈ l, VIn v) : ∀ (d i : Nat), i + d = l.length → i ≤ 300 → (l.take i).all vGood = true →
    Ev (fun k => impl_RecPrint.l0 k ((l.take i).map word) l (l.length : Int) (i : Int)) (recR l) := by
  intro d
  induction d with
  | zero =>
    intro i hi h3 ha
    obtain rfl : i = l.length := by omega
    rw [List.take_length] at ha ⊢
    have hs := jn_size (l.map word) (fun x hx => by
        obtain ⟨v, hv1, rfl⟩ := List.mem_map.1 hx
        exact word_size (hv v hv1) (List.all_eq_true.1 ha v hv1))
    rw [List.length_map] at hs
    unfold recR
    rw [if_pos ⟨h3, ha⟩]
    exact Ev.step (fun k => by rw [impl_RecPrint.l0]) (by exact Ev.neg (by omega) (Ev.here (join_some _ (by omega) (by rw [List.length_map]; omega)) (Ev.now _)))
  | succ d ih =>
    intro i hi h3 ha
    have hil : i < l.length := by omega
    have e : rd_T36 l (i : Int) = l.getD i z36 := rfl
    rw [getD_eq hil] at e
    have hm : l[i] ∈ l := List.getElem_mem _
    have hvi := hv _ hm
    have et : l.take (i + 1) = l.take i ++ [l[i]] := by rw [List.take_succ_eq_append_getElem hil]
    have hlen : ((l.take i).map word).length = i := by rw [List.length_map, List.length_take]; omega
    have e7 : wrap64 ((i : Int) + 1) = ((i + 1 : Nat) : Int) := by rw [wrap64_id (by omega) (by omega)]; omega
    refine Ev.step (fun k => by rw [impl_RecPrint.l0]) ?_
    rw [e, e7]
    refine Ev.pos (by omega) (Ev.pos (by omega) (Ev.pos (by omega) (Ev.bind (impl_valText_ev hvi) ?_)))
    cases hg : vGood l[i] with
    | false =>
      unfold recR
      rw [if_neg (fun h => by rw [List.all_eq_true.1 h.2 _ hm] at hg; cases hg)]
      exact Ev.neg Bool.false_ne_true (Ev.now _)
    | true =>
      refine Ev.pos rfl ?_
      by_cases h300 : i = 300
      · unfold recR
        rw [if_neg (fun h => by omega)]
        exact Ev.pos (by rw [hlen]; omega) (Ev.now _)
      · have hnext := ih (i + 1) (by omega) (by omega) (by rw [et, List.all_append, ha]; simp [hg])
        rw [et, List.map_append, List.map_cons, List.map_nil] at hnext
        exact Ev.neg (by rw [hlen]; omega) (Ev.pos (by rw [hlen]; omega) hnext)
theorem impl_RecPrint_ev (l : List S36) (hl : l.length ≤ 1048576) (hv : ∀ v ∈ l, VIn v) : Ev (fun k => impl_RecPrint.f k l) (recR l) := by
  unfold impl_RecPrint.f
  exact impl_rec_loop l hl hv l.length 0 (by omega) (by omega) (by simp)
theorem szValS_fine (l : List S45) (hw : l.length ≤ maxLen) (ht : ∀ x ∈ l, w45 x) (c : Int) (h0 : 0 ≤ c) (h1 : c ≤ 1048576) : ∃ r, Ev (fun k => laws_szValS.f k l c) r ∧ r ≤ c ∧ (0 ≤ r → r + l.length ≤ c ∧ ∀ x ∈ l, x.f1.size ≤ 1048576) := by
  have hm : l.length ≤ 9223372036854775807 := by unfold maxLen at hw; omega
  have key : ∀ (d i : Nat) (c : Int), i + d = l.length → 0 ≤ c → c ≤ 1048576 → l.length ≤ 1048576 → ∃ r, Ev (fun k => laws_szValS.l0 k l c (i : Int)) r ∧ r ≤ c ∧ (0 ≤ r → ∀ x ∈ l.drop i, x.f1.size ≤ 1048576) := by
    intro d
    induction d with
    | zero =>
      intro i c hi c0 c1 hl
      refine ⟨c, Ev.step (fun k => by rw [laws_szValS.l0]) (Ev.neg (by omega) (Ev.now _)), by omega, fun _ x hx => ?_⟩
      rw [List.drop_eq_nil_of_le (by omega)] at hx
      cases hx
    | succ d ih =>
      intro i c hi c0 c1 hl
      have hil : i < l.length := by omega
      have e : rd_T45 l (i : Int) = l.getD i z45 := rfl
      rw [getD_eq hil] at e
      have hs := (ht _ (List.getElem_mem hil)).2
      unfold maxLen at hs
      have ed : l.drop i = l[i] :: l.drop (i + 1) := List.drop_eq_getElem_cons hil
      by_cases n0 : c - ((l[i]).f1.size : Int) < 0
      · refine ⟨-1, ?_, by omega, by omega⟩
        refine Ev.step (fun k => by rw [laws_szValS.l0]) (Ev.pos (by omega) (Ev.pos (by omega) ?_))
        rw [e]
        refine Ev.here (a := -1) ?_ (Ev.pos (by omega) (Ev.now _))
        unfold laws_szVal.f
        rw [wrap64_id (by omega) (by omega), if_pos n0]
      · obtain ⟨r, hr, hc, hx⟩ := ih (i + 1) (c - ((l[i]).f1.size : Int)) (by omega) (by omega) (by omega) hl
        refine ⟨r, ?_, by omega, fun h x hxm => ?_⟩
        · refine Ev.step (fun k => by rw [laws_szValS.l0]) (Ev.pos (by omega) (Ev.pos (by omega) ?_))
          rw [e, wrap64_id (x := (i : Int) + 1) (by omega) (by omega)]
          refine Ev.here (a := c - ((l[i]).f1.size : Int)) ?_ (Ev.neg n0 (by simpa using hr))
          unfold laws_szVal.f
          rw [wrap64_id (by omega) (by omega), if_neg n0]
        · rw [ed] at hxm
          rcases List.mem_cons.1 hxm with rfl | hxm
          · omega
          · exact hx h x hxm
  unfold laws_szValS.f
  rw [wrap64_id (by omega) (by omega)]
  by_cases hn : c - (l.length : Int) < 0
  · exact ⟨-1, Ev.pos hn (Ev.now _), by omega, by omega⟩
  · obtain ⟨r, hr, hrc, hx⟩ := key l.length 0 (c - (l.length : Int)) (by omega) (by omega) (by omega) (by omega)
    refine ⟨r, Ev.neg hn (by simpa using hr), by omega, fun h => ⟨by omega, fun x hx' => hx h x (by simpa using hx')⟩⟩
theorem eqRec_ev (l : List S36) (hl : l.length ≤ 1048576) : Ev (fun k => laws_eqRec.f k l l) true := by
  unfold laws_eqRec.f
  exact Ev.bind (eqValS_ev l (by omega)) (Ev.pos rfl (Ev.now _))
theorem szRec_ev (l : List S45) (hw : l.length ≤ maxLen) (ht : ∀ x ∈ l, w45 x) (c : Int) (h0 : 0 ≤ c) (h1 : c ≤ 1048576) : ∃ r, Ev (fun k => laws_szRec.f k l c) r ∧ r ≤ c ∧ (0 ≤ r → r + l.length ≤ c ∧ ∀ x ∈ l, x.f1.size ≤ 1048576) := by
  obtain ⟨r, hr, hc, hl⟩ := szValS_fine l hw ht c h0 h1
  unfold laws_szRec.f
  by_cases hn : r < 0
  · exact ⟨-1, Ev.bind hr (Ev.pos hn (Ev.now _)), by omega, by omega⟩
  · exact ⟨r, Ev.bind hr (Ev.neg hn (Ev.now _)), hc, hl⟩
theorem toRec_ev (l : List S45) (hl : l.length ≤ 1048576) : Ev (fun k => laws_toRec.f k l) (l.map cvVal) := by
  unfold laws_toRec.f
  exact Ev.bind (toValS_ev l hl) (Ev.now _)
theorem FnExactRecPrint : ∀ (x0 : S24), (w24 x0) → ∃ k, laws_FnExactRecPrint.f k x0.f0 = some true := by
  intro x hx
  refine Ev.rounds ?_
  unfold laws_FnExactRecPrint.f
  obtain ⟨r1, s1, c1, l1⟩ := szRec_ev x.f0 hx.1 hx.2 1048576 (by omega) (by omega)
  refine Ev.bind s1 ?_
  by_cases n1 : r1 < 0
  · exact Ev.pos n1 (Ev.now _)
  refine Ev.neg n1 ?_
  have l2 := (l1 (by omega)).1
  have t := toRec_ev x.f0 (by omega)
  have hv : ∀ v ∈ x.f0.map cvVal, VIn v := fun v hv => by
    obtain ⟨y, hy, rfl⟩ := List.mem_map.1 hv
    have hw := hx.2 y hy
    have hi := i64_of hw.1
    exact ⟨hi.1, hi.2, (l1 (by omega)).2 y hy⟩
  have es := spec_RecPrint_ev (x.f0.map cvVal) hv
  have ei := impl_RecPrint_ev (x.f0.map cvVal) (by simp; omega) hv
  have q := eqRec_ev (x.f0.map cvVal) (by simp; omega)
  refine Ev.bind t (Ev.bind es (Ev.bind t (Ev.bind ei (Ev.pos rfl ?_))))
  have e : ((recR (x.f0.map cvVal)).2 != (recR (x.f0.map cvVal)).2) = false := by simp
  rw [e]
  exact Ev.step (fun k => by rw [laws_FnExactRecPrint.j0]) (by exact Ev.neg (by decide) (Ev.bind t (Ev.bind q (Ev.pos rfl (Ev.now _)))))
end Go.Proofs.YtfaaoljihmlbmaaDoor.Pure
