/- The machine's side of FnExactRecPrint, written by wip/tools/hyb.py of this repo: each Go function as a plain Lean function, and the proof that the call comes to just its answer. No condition. -/
import Derived.Lib.AppendIntMem
import Derived.Test.YtfaaoljihmlbmaaDoorPFnExactRecPrintx0
import Derived.Test.YtfaaoljihmlbmaaDoorPFnExactRecPrintx1
namespace Go.Proofs.YtfaaoljihmlbmaaDoor.PFnExactRecPrint
open Go.RowKit Go.Proofs.YtfaaoljihmlbmaaDoorW.PrintWords Go.Proofs.YtfaaoljihmlbmaaDoorW.PrintLast Go.Proofs.YtfaaoljihmlbmaaDoorW.PrintMore Go.Proofs.YtfaaoljihmlbmaaDoorW.PrintMore2
attribute [local go_sem] max2_int min2_int max_two min_two max_three min_three max_four min_four   -- for this text's walks alone
set_option linter.unusedVariables false
set_option linter.unusedSimpArgs false

/-! ### strconv_Itoa_18: function 18 -/
def strconv_Itoa_18.f (a0 : Int) : Option ByteArray := if -9223372036854775808 ≤ a0 ∧ a0 ≤ 9223372036854775807 then some ⟨(Lib.itoa a0).toArray⟩ else none
/-- The library's table lies as its text lays it. -/
def TabOk (w : World) : Prop := Lib.TabIs Tryd.prog w "internal/strconv.uint64pow10" .u64 Lib.pow10Tab
theorem tabOn {w w1 w2 : World} (h : Aside0 (Lib.TabBelow Tryd.prog w.heap.size w "internal/strconv.uint64pow10" .u64 Lib.pow10Tab)) (hb : Aside0 (Below w.heap.size w w1)) (k : Below w.heap.size w w1 → Below w.heap.size w w2 := by (intro hb_; repeat (first | (with_reducible first | exact hb_ | apply below_alloc | apply pw_below_drewN | apply below_drew1 | refine below_set ?_ (Aside0.out (by assumption))) | exact hb_))) : TabOk w2 := (h.out.on (k hb.out)).here
theorem strconv_Itoa_18.calls (a0 : Int) (r : ByteArray) (w : World) (hT : TabOk w) (h : strconv_Itoa_18.f a0 = some r) :
    Calls Tryd.prog 18 #[.int .i64 a0] w fun e w' => e = .returned (.string r) ∧ Below w.heap.size w w' := by
  unfold strconv_Itoa_18.f at h
  obtain ⟨⟨h0, h1⟩, h⟩ := ifs h
  cases h
  refine (Tryd.strconv_Itoa a0 h0 h1 w hT).mono fun e w' he => ?_
  obtain ⟨rfl, k, os, rfl⟩ := he
  exact ⟨rfl, Lib.below_grow w.heap.size w (Nat.le_refl _) k os⟩

/-! ### impl_valText: function 13 -/
def impl_valText.l0 : Nat → ByteArray → Int → Int → Int → ByteArray → Option (ByteArray × Bool)
  | 0, _, _, _, _, _ => none
  | k + 1, x4, x14, x15, x153000, x153001 => if x15 < x14 then (if 0 ≤ x15 then (if x15 < (x153001.size : Int) then (if 0 ≤ ((Int.tdiv (bt x153001 x15) 16) % 256) then (if ((Int.tdiv (bt x153001 x15) 16) % 256) ≤ ((((Int.tdiv (bt x153001 x15) 16) % 256) + 1) % 256) then (if ((((Int.tdiv (bt x153001 x15) 16) % 256) + 1) % 256) ≤ 16 then (if 0 ≤ (Int.tmod (bt x153001 x15) 16) then (if (Int.tmod (bt x153001 x15) 16) ≤ (((Int.tmod (bt x153001 x15) 16) + 1) % 256) then (if (((Int.tmod (bt x153001 x15) 16) + 1) % 256) ≤ 16 then (if ((⟨#[48, 49, 50, 51, 52, 53, 54, 55, 56, 57, 97, 98, 99, 100, 101, 102]⟩ : ByteArray).extract (((Int.tdiv (bt x153001 x15) 16) % 256) : Int).toNat (((((Int.tdiv (bt x153001 x15) 16) % 256) + 1) % 256) : Int).toNat).size + ((⟨#[48, 49, 50, 51, 52, 53, 54, 55, 56, 57, 97, 98, 99, 100, 101, 102]⟩ : ByteArray).extract ((Int.tmod (bt x153001 x15) 16) : Int).toNat ((((Int.tmod (bt x153001 x15) 16) + 1) % 256) : Int).toNat).size ≤ 9223372036854775807 then (if x4.size + (((⟨#[48, 49, 50, 51, 52, 53, 54, 55, 56, 57, 97, 98, 99, 100, 101, 102]⟩ : ByteArray).extract (((Int.tdiv (bt x153001 x15) 16) % 256) : Int).toNat (((((Int.tdiv (bt x153001 x15) 16) % 256) + 1) % 256) : Int).toNat) ++ ((⟨#[48, 49, 50, 51, 52, 53, 54, 55, 56, 57, 97, 98, 99, 100, 101, 102]⟩ : ByteArray).extract ((Int.tmod (bt x153001 x15) 16) : Int).toNat ((((Int.tmod (bt x153001 x15) 16) + 1) % 256) : Int).toNat)).size ≤ 9223372036854775807 then (impl_valText.l0 k (x4 ++ (((⟨#[48, 49, 50, 51, 52, 53, 54, 55, 56, 57, 97, 98, 99, 100, 101, 102]⟩ : ByteArray).extract (((Int.tdiv (bt x153001 x15) 16) % 256) : Int).toNat (((((Int.tdiv (bt x153001 x15) 16) % 256) + 1) % 256) : Int).toNat) ++ ((⟨#[48, 49, 50, 51, 52, 53, 54, 55, 56, 57, 97, 98, 99, 100, 101, 102]⟩ : ByteArray).extract ((Int.tmod (bt x153001 x15) 16) : Int).toNat ((((Int.tmod (bt x153001 x15) 16) + 1) % 256) : Int).toNat))) x14 (wrap64 (x15 + 1)) x153000 x153001) else (none)) else (none)) else (none)) else (none)) else (none)) else (none)) else (none)) else (none)) else (none)) else (none)) else (if x153000 = 0 then (some (x4, decide ((x153001.size : Int) ≤ 40))) else (some (x4, false)))
def impl_valText.f (k : Nat) (a0_0 : Int) (a0_1 : ByteArray) : Option (ByteArray × Bool) := if a0_1.toList = ([] : List UInt8) then ((strconv_Itoa_18.f a0_0).bind fun t153 => (some (t153, true))) else (impl_valText.l0 k (⟨#[120]⟩ : ByteArray) (a0_1.size : Int) 0 a0_0 a0_1)
set_option maxHeartbeats 8000000 in
set_option maxRecDepth 100000 in
theorem impl_valText.calls (k : Nat) (a0_0 : Int) (a0_1 : ByteArray) (r1 : ByteArray) (r2 : Bool) (w : World) (hT_ : TabOk w) (h : impl_valText.f k a0_0 a0_1 = some (r1, r2)) :
    Calls Tryd.prog 13 #[.agg #[.int .i64 a0_0, .string a0_1]] w fun e w' => e = .returned (.tuple #[.string r1, .bool r2]) ∧ Below w.heap.size w w' := by
  have HT_0 := Aside0.mk (Lib.tabBelow_of_tabIs hT_)
  clear hT_
  have hu36 := Tryd.underlying36
  have HB := Aside0.mk (Below.refl w.heap.size w)
  have H : (if a0_1.toList = ([] : List UInt8) then ((strconv_Itoa_18.f a0_0).bind fun t153 => (some (t153, true))) else (impl_valText.l0 k (⟨#[120]⟩ : ByteArray) (a0_1.size : Int) 0 a0_0 a0_1)) = some (r1, r2) := h
  clear h
  by_cases c2 : a0_1.toList = ([] : List UInt8)
  · rw [if_pos c2] at H
    have c2b0 : (a0_1.toList == ([] : List UInt8)) = true := beq_iff_eq.mpr c2
    have c2b1 : (a0_1.toList != ([] : List UInt8)) = false := bne_eq_false_iff_eq.mpr c2
    clear c2
    replace H := bnd H
    obtain ⟨t153, A3, H⟩ := H
    simp only [Option.some.injEq, Prod.mk.injEq] at H
    obtain ⟨rfl, rfl⟩ := H
    go_enter Tryd.func13, Tryd.ntmps13
    go_wp2_with (first | ((with_reducible refine gate_dst (N := 1) rfl ?_); (try (refine gate_guard (by rfl) ?_; dsimp only)); refine bx_ 1 #[.int .i64 a0_0, .string a0_1] 36 ?_; intro gb152 hg w4 hbox hb; have BK152 := Aside0.mk (hbox); have GW152 := gwe HB hg; have GE152 := GW152; replace HB := bst HB hb; clear hb hbox hg; obtain ⟨hcz5_0, hcz5_1, hfz5_0, hfz5_1⟩ := cl2 BK152) | (go_at_call 18; (with_reducible refine (strconv_Itoa_18.calls a0_0 t153 _ (tabOn HT_0 HB) A3.out).mono ?_); rintro e w6 ⟨rfl, hb⟩; replace BK152 := bkb BK152 hb; replace HB := bst HB hb; (try clear hb)))
    repeat (go_quiet (fail); try go_wp2_with (first | ((with_reducible refine gate_dst (N := 1) rfl ?_); (try (refine gate_guard (by rfl) ?_; dsimp only)); refine bx_ 1 #[.int .i64 a0_0, .string a0_1] 36 ?_; intro gb152 hg w4 hbox hb; have BK152 := Aside0.mk (hbox); have GW152 := gwe HB hg; have GE152 := GW152; replace HB := bst HB hb; clear hb hbox hg; obtain ⟨hcz5_0, hcz5_1, hfz5_0, hfz5_1⟩ := cl2 BK152) | (go_at_call 18; (with_reducible refine (strconv_Itoa_18.calls a0_0 t153 _ (tabOn HT_0 HB) A3.out).mono ?_); rintro e w6 ⟨rfl, hb⟩; replace BK152 := bkb BK152 hb; replace HB := bst HB hb; (try clear hb))))
    go_ret2
    exact fin_ (below_later HB.out)
  · rw [if_neg c2] at H
    have c2b0 : (a0_1.toList == ([] : List UInt8)) = false := beq_eq_false_iff_ne.mpr c2
    have c2b1 : (a0_1.toList != ([] : List UInt8)) = true := bne_iff_ne.mpr c2
    have H' := Aside0.mk H
    clear H
    go_enter Tryd.func13, Tryd.ntmps13
    go_wp2_with (first | ((with_reducible refine gate_dst (N := 1) rfl ?_); (try (refine gate_guard (by rfl) ?_; dsimp only)); refine bx_ 1 #[.int .i64 a0_0, .string a0_1] 36 ?_; intro gb152 hg w7 hbox hb; have BK152 := Aside0.mk (hbox); have GW152 := gwe HB hg; have GE152 := GW152; replace HB := bst HB hb; clear hb hbox hg; obtain ⟨hcz8_0, hcz8_1, hfz8_0, hfz8_1⟩ := cl2 BK152))
    repeat (go_quiet (fail); try go_wp2_with (first | ((with_reducible refine gate_dst (N := 1) rfl ?_); (try (refine gate_guard (by rfl) ?_; dsimp only)); refine bx_ 1 #[.int .i64 a0_0, .string a0_1] 36 ?_; intro gb152 hg w7 hbox hb; have BK152 := Aside0.mk (hbox); have GW152 := gwe HB hg; have GE152 := GW152; replace HB := bst HB hb; clear hb hbox hg; obtain ⟨hcz8_0, hcz8_1, hfz8_0, hfz8_1⟩ := cl2 BK152)))
    go_loopg [4, 15] k (fun kq v4 v15 w' => ∃ (x4_1 : ByteArray) (x15_1 : Int), v4 = .string x4_1 ∧ v15 = .int .i64 x15_1 ∧ Aside0 (impl_valText.l0 kq x4_1 (a0_1.size : Int) x15_1 a0_0 a0_1 = some (r1, r2)) ∧ Aside0 (kq ≤ k) ∧ Aside0 (w'.heap[gb152]? = some (.cells #[.int .i64 a0_0, .string a0_1] 36 (0, 0))) ∧ Aside0 (Below w.heap.size w w'))
    case atStart => exact ⟨((⟨#[120]⟩ : ByteArray)), (0), sr, sr, H', ⟨Nat.le_refl _⟩, ⟨blk_later BK152.out⟩, ⟨below_later HB.out⟩⟩
    case round =>
      clear H'
      try clear c2
      try clear c2b0
      try clear c2b1
      try clear hcz8_0
      try clear hcz8_1
      try clear hfz8_0
      try clear hfz8_1
      obtain ⟨x4_1, x15_1, rfl, rfl, HA, HK1, BK152, HB⟩ := hrel
      cases gk with
      | zero => exact absurd HA.out (by simp [impl_valText.l0])
      | succ k1 =>
        have H := HA.out
        clear HA
        simp only [impl_valText.l0] at H
        by_cases c9 : x15_1 < (a0_1.size : Int)
        · rw [if_pos c9] at H
          have c9b0 := decide_eq_true c9
          clear c9
          replace H := ifd H
          obtain ⟨c10b0, H⟩ := H
          replace H := ifd H
          obtain ⟨c11b0, H⟩ := H
          obtain ⟨ji14, hji14⟩ : ∃ j_ : Int, ((Int.tdiv (bt a0_1 x15_1) 16) % 256) = j_ := ⟨_, rfl⟩
          replace H : (if 0 ≤ (ji14) then (if (ji14) ≤ (((ji14) + 1) % 256) then (if (((ji14) + 1) % 256) ≤ 16 then (if 0 ≤ (Int.tmod (bt a0_1 x15_1) 16) then (if (Int.tmod (bt a0_1 x15_1) 16) ≤ (((Int.tmod (bt a0_1 x15_1) 16) + 1) % 256) then (if (((Int.tmod (bt a0_1 x15_1) 16) + 1) % 256) ≤ 16 then (if ((⟨#[48, 49, 50, 51, 52, 53, 54, 55, 56, 57, 97, 98, 99, 100, 101, 102]⟩ : ByteArray).extract ((ji14) : Int).toNat ((((ji14) + 1) % 256) : Int).toNat).size + ((⟨#[48, 49, 50, 51, 52, 53, 54, 55, 56, 57, 97, 98, 99, 100, 101, 102]⟩ : ByteArray).extract ((Int.tmod (bt a0_1 x15_1) 16) : Int).toNat ((((Int.tmod (bt a0_1 x15_1) 16) + 1) % 256) : Int).toNat).size ≤ 9223372036854775807 then (if x4_1.size + (((⟨#[48, 49, 50, 51, 52, 53, 54, 55, 56, 57, 97, 98, 99, 100, 101, 102]⟩ : ByteArray).extract ((ji14) : Int).toNat ((((ji14) + 1) % 256) : Int).toNat) ++ ((⟨#[48, 49, 50, 51, 52, 53, 54, 55, 56, 57, 97, 98, 99, 100, 101, 102]⟩ : ByteArray).extract ((Int.tmod (bt a0_1 x15_1) 16) : Int).toNat ((((Int.tmod (bt a0_1 x15_1) 16) + 1) % 256) : Int).toNat)).size ≤ 9223372036854775807 then (impl_valText.l0 k1 (x4_1 ++ (((⟨#[48, 49, 50, 51, 52, 53, 54, 55, 56, 57, 97, 98, 99, 100, 101, 102]⟩ : ByteArray).extract ((ji14) : Int).toNat ((((ji14) + 1) % 256) : Int).toNat) ++ ((⟨#[48, 49, 50, 51, 52, 53, 54, 55, 56, 57, 97, 98, 99, 100, 101, 102]⟩ : ByteArray).extract ((Int.tmod (bt a0_1 x15_1) 16) : Int).toNat ((((Int.tmod (bt a0_1 x15_1) 16) + 1) % 256) : Int).toNat))) (a0_1.size : Int) (wrap64 (x15_1 + 1)) a0_0 a0_1) else (none)) else (none)) else (none)) else (none)) else (none)) else (none)) else (none)) else (none)) = some (r1, r2) := by first | (rw [hji14] at H; exact H) | (simp only [hji14] at H ⊢; exact H)
          replace H := ifs H
          obtain ⟨c15, H⟩ := H
          have c15b0 := eq_true c15
          have c15b1 := decide_eq_true c15
          clear c15
          replace H := ifs H
          obtain ⟨c16, H⟩ := H
          have c16b0 := eq_true c16
          have c16b1 := decide_eq_true c16
          replace H := ifs H
          obtain ⟨c17, H⟩ := H
          have c17b0 := eq_true c17
          have c17b1 := decide_eq_true c17
          obtain ⟨ji20, hji20⟩ : ∃ j_ : Int, (Int.tmod (bt a0_1 x15_1) 16) = j_ := ⟨_, rfl⟩
          replace H : (if 0 ≤ (ji20) then (if (ji20) ≤ (((ji20) + 1) % 256) then (if (((ji20) + 1) % 256) ≤ 16 then (if ((⟨#[48, 49, 50, 51, 52, 53, 54, 55, 56, 57, 97, 98, 99, 100, 101, 102]⟩ : ByteArray).extract ((ji14) : Int).toNat ((((ji14) + 1) % 256) : Int).toNat).size + ((⟨#[48, 49, 50, 51, 52, 53, 54, 55, 56, 57, 97, 98, 99, 100, 101, 102]⟩ : ByteArray).extract ((ji20) : Int).toNat ((((ji20) + 1) % 256) : Int).toNat).size ≤ 9223372036854775807 then (if x4_1.size + (((⟨#[48, 49, 50, 51, 52, 53, 54, 55, 56, 57, 97, 98, 99, 100, 101, 102]⟩ : ByteArray).extract ((ji14) : Int).toNat ((((ji14) + 1) % 256) : Int).toNat) ++ ((⟨#[48, 49, 50, 51, 52, 53, 54, 55, 56, 57, 97, 98, 99, 100, 101, 102]⟩ : ByteArray).extract ((ji20) : Int).toNat ((((ji20) + 1) % 256) : Int).toNat)).size ≤ 9223372036854775807 then (impl_valText.l0 k1 (x4_1 ++ (((⟨#[48, 49, 50, 51, 52, 53, 54, 55, 56, 57, 97, 98, 99, 100, 101, 102]⟩ : ByteArray).extract ((ji14) : Int).toNat ((((ji14) + 1) % 256) : Int).toNat) ++ ((⟨#[48, 49, 50, 51, 52, 53, 54, 55, 56, 57, 97, 98, 99, 100, 101, 102]⟩ : ByteArray).extract ((ji20) : Int).toNat ((((ji20) + 1) % 256) : Int).toNat))) (a0_1.size : Int) (wrap64 (x15_1 + 1)) a0_0 a0_1) else (none)) else (none)) else (none)) else (none)) else (none)) = some (r1, r2) := by first | (rw [hji20] at H; exact H) | (simp only [hji20] at H ⊢; exact H)
          replace H := ifs H
          obtain ⟨c21, H⟩ := H
          have c21b0 := eq_true c21
          have c21b1 := decide_eq_true c21
          clear c21
          replace H := ifs H
          obtain ⟨c22, H⟩ := H
          have c22b0 := eq_true c22
          have c22b1 := decide_eq_true c22
          replace H := ifs H
          obtain ⟨c23, H⟩ := H
          have c23b0 := eq_true c23
          have c23b1 := decide_eq_true c23
          replace H := ifs H
          obtain ⟨c24, H⟩ := H
          have c24b0 := eq_true c24
          have c24b1 := decide_eq_true c24
          try have c24b2 : (9223372036854775807 < ((⟨#[48, 49, 50, 51, 52, 53, 54, 55, 56, 57, 97, 98, 99, 100, 101, 102]⟩ : ByteArray).extract ((ji14) : Int).toNat ((((ji14) + 1) % 256) : Int).toNat).size + ((⟨#[48, 49, 50, 51, 52, 53, 54, 55, 56, 57, 97, 98, 99, 100, 101, 102]⟩ : ByteArray).extract ((ji20) : Int).toNat ((((ji20) + 1) % 256) : Int).toNat).size) = False := eq_false (Nat.not_lt.2 c24)
          replace H := ifs H
          obtain ⟨c25, H⟩ := H
          have c25b0 := eq_true c25
          have c25b1 := decide_eq_true c25
          try have c25b2 : (9223372036854775807 < x4_1.size + (((⟨#[48, 49, 50, 51, 52, 53, 54, 55, 56, 57, 97, 98, 99, 100, 101, 102]⟩ : ByteArray).extract ((ji14) : Int).toNat ((((ji14) + 1) % 256) : Int).toNat) ++ ((⟨#[48, 49, 50, 51, 52, 53, 54, 55, 56, 57, 97, 98, 99, 100, 101, 102]⟩ : ByteArray).extract ((ji20) : Int).toNat ((((ji20) + 1) % 256) : Int).toNat)).size) = False := eq_false (Nat.not_lt.2 c25)
          have z14 : (ji14 + 1) % 256 = ji14 + 1 := by have a_ := of_eq_true c15b0; omega
          have z20 : (ji20 + 1) % 256 = ji20 + 1 := by have a_ := of_eq_true c21b0; omega
          simp only [z14, z20] at H
          try simp only [z14, z20] at c16b0
          try simp only [z14, z20] at c16b1
          try simp only [z14, z20] at c17b0
          try simp only [z14, z20] at c17b1
          try simp only [z14, z20] at c21b1
          try simp only [z14, z20] at c21b0
          try simp only [z14, z20] at c22b1
          try simp only [z14, z20] at c22b0
          try simp only [z14, z20] at c23b0
          try simp only [z14, z20] at c23b1
          try simp only [z14, z20] at c24b1
          try simp only [z14, z20] at c24b0
          try simp only [z14, z20] at c24b2
          try simp only [z14, z20] at c25b1
          try simp only [z14, z20] at c25b2
          try simp only [z14, z20] at c25b0
          have y14 := eq_true (show ji14 + 1 ≤ 16 by omega)
          have y20 := eq_true (show ji20 + 1 ≤ 16 by omega)
          have x14 := eq_true (show ji14 ≤ ji14 + 1 by omega)
          have x20 := eq_true (show ji20 ≤ ji20 + 1 by omega)
          have y25 : (9223372036854775807 < x4_1.size + ((ji14 + 1).toNat - ji14.toNat + ((ji20 + 1).toNat - ji20.toNat))) = False := eq_false (by have h_ := c25; simp only [z14, z20, ByteArray.size_append, ByteArray.size_extract, bsz, List.size_toArray, List.length_cons, List.length_nil, Nat.zero_add, Nat.reduceAdd] at h_; have a_ := of_eq_true c15b0; have b_ := of_eq_true c21b0; omega)
          have H' := Aside0.mk H
          clear H
          obtain ⟨hcz26_0, hcz26_1, hfz26_0, hfz26_1⟩ := cl2 BK152
          have p12 : 0 ≤ (x15_1 : Int) := dcd
          have q12 : x15_1 < (a0_1.size : Int) := dcd
          have hx12 := bt_at a0_1 x15_1
          replace p12 := eq_true p12
          replace q12 := eq_true q12
          have p13 : 0 ≤ (x15_1 : Int) := dcd
          have q13 : x15_1 < (a0_1.size : Int) := dcd
          have hx13 := bt_at a0_1 x15_1
          replace p13 := eq_true p13
          replace q13 := eq_true q13
          have p18 : 0 ≤ (x15_1 : Int) := dcd
          have q18 : x15_1 < (a0_1.size : Int) := dcd
          have hx18 := bt_at a0_1 x15_1
          replace p18 := eq_true p18
          replace q18 := eq_true q18
          have p19 : 0 ≤ (x15_1 : Int) := dcd
          have q19 : x15_1 < (a0_1.size : Int) := dcd
          have hx19 := bt_at a0_1 x15_1
          replace p19 := eq_true p19
          replace q19 := eq_true q19
          go_wp2
          repeat (go_quiet (fail); try go_wp2)
          go_roundg k1
          case measure => have := HK1.out; omega
          case rel => exact ⟨(x4_1 ++ (((⟨#[48, 49, 50, 51, 52, 53, 54, 55, 56, 57, 97, 98, 99, 100, 101, 102]⟩ : ByteArray).extract ((ji14) : Int).toNat ((ji14 + 1) : Int).toNat) ++ ((⟨#[48, 49, 50, 51, 52, 53, 54, 55, 56, 57, 97, 98, 99, 100, 101, 102]⟩ : ByteArray).extract ((ji20) : Int).toNat ((ji20 + 1) : Int).toNat))), (wrap64 (x15_1 + 1)), (by first | rfl | (simp; done) | (simp only [← hji14, ← hji20] <;> (first | rfl | simp)) | (simp [*]; done)), sr, H', ⟨by have := HK1.out; omega⟩, ⟨blk_later BK152.out⟩, ⟨below_later HB.out⟩⟩
        · rw [if_neg c9] at H
          have c9b0 := decide_eq_false c9
          clear c9
          by_cases c27 : a0_0 = 0
          · rw [if_pos c27] at H
            have c27b0 : (a0_0 == 0) = true := beq_iff_eq.mpr c27
            have c27b1 : (a0_0 != 0) = false := bne_eq_false_iff_eq.mpr c27
            clear c27
            simp only [Option.some.injEq, Prod.mk.injEq] at H
            obtain ⟨rfl, rfl⟩ := H
            obtain ⟨hcz28_0, hcz28_1, hfz28_0, hfz28_1⟩ := cl2 BK152
            go_wp2
            repeat (go_quiet (fail); try go_wp2)
            go_ret2
            exact fin_ (below_later HB.out)
          · rw [if_neg c27] at H
            have c27b0 : (a0_0 == 0) = false := beq_eq_false_iff_ne.mpr c27
            have c27b1 : (a0_0 != 0) = true := bne_iff_ne.mpr c27
            simp only [Option.some.injEq, Prod.mk.injEq] at H
            obtain ⟨rfl, rfl⟩ := H
            obtain ⟨hcz29_0, hcz29_1, hfz29_0, hfz29_1⟩ := cl2 BK152
            go_wp2
            repeat (go_quiet (fail); try go_wp2)
            go_ret2
            exact fin_ (below_later HB.out)

-- NOT PRINTED: function 27 (abi_NoEscape)

-- NOT PRINTED: function 24 (strings_Builder_copyCheck)

-- NOT PRINTED: function 28 (bytealg_MakeNoZero)

-- NOT PRINTED: function 25 (strings_Builder_grow)

-- NOT PRINTED: function 19 (strings_Builder_Grow)

-- NOT PRINTED: function 20 (strings_Builder_WriteString)

-- NOT PRINTED: function 21 (strings_Builder_String)

/-! ### strings_Join: function 14 -/
def strings_Join.f (l0 : List ByteArray) (a1 : ByteArray) : Option ByteArray := if (Lib.join (l0.map (·.data.toList)) a1.data.toList).length ≤ 140737488355328 ∧ l0.length ≤ 140737488355328 then some ⟨(Lib.join (l0.map (·.data.toList)) a1.data.toList).toArray⟩ else none
set_option maxHeartbeats 8000000 in
theorem strings_Join.calls (A0 : Option Addr) (c0 : Nat) (l0 : List ByteArray) (a1 : ByteArray) (r : ByteArray) (w : World) (hr0 : Kd.C Kd.string w A0 l0.length l0) (hc0 : l0.length ≤ c0) (h : strings_Join.f l0 a1 = some r) :
    Calls Tryd.prog 14 #[.slice A0 l0.length c0, .string a1] w fun e w' => e = .returned (.string r) ∧ Below w.heap.size w w' := by
  unfold strings_Join.f at h
  split at h
  case isFalse => cases h
  rename_i hh
  obtain rfl := Option.some.inj h
  cases l0 with
  | nil => exact (Tryd.strings_Join_none A0 c0 a1 w).mono fun e w' ⟨he, hw⟩ => ⟨he, hw ▸ Below.refl _ _⟩
  | cons x t =>
    obtain ⟨_, _, hcells⟩ := Kd.reads_of_C (enc := Value.string) (d := (⟨#[]⟩ : ByteArray)) (h1 := fun _ => rfl) hr0
    obtain ⟨ad, rfl, hc⟩ := hcells (by simp)
    have h0 := hc 0 (by simp)
    rw [show ad.add 0 = ad from rfl] at h0
    have hs := World.cell?_spot h0
    obtain ⟨bk, o, sp⟩ := ad
    obtain rfl : sp = none := hs
    have hb := World.block_lt_of_cell? w _ h0
    refine (Tryd.strings_Join bk o c0 (x :: t) a1 w (fun j y hj => ?_) hb hh.2 hc0 hh.1)
    have hl : j < (x :: t).length := by
      by_cases q : j < (x :: t).length
      · exact q
      · rw [List.getElem?_eq_none (by omega)] at hj; cases hj
    have hcj := hc j hl
    rw [List.getD_eq_getElem?_getD, hj] at hcj
    cases j with
    | zero => exact hcj
    | succ j => exact hcj

/-! ### impl_RecPrint: function 7 -/
def impl_RecPrint.l0 : Nat → List ByteArray → List (S36) → Int → Int → Option (ByteArray × Bool)
  | 0, _, _, _, _ => none
  | k + 1, x4, x11, x12, x13 => if x13 < x12 then (if 0 ≤ x13 then (if x13 < (x11.length : Int) then ((impl_valText.f k ((rd_T36 x11 x13).f0) ((rd_T36 x11 x13).f1)).bind fun bt160 => (if bt160.2 = true then (if (x4.length : Int) = 300 then (some ((⟨#[]⟩ : ByteArray), false)) else (if x4.length < 8796093022208 then (impl_RecPrint.l0 k (x4 ++ [bt160.1]) x11 x12 (wrap64 (x13 + 1))) else (none))) else (some ((⟨#[]⟩ : ByteArray), false)))) else (none)) else (none)) else ((strings_Join.f x4 (⟨#[32]⟩ : ByteArray)).bind fun t165 => (some (t165, true)))
def impl_RecPrint.f (k : Nat) (l0_0 : List (S36)) : Option (ByteArray × Bool) := impl_RecPrint.l0 k (([] : List ByteArray)) l0_0 (l0_0.length : Int) 0
set_option maxHeartbeats 8000000 in
set_option maxRecDepth 100000 in
theorem impl_RecPrint.calls (k : Nat) (A0_0 : Option Addr) (c0_0 : Nat) (l0_0 : List (S36)) (r1 : ByteArray) (r2 : Bool) (w : World) (hr0_0 : Kd.C k36 w A0_0 l0_0.length l0_0) (hc0_0 : l0_0.length ≤ c0_0) (hT_ : TabOk w) (h : impl_RecPrint.f k l0_0 = some (r1, r2)) :
    Calls Tryd.prog 7 #[.agg #[.slice A0_0 l0_0.length c0_0]] w fun e w' => e = .returned (.tuple #[.string r1, .bool r2]) ∧ Below w.heap.size w w' := by
  have HT_0 := Aside0.mk (Lib.tabBelow_of_tabIs hT_)
  clear hT_
  have hu30 := Tryd.underlying30
  have hu36 := Tryd.underlying36
  have HR0_0 := Aside0.mk hr0_0
  have HC0_0 := Aside0.mk hc0_0
  clear hr0_0 hc0_0
  have HB := Aside0.mk (Below.refl w.heap.size w)
  have H : (impl_RecPrint.l0 k (([] : List ByteArray)) l0_0 (l0_0.length : Int) 0) = some (r1, r2) := h
  clear h
  obtain ⟨y155, hy155⟩ : ∃ y_ : List ByteArray, y_ = (([] : List ByteArray)) := ⟨_, rfl⟩
  replace H : (impl_RecPrint.l0 k y155 l0_0 (l0_0.length : Int) 0) = some (r1, r2) := by first | (rw [hy155]; with_reducible exact H) | (rw [hy155]; exact H) | exact H
  have Ny155 := Aside0.mk hy155
  clear hy155
  have H' := Aside0.mk H
  clear H
  go_enter Tryd.func7, Tryd.ntmps7
  go_wp2_with (first | ((with_reducible refine gate_dst (N := 1) rfl ?_); (try (refine gate_guard (by rfl) ?_; dsimp only)); refine bx_ 1 #[.slice A0_0 l0_0.length c0_0] 30 ?_; intro gb154 hg w2 hbox hb; have BK154 := Aside0.mk (hbox); have GW154 := gwe HB hg; have GE154 := GW154; replace HB := bst HB hb; clear hb hbox hg) | ((with_reducible refine gate_dst (N := 9) rfl ?_); (try (refine gate_guard (by rfl) ?_; dsimp only)); refine Kd.R_lit Kd.string _ 9 ?hg (N := 9) ?hd (xs := ([] : List ByteArray)) (inner := []) (ok := fun _ => True) (okp := fun _ => True) ?hr ?hp (fun _ hk => hk) trivial (Below.refl _ _) (Nat.le_refl _) (by simp) ?_; (case hd => rfl); (case hg => rfl); (case hr => first | (go_simp; done) | (go_simp; rfl)); (case hp => exact (Reps.none _ _)); intro v156 w3 ho4 hb hg_ hnew_; clear hg_ hnew_; (first | rw [← Ny155.out] at ho4 | (simp only [Int.reduceToNat] at ho4; rw [← Ny155.out] at ho4)); have HO157 := Aside0.mk (Kd.R_lower ho4 (below_size (below_later HB.out))); replace BK154 := bkb BK154 hb; replace HB := bst HB hb; clear hb ho4; obtain ⟨hcz5_0, hfz5_0⟩ := cl1 BK154))
  go_loopg [4, 13] k (fun kq v4 v13 w' => ∃ (x4_1 : List ByteArray) (x13_1 : Int), v13 = .int .i64 x13_1 ∧ Aside0 (impl_RecPrint.l0 kq x4_1 l0_0 (l0_0.length : Int) x13_1 = some (r1, r2)) ∧ Aside0 (kq ≤ k) ∧ Aside0 (Kd.R Kd.string 9 w' w.heap.size (fun _ => True) v4 x4_1) ∧ Aside0 (w'.heap[gb154]? = some (.cells #[(.slice A0_0 l0_0.length c0_0)] 30 (0, 0))) ∧ Aside0 (Below w.heap.size w w'))
  case atStart => exact ⟨(y155), (0), sr, H', ⟨Nat.le_refl _⟩, ⟨R_later HO157.out⟩, ⟨blk_later BK154.out⟩, ⟨below_later HB.out⟩⟩
  case round =>
    clear H'
    try clear hcz5_0
    try clear hfz5_0
    obtain ⟨x4_1, x13_1, rfl, HA, HK1, HO_4, BK154, HB⟩ := hrel
    cases gk with
    | zero => exact absurd HA.out (by simp [impl_RecPrint.l0])
    | succ k1 =>
      have H := HA.out
      clear HA
      simp only [impl_RecPrint.l0] at H
      by_cases c6 : x13_1 < (l0_0.length : Int)
      · rw [if_pos c6] at H
        have c6b0 := decide_eq_true c6
        clear c6
        replace H := ifd H
        obtain ⟨c7b0, H⟩ := H
        replace H := ifd H
        obtain ⟨c8b0, H⟩ := H
        replace H := Option.bind_eq_some_iff.mp H
        obtain ⟨⟨t160, t161⟩, A90, H⟩ := H
        replace H : (if t161 = true then (if (x4_1.length : Int) = 300 then (some ((⟨#[]⟩ : ByteArray), false)) else (if x4_1.length < 8796093022208 then (impl_RecPrint.l0 k1 (x4_1 ++ [t160]) l0_0 (l0_0.length : Int) (wrap64 (x13_1 + 1))) else (none))) else (some ((⟨#[]⟩ : ByteArray), false))) = some (r1, r2) := H
        have A9 := Aside0.mk A90
        clear A90
        by_cases c10 : t161 = true
        · subst c10
          replace H := ifp rfl H
          by_cases c11 : (x4_1.length : Int) = 300
          · rw [if_pos c11] at H
            have c11b0 : ((x4_1.length : Int) == 300) = true := beq_iff_eq.mpr c11
            have c11b1 : ((x4_1.length : Int) != 300) = false := bne_eq_false_iff_eq.mpr c11
            clear c11
            simp only [Option.some.injEq, Prod.mk.injEq] at H
            obtain ⟨rfl, rfl⟩ := H
            have p158 : 0 ≤ (x13_1 : Int) := dcd
            have q158 : x13_1 < (l0_0.length : Int) := dcd
            obtain ⟨ad158, e158, hx158_0, hx158_1⟩ := at_T36 HR0_0.out x13_1 p158 q158
            cases e158
            replace hx158_0 := crd HB hx158_0
            replace hx158_1 := crd HB hx158_1
            replace p158 := eq_true p158
            replace q158 := eq_true q158
            go_wp2_with (first | ((with_reducible refine gate_dst (N := 6) rfl ?_); (try (refine gate_guard (by rfl) ?_; dsimp only)); refine bx_ 6 #[.int .i64 0, .string (⟨#[]⟩ : ByteArray)] 36 ?_; intro gb159 hg w12 hbox hb; have BK159 := Aside0.mk (hbox); have GW159 := gwe HB hg; have GE159 := GW159; have NB154_159 := nbl BK154 hg; have NB159_154 := nbr (nbl BK154 hg); replace HO_4 := Aside0.mk (Kd.R_below (R_later HO_4.out) hb); replace BK154 := bkb BK154 hb; replace HB := bst HB hb; clear hb hbox hg; have hnb13 := NB159_154.out; have hnc13 := NB154_159.out; obtain ⟨hcz14_0, hcz14_1, hfz14_0, hfz14_1⟩ := cl2 BK159) | ((with_reducible refine gate_callee (f := 13) rfl ?_); refine gl_ (some 19) Tryd.func13 #[.agg #[.int .i64 ((rd_T36 l0_0 x13_1).f0), .string ((rd_T36 l0_0 x13_1).f1)]] rfl ?_; (with_reducible refine (impl_valText.calls k1 ((rd_T36 l0_0 x13_1).f0) ((rd_T36 l0_0 x13_1).f1) t160 true _ (tabOn HT_0 HB) A9.out).mono ?_); rintro e w15 ⟨rfl, hb⟩; refine ⟨_, rfl, ?_⟩; replace HO_4 := Aside0.mk (Kd.R_below (by (with_reducible repeat (first | apply Kd.R_alloc | apply Kd.R_drewN | apply Kd.R_drew)); exact (Kd.R_mono (Kd.R_far (p := ⟨gb159, 1, none⟩) (Kd.R_far (p := ⟨gb159, 0, none⟩) (Kd.R_types HO_4.out BK159.out (by decide)) (fun _ hk => hk.2) (.int .i64 ((rd_T36 l0_0 x13_1).f0))) (fun _ hk => hk.2) (.string ((rd_T36 l0_0 x13_1).f1))) (fun _ h_ => h_.1))) hb); replace BK154 := bkb BK154 hb; replace BK159 := Aside0.mk (blk_below (g := gb159) (o := .cells #[.int .i64 ((rd_T36 l0_0 x13_1).f0), .string ((rd_T36 l0_0 x13_1).f1)] 36 (0, 0)) (blk_later BK159.out) hb); replace HB := bst HB hb; (try clear hb); (try clear hk); obtain ⟨Ao16, co16, eo16⟩ := Kd.R_slice HO_4.out; subst eo16))
            go_ret2
            exact fin_ (below_later HB.out)
          · rw [if_neg c11] at H
            have c11b0 : ((x4_1.length : Int) == 300) = false := beq_eq_false_iff_ne.mpr c11
            have c11b1 : ((x4_1.length : Int) != 300) = true := bne_iff_ne.mpr c11
            replace H := ifs H
            obtain ⟨c17, H⟩ := H
            have LMc17 := Aside0.mk c17
            clear c17
            obtain ⟨y162, hy162⟩ : ∃ y_ : List ByteArray, y_ = (x4_1 ++ [t160]) := ⟨_, rfl⟩
            replace H : (impl_RecPrint.l0 k1 y162 l0_0 (l0_0.length : Int) (wrap64 (x13_1 + 1))) = some (r1, r2) := by first | (rw [hy162]; with_reducible exact H) | (rw [hy162]; exact H) | exact H
            have Ny162 := Aside0.mk hy162
            clear hy162
            have H' := Aside0.mk H
            clear H
            have p158 : 0 ≤ (x13_1 : Int) := dcd
            have q158 : x13_1 < (l0_0.length : Int) := dcd
            obtain ⟨ad158, e158, hx158_0, hx158_1⟩ := at_T36 HR0_0.out x13_1 p158 q158
            cases e158
            replace hx158_0 := crd HB hx158_0
            replace hx158_1 := crd HB hx158_1
            replace p158 := eq_true p158
            replace q158 := eq_true q158
            go_wp2_with (first | ((with_reducible refine gate_dst (N := 6) rfl ?_); (try (refine gate_guard (by rfl) ?_; dsimp only)); refine bx_ 6 #[.int .i64 0, .string (⟨#[]⟩ : ByteArray)] 36 ?_; intro gb159 hg w18 hbox hb; have BK159 := Aside0.mk (hbox); have GW159 := gwe HB hg; have GE159 := GW159; have NB154_159 := nbl BK154 hg; have NB159_154 := nbr (nbl BK154 hg); replace HO_4 := Aside0.mk (Kd.R_below (R_later HO_4.out) hb); replace BK154 := bkb BK154 hb; replace HB := bst HB hb; clear hb hbox hg; have hnb19 := NB159_154.out; have hnc19 := NB154_159.out; obtain ⟨hcz20_0, hcz20_1, hfz20_0, hfz20_1⟩ := cl2 BK159) | ((with_reducible refine gate_callee (f := 13) rfl ?_); refine gl_ (some 19) Tryd.func13 #[.agg #[.int .i64 ((rd_T36 l0_0 x13_1).f0), .string ((rd_T36 l0_0 x13_1).f1)]] rfl ?_; (with_reducible refine (impl_valText.calls k1 ((rd_T36 l0_0 x13_1).f0) ((rd_T36 l0_0 x13_1).f1) t160 true _ (tabOn HT_0 HB) A9.out).mono ?_); rintro e w21 ⟨rfl, hb⟩; refine ⟨_, rfl, ?_⟩; replace HO_4 := Aside0.mk (Kd.R_below (by (with_reducible repeat (first | apply Kd.R_alloc | apply Kd.R_drewN | apply Kd.R_drew)); exact (Kd.R_mono (Kd.R_far (p := ⟨gb159, 1, none⟩) (Kd.R_far (p := ⟨gb159, 0, none⟩) (Kd.R_types HO_4.out BK159.out (by decide)) (fun _ hk => hk.2) (.int .i64 ((rd_T36 l0_0 x13_1).f0))) (fun _ hk => hk.2) (.string ((rd_T36 l0_0 x13_1).f1))) (fun _ h_ => h_.1))) hb); replace BK154 := bkb BK154 hb; replace BK159 := Aside0.mk (blk_below (g := gb159) (o := .cells #[.int .i64 ((rd_T36 l0_0 x13_1).f0), .string ((rd_T36 l0_0 x13_1).f1)] 36 (0, 0)) (blk_later BK159.out) hb); replace HB := bst HB hb; (try clear hb); (try clear hk); obtain ⟨Ao22, co22, eo22⟩ := Kd.R_slice HO_4.out; subst eo22) | ((with_reducible refine gate_builtin (b := .append) (xs := #[.tmp 29, .tmp 31]) rfl ?_); (try (refine gate_guard (by rfl) ?_; dsimp only)); at_builtin; refine Kd.R_append Kd.string (w0 := w) w.heap.size rfl (.tmp 29) (.tmp 31) 40 9 (.string ⟨#[]⟩) 16 rfl Tryd.underlying40 info9 rfl (by decide) (by omega) (.slice Ao22 x4_1.length co22) x4_1 t160 [.string t160] (fun _ => True) (fun _ => False) rfl rfl ?aP (fun _ hk => hk.elim) ?aF ?aO ?aB ?aS ?aL ?_; (case aP => exact rfl); (case aB => exact (below_later HB.out)); (case aF => exact (fun _ _ => trivial)); (case aO => exact (R_later HO_4.out)); (case aS => exact (below_size (below_later HB.out))); (case aL => have := LMc17.out; omega); intro v163 w23 ho hb hg hat; rw [← Ny162.out] at ho; have n0_ := Aside0.mk (blk_grown (blk_later BK154.out) hg (Kd.R_ne HO_4.out BK154.out (by decide))); have n1_ := Aside0.mk (blk_grown (blk_later BK159.out) hg (Kd.R_ne HO_4.out BK159.out (by decide))); have n2_ := Aside0.mk (hb); have n3_ := Aside0.mk (ho); clear BK154; clear BK159; clear HB; clear HO_4; have BK154 := n0_; have BK159 := n1_; have HB := n2_; have HO164 := n3_; clear n0_ n1_ n2_ n3_; clear ho hb hg hat))
            go_roundg k1
            case measure => have := HK1.out; omega
            case rel => exact ⟨(y162), (wrap64 (x13_1 + 1)), sr, H', ⟨by have := HK1.out; omega⟩, ⟨R_later HO164.out⟩, ⟨blk_later BK154.out⟩, ⟨below_later HB.out⟩⟩
        · replace c10 := Bool.eq_false_iff.mpr c10
          subst c10
          replace H := ifn Bool.false_ne_true H
          simp only [Option.some.injEq, Prod.mk.injEq] at H
          obtain ⟨rfl, rfl⟩ := H
          have p158 : 0 ≤ (x13_1 : Int) := dcd
          have q158 : x13_1 < (l0_0.length : Int) := dcd
          obtain ⟨ad158, e158, hx158_0, hx158_1⟩ := at_T36 HR0_0.out x13_1 p158 q158
          cases e158
          replace hx158_0 := crd HB hx158_0
          replace hx158_1 := crd HB hx158_1
          replace p158 := eq_true p158
          replace q158 := eq_true q158
          go_wp2_with (first | ((with_reducible refine gate_dst (N := 6) rfl ?_); (try (refine gate_guard (by rfl) ?_; dsimp only)); refine bx_ 6 #[.int .i64 0, .string (⟨#[]⟩ : ByteArray)] 36 ?_; intro gb159 hg w24 hbox hb; have BK159 := Aside0.mk (hbox); have GW159 := gwe HB hg; have GE159 := GW159; have NB154_159 := nbl BK154 hg; have NB159_154 := nbr (nbl BK154 hg); replace HO_4 := Aside0.mk (Kd.R_below (R_later HO_4.out) hb); replace BK154 := bkb BK154 hb; replace HB := bst HB hb; clear hb hbox hg; have hnb25 := NB159_154.out; have hnc25 := NB154_159.out; obtain ⟨hcz26_0, hcz26_1, hfz26_0, hfz26_1⟩ := cl2 BK159) | ((with_reducible refine gate_callee (f := 13) rfl ?_); refine gl_ (some 19) Tryd.func13 #[.agg #[.int .i64 ((rd_T36 l0_0 x13_1).f0), .string ((rd_T36 l0_0 x13_1).f1)]] rfl ?_; (with_reducible refine (impl_valText.calls k1 ((rd_T36 l0_0 x13_1).f0) ((rd_T36 l0_0 x13_1).f1) t160 false _ (tabOn HT_0 HB) A9.out).mono ?_); rintro e w27 ⟨rfl, hb⟩; refine ⟨_, rfl, ?_⟩; replace HO_4 := Aside0.mk (Kd.R_below (by (with_reducible repeat (first | apply Kd.R_alloc | apply Kd.R_drewN | apply Kd.R_drew)); exact (Kd.R_mono (Kd.R_far (p := ⟨gb159, 1, none⟩) (Kd.R_far (p := ⟨gb159, 0, none⟩) (Kd.R_types HO_4.out BK159.out (by decide)) (fun _ hk => hk.2) (.int .i64 ((rd_T36 l0_0 x13_1).f0))) (fun _ hk => hk.2) (.string ((rd_T36 l0_0 x13_1).f1))) (fun _ h_ => h_.1))) hb); replace BK154 := bkb BK154 hb; replace BK159 := Aside0.mk (blk_below (g := gb159) (o := .cells #[.int .i64 ((rd_T36 l0_0 x13_1).f0), .string ((rd_T36 l0_0 x13_1).f1)] 36 (0, 0)) (blk_later BK159.out) hb); replace HB := bst HB hb; (try clear hb); (try clear hk)))
          go_ret2
          exact fin_ (below_later HB.out)
      · rw [if_neg c6] at H
        have c6b0 := decide_eq_false c6
        clear c6
        replace H := bnd H
        obtain ⟨t165, A28, H⟩ := H
        simp only [Option.some.injEq, Prod.mk.injEq] at H
        obtain ⟨rfl, rfl⟩ := H
        obtain ⟨Ao29, co29, eo29⟩ := Kd.R_slice HO_4.out
        subst eo29
        go_wp2_with (first | ((with_reducible refine gate_callee (f := 14) rfl ?_); refine gl_ (some 35) Tryd.func14 #[.slice Ao29 x4_1.length co29, .string (⟨#[32]⟩ : ByteArray)] rfl ?_; (with_reducible refine (strings_Join.calls _ _ x4_1 (⟨#[32]⟩ : ByteArray) t165 _ ?side1 ?side2 A28.out).mono ?_); (case side1 => repeat (first | exact (Kd.R_reads' HO_4.out).2.2 | (with_reducible refine Kd.C_alloc ?_ _) | (with_reducible refine Kd.C_drewN ?_ _) | (with_reducible refine Kd.C_drew ?_))); (case side2 => exact (Kd.R_reads' HO_4.out).2.1); rintro e w30 ⟨rfl, hb⟩; refine ⟨_, rfl, ?_⟩; replace HO_4 := Aside0.mk (Kd.R_below (R_later HO_4.out) hb); replace BK154 := bkb BK154 hb; replace HB := bst HB hb; (try clear hb)))
        go_ret2
        exact fin_ (below_later HB.out)

/-! ### laws_eqVal: function 22 -/
def laws_eqVal.f (a0_0 : Int) (a0_1 : ByteArray) (a1_0 : Int) (a1_1 : ByteArray) : Option (Bool) := if a0_0 = a1_0 then (if a0_1.toList = a1_1.toList then (some true) else (some false)) else (some false)
set_option maxHeartbeats 8000000 in
set_option maxRecDepth 100000 in
theorem laws_eqVal.calls (a0_0 : Int) (a0_1 : ByteArray) (a1_0 : Int) (a1_1 : ByteArray) (r : Bool) (w : World) (h : laws_eqVal.f a0_0 a0_1 a1_0 a1_1 = some true) :
    Calls Tryd.prog 22 #[.agg #[.int .i64 a0_0, .string a0_1], .agg #[.int .i64 a1_0, .string a1_1]] w fun e w' => e = .returned (.bool true) ∧ Below w.heap.size w w' := by
  have hu36 := Tryd.underlying36
  have HB := Aside0.mk (Below.refl w.heap.size w)
  have H : (if a0_0 = a1_0 then (if a0_1.toList = a1_1.toList then (some true) else (some false)) else (some false)) = some true := h
  clear h
  by_cases c3 : a0_0 = a1_0
  · rw [if_pos c3] at H
    have c3b0 : (a0_0 == a1_0) = true := beq_iff_eq.mpr c3
    have c3b1 : (a0_0 != a1_0) = false := bne_eq_false_iff_eq.mpr c3
    clear c3
    by_cases c4 : a0_1.toList = a1_1.toList
    · rw [if_pos c4] at H
      have c4b0 : (a0_1.toList == a1_1.toList) = true := beq_iff_eq.mpr c4
      have c4b1 : (a0_1.toList != a1_1.toList) = false := bne_eq_false_iff_eq.mpr c4
      clear c4
      clear H
      go_enter Tryd.func22, Tryd.ntmps22
      go_wp2_with (first | ((with_reducible refine gate_dst (N := 2) rfl ?_); refine bx_ 2 #[.int .i64 a0_0, .string a0_1] 36 ?_; intro gb166 hg w5 hbox hb; have BK166 := Aside0.mk (hbox); have GW166 := gwe HB hg; have GE166 := GW166; replace HB := bst HB hb; clear hb hbox hg) | ((with_reducible refine gate_dst (N := 3) rfl ?_); refine bx_ 3 #[.int .i64 a1_0, .string a1_1] 36 ?_; intro gb167 hg w6 hbox hb; have BK167 := Aside0.mk (hbox); have GW167 := gwe HB hg; have GE167 := GW167; have NB166_167 := nbl BK166 hg; have NB167_166 := nbr (nbl BK166 hg); replace BK166 := bkb BK166 hb; replace HB := bst HB hb; clear hb hbox hg; have hnb7 := NB166_167.out; have hnc7 := NB167_166.out; obtain ⟨hcz8_0, hcz8_1, hfz8_0, hfz8_1⟩ := cl2 BK166; obtain ⟨hcz9_0, hcz9_1, hfz9_0, hfz9_1⟩ := cl2 BK167))
      go_ret
      exact fin_ (below_later HB.out)
    · rw [if_neg c4] at H
      cases H
  · rw [if_neg c3] at H
    cases H
/-! ### laws_eqValS: function 15 -/
def laws_eqValS.l0 : Nat → List (S36) → List (S36) → Int → Option (Bool)
  | 0, _, _, _ => none
  | k + 1, x0, x1, x5 => if x5 < (x0.length : Int) then (if 0 ≤ x5 then (if x5 < (x1.length : Int) then ((laws_eqVal.f ((rd_T36 x0 x5).f0) ((rd_T36 x0 x5).f1) ((rd_T36 x1 x5).f0) ((rd_T36 x1 x5).f1)).bind fun t170 => (if t170 = true then (laws_eqValS.l0 k x0 x1 (wrap64 (x5 + 1))) else (some false))) else (none)) else (none)) else (some true)
def laws_eqValS.f (k : Nat) (l0 : List (S36)) (l1 : List (S36)) : Option (Bool) := if (l0.length : Int) = (l1.length : Int) then (laws_eqValS.l0 k l0 l1 0) else (some false)
def laws_eqValS.T6 : Bool × List (List Nat × List Nat) := (true, [([], []), ([], []), ([0, 1], [0, 1]), ([2], [2]), ([], []), ([], []), ([4, 5], [4, 5]), ([6], [6]), ([3, 7], [3, 7]), ([8], [8])])
def laws_eqValS.B6 : List Nat := [0, 0, 3, 7, 0, 0, 48, 112, 255, 511]
theorem laws_eqValS.tab6 : rtab .any (opsOf Tryd.f15 6) = laws_eqValS.T6 := by kernel_rfl
theorem laws_eqValS.bits6 : waitsOk laws_eqValS.T6.2 laws_eqValS.B6 = true := by kernel_rfl
set_option maxHeartbeats 8000000 in
set_option maxRecDepth 100000 in
theorem laws_eqValS.calls (k : Nat) (A0 : Option Addr) (c0 : Nat) (l0 : List (S36)) (A1 : Option Addr) (c1 : Nat) (l1 : List (S36)) (r : Bool) (w : World) (hr0 : Kd.C k36 w A0 l0.length l0) (hc0 : l0.length ≤ c0) (hr1 : Kd.C k36 w A1 l1.length l1) (hc1 : l1.length ≤ c1) (h : laws_eqValS.f k l0 l1 = some true) :
    Calls Tryd.prog 15 #[.slice A0 l0.length c0, .slice A1 l1.length c1] w fun e w' => e = .returned (.bool true) ∧ Below w.heap.size w w' := by
  have hu36 := Tryd.underlying36
  have HR0 := Aside0.mk hr0
  have HC0 := Aside0.mk hc0
  clear hr0 hc0
  have HR1 := Aside0.mk hr1
  have HC1 := Aside0.mk hc1
  clear hr1 hc1
  have HB := Aside0.mk (Below.refl w.heap.size w)
  have H : (if (l0.length : Int) = (l1.length : Int) then (laws_eqValS.l0 k l0 l1 0) else (some false)) = some true := h
  clear h
  by_cases c3 : (l0.length : Int) = (l1.length : Int)
  · rw [if_pos c3] at H
    have c3b0 : ((l0.length : Int) == (l1.length : Int)) = true := beq_iff_eq.mpr c3
    have c3b1 : ((l0.length : Int) != (l1.length : Int)) = false := bne_eq_false_iff_eq.mpr c3
    have c3b2 : (l0.length == l1.length) = true := by first | simpa using c3 | (simp at c3 ⊢; omega)
    clear c3
    have H' := Aside0.mk H
    clear H
    go_enter Tryd.func15, Tryd.ntmps15
    go_wp2
    go_loopg [5] k (fun kq v5 w' => ∃ (x5_1 : Int), v5 = .int .i64 x5_1 ∧ Aside0 (laws_eqValS.l0 kq l0 l1 x5_1 = some true) ∧ Aside0 (kq ≤ k) ∧ Aside0 (Below w.heap.size w w'))
    case atStart => exact ⟨(0), sr, H', ⟨Nat.le_refl _⟩, ⟨below_later HB.out⟩⟩
    case round =>
      clear H'
      try clear c1
      try clear c3
      try clear c3b0
      try clear c3b1
      try clear c3b2
      obtain ⟨x5_1, rfl, HA, HK1, HB⟩ := hrel
      cases gk with
      | zero => exact absurd HA.out (by simp [laws_eqValS.l0])
      | succ k1 =>
        have H := HA.out
        clear HA
        simp only [laws_eqValS.l0] at H
        by_cases c4 : x5_1 < (l0.length : Int)
        · rw [if_pos c4] at H
          have c4b0 := decide_eq_true c4
          clear c4
          replace H := ifd H
          obtain ⟨c5b0, H⟩ := H
          replace H := ifd H
          obtain ⟨c6b0, H⟩ := H
          replace H := bnd H
          obtain ⟨t170, A7, H⟩ := H
          by_cases c8 : t170 = true
          · subst c8
            replace H := ifp rfl H
            have H' := Aside0.mk H
            clear H
            try go_wp2
            replace HB := Aside0.mk (below_drew1 HB.out)
            have p168 : 0 ≤ (x5_1 : Int) := dcd
            have q168 : x5_1 < (l0.length : Int) := dcd
            obtain ⟨ad168, e168, hx168_0, hx168_1⟩ := at_T36 HR0.out x5_1 p168 q168
            have hw168_1 := hx168_1
            have hw168_0 := hx168_0
            cases e168
            replace hx168_0 := crd HB hx168_0
            replace hx168_1 := crd HB hx168_1
            replace p168 := eq_true p168
            replace q168 := eq_true q168
            have p169 : 0 ≤ (x5_1 : Int) := dcd
            have q169 : x5_1 < (l1.length : Int) := dcd
            obtain ⟨ad169, e169, hx169_0, hx169_1⟩ := at_T36 HR1.out x5_1 p169 q169
            have hw169_1 := hx169_1
            have hw169_0 := hx169_0
            cases e169
            replace hx169_0 := crd HB hx169_0
            replace hx169_1 := crd HB hx169_1
            replace p169 := eq_true p169
            replace q169 := eq_true q169
            refine start_ (n := 10) (S := fun w' => w'.cell? (ad168.add ((x5_1).toNat * 2)) = some (.int .i64 ((rd_T36 l0 x5_1).f0)) ∧ w'.cell? ⟨(ad168.add ((x5_1).toNat * 2)).block, (ad168.add ((x5_1).toNat * 2)).off + 1, none⟩ = some (.string ((rd_T36 l0 x5_1).f1)) ∧ w'.cell? (ad169.add ((x5_1).toNat * 2)) = some (.int .i64 ((rd_T36 l1 x5_1).f0)) ∧ w'.cell? ⟨(ad169.add ((x5_1).toNat * 2)).block, (ad169.add ((x5_1).toNat * 2)).off + 1, none⟩ = some (.string ((rd_T36 l1 x5_1).f1))) (ds := []) #[false, false, false, false, false, false, false, false, false, false] (by kernel_rfl) rfl rfl ⟨((HB.out.cell (World.block_lt_of_cell? w _ hw168_0)).trans hw168_0), ((HB.out.cell (World.block_lt_of_cell? w _ hw168_1)).trans hw168_1), ((HB.out.cell (World.block_lt_of_cell? w _ hw169_0)).trans hw169_0), ((HB.out.cell (World.block_lt_of_cell? w _ hw169_1)).trans hw169_1)⟩ (fun hHeld => ?_); refine with_tabW laws_eqValS.tab6 laws_eqValS.bits6 (fun HT_ HW_ => ?_)
            generalize wr.drew = w9 at HB hx168_0 hx168_1 hx169_0 hx169_1 hHeld ⊢
            refine pu_ 0 17 ?_; refine pu_ 1 18 ?_; refine pu_ 2 19 ?_; refine pu_ 4 21 ?_; refine pu_ 5 22 ?_; refine pu_ 6 23 ?_; refine tk_ 3 20 hHeld ?_; refine tk_ 7 24 hHeld ?_
            refine on_ 8 25 (fun K hK => ?_)
            refine gs_ Tryd.func22 #[.agg #[.int .i64 ((rd_T36 l0 x5_1).f0), .string ((rd_T36 l0 x5_1).f1)], .agg #[.int .i64 ((rd_T36 l1 x5_1).f0), .string ((rd_T36 l1 x5_1).f1)]] rfl ?_
            with_reducible refine (laws_eqVal.calls ((rd_T36 l0 x5_1).f0) ((rd_T36 l0 x5_1).f1) ((rd_T36 l1 x5_1).f0) ((rd_T36 l1 x5_1).f1) true _ A7.out).mono ?_
            rintro e w10 ⟨rfl, hb⟩
            refine ⟨_, rfl, ?_⟩
            replace HB := bst HB hb
            (try clear hb)
            (try clear hb2)
            (try clear hk)
            (try clear hi)
            refine hK.out _ _ ⟨((HB.out.cell (World.block_lt_of_cell? w _ hw168_0)).trans hw168_0), ((HB.out.cell (World.block_lt_of_cell? w _ hw168_1)).trans hw168_1), ((HB.out.cell (World.block_lt_of_cell? w _ hw169_0)).trans hw169_0), ((HB.out.cell (World.block_lt_of_cell? w _ hw169_1)).trans hw169_1)⟩ (fun hHeld => ?_)
            clear hK K
            refine no_ (some 25) ?_; refine pu_ 9 26 ?_
            refine done_ (done_of HT_.out (by kernel_rfl)) ?_
            try go_wp2
            go_roundg k1
            case measure => have := HK1.out; omega
            case rel => exact ⟨(wrap64 (x5_1 + 1)), sr, H', ⟨by have := HK1.out; omega⟩, ⟨below_later HB.out⟩⟩
          · replace c8 := Bool.eq_false_iff.mpr c8
            subst c8
            have H1 : (some false) = some true := by rw [if_neg (show ¬ (false = true) by decide)] at H; exact H
            cases H1
        · rw [if_neg c4] at H
          have c4b0 := decide_eq_false c4
          clear c4
          clear H
          go_wp2
          go_ret
          exact fin_ (below_later HB.out)
  · rw [if_neg c3] at H
    cases H
/-! ### laws_eqRec: function 8 -/
def laws_eqRec.f (k : Nat) (l0_0 : List (S36)) (l1_0 : List (S36)) : Option (Bool) := (laws_eqValS.f k l0_0 l1_0).bind fun t173 => (if t173 = true then (some true) else (some false))
set_option maxHeartbeats 8000000 in
set_option maxRecDepth 100000 in
theorem laws_eqRec.calls (k : Nat) (A0_0 : Option Addr) (c0_0 : Nat) (l0_0 : List (S36)) (A1_0 : Option Addr) (c1_0 : Nat) (l1_0 : List (S36)) (r : Bool) (w : World) (hr0_0 : Kd.C k36 w A0_0 l0_0.length l0_0) (hc0_0 : l0_0.length ≤ c0_0) (hr1_0 : Kd.C k36 w A1_0 l1_0.length l1_0) (hc1_0 : l1_0.length ≤ c1_0) (h : laws_eqRec.f k l0_0 l1_0 = some true) :
    Calls Tryd.prog 8 #[.agg #[.slice A0_0 l0_0.length c0_0], .agg #[.slice A1_0 l1_0.length c1_0]] w fun e w' => e = .returned (.bool true) ∧ Below w.heap.size w w' := by
  have hu30 := Tryd.underlying30
  have HR0_0 := Aside0.mk hr0_0
  have HC0_0 := Aside0.mk hc0_0
  clear hr0_0 hc0_0
  have HR1_0 := Aside0.mk hr1_0
  have HC1_0 := Aside0.mk hc1_0
  clear hr1_0 hc1_0
  have HB := Aside0.mk (Below.refl w.heap.size w)
  have H : ((laws_eqValS.f k l0_0 l1_0).bind fun t173 => (if t173 = true then (some true) else (some false))) = some true := h
  clear h
  replace H := bnd H
  obtain ⟨t173, A3, H⟩ := H
  by_cases c4 : t173 = true
  · subst c4
    replace H := ifp rfl H
    clear H
    go_enter Tryd.func8, Tryd.ntmps8
    go_wp2_with (first | ((with_reducible refine gate_dst (N := 2) rfl ?_); refine bx_ 2 #[.slice A0_0 l0_0.length c0_0] 30 ?_; intro gb171 hg w5 hbox hb; have BK171 := Aside0.mk (hbox); have GW171 := gwe HB hg; have GE171 := GW171; replace HB := bst HB hb; clear hb hbox hg) | ((with_reducible refine gate_dst (N := 3) rfl ?_); refine bx_ 3 #[.slice A1_0 l1_0.length c1_0] 30 ?_; intro gb172 hg w6 hbox hb; have BK172 := Aside0.mk (hbox); have GW172 := gwe HB hg; have GE172 := GW172; have NB171_172 := nbl BK171 hg; have NB172_171 := nbr (nbl BK171 hg); replace BK171 := bkb BK171 hb; replace HB := bst HB hb; clear hb hbox hg; have hnb7 := NB171_172.out; have hnc7 := NB172_171.out; obtain ⟨hcz8_0, hfz8_0⟩ := cl1 BK171; obtain ⟨hcz9_0, hfz9_0⟩ := cl1 BK172) | ((with_reducible refine gate_callee (f := 15) rfl ?_); refine gl_ (some 9) Tryd.func15 #[.slice A0_0 l0_0.length c0_0, .slice A1_0 l1_0.length c1_0] rfl ?_; (with_reducible refine (laws_eqValS.calls k _ _ l0_0 _ _ l1_0 true _ ?side1 ?side2 ?side3 ?side4 A3.out).mono ?_); (case side1 => repeat (first | exact (Kd.C_below HR0_0.out HB.out) | (with_reducible refine Kd.C_alloc ?_ _) | (with_reducible refine Kd.C_drewN ?_ _) | (with_reducible refine Kd.C_drew ?_))); (case side2 => exact HC0_0.out); (case side3 => repeat (first | exact (Kd.C_below HR1_0.out HB.out) | (with_reducible refine Kd.C_alloc ?_ _) | (with_reducible refine Kd.C_drewN ?_ _) | (with_reducible refine Kd.C_drew ?_))); (case side4 => exact HC1_0.out); rintro e w10 ⟨rfl, hb⟩; refine ⟨_, rfl, ?_⟩; replace BK171 := bkb BK171 hb; replace BK172 := bkb BK172 hb; replace HB := bst HB hb; (try clear hb)))
    go_ret
    exact fin_ (below_later HB.out)
  · replace c4 := Bool.eq_false_iff.mpr c4
    subst c4
    have H1 : (some false) = some true := by rw [if_neg (show ¬ (false = true) by decide)] at H; exact H
    cases H1
/-! ### laws_FnExactRecPrint: function 3 -/
def laws_FnExactRecPrint.j0 : Nat → Bool → List (S45) → List (S36) → Option (Bool)
  | 0, _, _, _ => none
  | k + 1, x34, x175000, x185000 => if x34 = true then (some false) else ((laws_toRec.f k x175000).bind fun t187 => ((laws_eqRec.f k x185000 t187).bind fun t190 => (if t190 = true then (some true) else (some false))))
def laws_FnExactRecPrint.f (k : Nat) (l0_0 : List (S45)) : Option (Bool) := (laws_szRec.f k l0_0 1048576).bind fun t175 => (if t175 < 0 then (some true) else ((laws_toRec.f k l0_0).bind fun t176 => ((spec_RecPrint.f k t176).bind fun bt179 => ((laws_toRec.f k l0_0).bind fun t181 => ((impl_RecPrint.f k t181).bind fun bt185 => (if bt185.1.toList = bt179.1.toList then (laws_FnExactRecPrint.j0 k (bt185.2 != bt179.2) l0_0 t181) else (laws_FnExactRecPrint.j0 k true l0_0 t181)))))))
set_option maxHeartbeats 8000000 in
set_option maxRecDepth 100000 in
theorem laws_FnExactRecPrint.calls (k : Nat) (A0_0 : Option Addr) (c0_0 : Nat) (l0_0 : List (S45)) (r : Bool) (w : World) (hr0_0 : Kd.C k45 w A0_0 l0_0.length l0_0) (hc0_0 : l0_0.length ≤ c0_0) (hT_ : TabOk w) (h : laws_FnExactRecPrint.f k l0_0 = some true) :
    Calls Tryd.prog 3 #[.agg #[.slice A0_0 l0_0.length c0_0]] w fun e w' => e = .returned (.bool true) ∧ Below w.heap.size w w' := by
  have HT_0 := Aside0.mk (Lib.tabBelow_of_tabIs hT_)
  clear hT_
  have hu24 := Tryd.underlying24
  have hu30 := Tryd.underlying30
  have HR0_0 := Aside0.mk hr0_0
  have HC0_0 := Aside0.mk hc0_0
  clear hr0_0 hc0_0
  have HB := Aside0.mk (Below.refl w.heap.size w)
  have H : ((laws_szRec.f k l0_0 1048576).bind fun t175 => (if t175 < 0 then (some true) else ((laws_toRec.f k l0_0).bind fun t176 => ((spec_RecPrint.f k t176).bind fun bt179 => ((laws_toRec.f k l0_0).bind fun t181 => ((impl_RecPrint.f k t181).bind fun bt185 => (if bt185.1.toList = bt179.1.toList then (laws_FnExactRecPrint.j0 k (bt185.2 != bt179.2) l0_0 t181) else (laws_FnExactRecPrint.j0 k true l0_0 t181)))))))) = some true := h
  clear h
  replace H := bnd H
  obtain ⟨t175, A2, H⟩ := H
  by_cases c3 : t175 < 0
  · rw [if_pos c3] at H
    have c3b0 := decide_eq_true c3
    clear c3
    clear H
    go_enter Tryd.func3, Tryd.ntmps3
    go_wp2_with (first | ((with_reducible refine gate_dst (N := 1) rfl ?_); refine bx_ 1 #[.slice A0_0 l0_0.length c0_0] 24 ?_; intro gb174 hg w4 hbox hb; have BK174 := Aside0.mk (hbox); have GW174 := gwe HB hg; have GE174 := GW174; replace HB := bst HB hb; clear hb hbox hg; obtain ⟨hcz5_0, hfz5_0⟩ := cl1 BK174) | ((with_reducible refine gate_callee (f := 4) rfl ?_); refine gl_ (some 11) Tryd.func4 #[.agg #[.slice A0_0 l0_0.length c0_0], .int .i64 1048576] rfl ?_; (with_reducible refine (laws_szRec.calls k _ _ l0_0 1048576 t175 _ ?side1 ?side2 A2.out).mono ?_); (case side1 => repeat (first | exact (Kd.C_below HR0_0.out HB.out) | (with_reducible refine Kd.C_alloc ?_ _) | (with_reducible refine Kd.C_drewN ?_ _) | (with_reducible refine Kd.C_drew ?_))); (case side2 => exact HC0_0.out); rintro e w6 ⟨rfl, hb⟩; refine ⟨_, rfl, ?_⟩; replace BK174 := bkb BK174 hb; replace HB := bst HB hb; (try clear hb)))
    go_ret
    exact fin_ (below_later HB.out)
  · rw [if_neg c3] at H
    have c3b0 := decide_eq_false c3
    clear c3
    replace H := bnd H
    obtain ⟨t176, A7, H⟩ := H
    replace H := Option.bind_eq_some_iff.mp H
    obtain ⟨⟨t179, t180⟩, A80, H⟩ := H
    replace H : ((laws_toRec.f k l0_0).bind fun t181 => ((impl_RecPrint.f k t181).bind fun bt185 => (if bt185.1.toList = t179.toList then (laws_FnExactRecPrint.j0 k (bt185.2 != t180) l0_0 t181) else (laws_FnExactRecPrint.j0 k true l0_0 t181)))) = some true := H
    have A8 := Aside0.mk A80
    clear A80
    replace H := bnd H
    obtain ⟨t181, A9, H⟩ := H
    replace H := Option.bind_eq_some_iff.mp H
    obtain ⟨⟨t185, t186⟩, A100, H⟩ := H
    replace H : (if t185.toList = t179.toList then (laws_FnExactRecPrint.j0 k (t186 != t180) l0_0 t181) else (laws_FnExactRecPrint.j0 k true l0_0 t181)) = some true := H
    have A10 := Aside0.mk A100
    clear A100
    have HC11 := Aside0.mk H
    clear H
    go_enter Tryd.func3, Tryd.ntmps3
    go_upto_region 8 with (first | ((with_reducible refine gate_dst (N := 1) rfl ?_); refine bx_ 1 #[.slice A0_0 l0_0.length c0_0] 24 ?_; intro gb174 hg w12 hbox hb; have BK174 := Aside0.mk (hbox); have GW174 := gwe HB hg; have GE174 := GW174; replace HB := bst HB hb; clear hb hbox hg; obtain ⟨hcz13_0, hfz13_0⟩ := cl1 BK174) | ((with_reducible refine gate_callee (f := 4) rfl ?_); refine gl_ (some 11) Tryd.func4 #[.agg #[.slice A0_0 l0_0.length c0_0], .int .i64 1048576] rfl ?_; (with_reducible refine (laws_szRec.calls k _ _ l0_0 1048576 t175 _ ?side1 ?side2 A2.out).mono ?_); (case side1 => repeat (first | exact (Kd.C_below HR0_0.out HB.out) | (with_reducible refine Kd.C_alloc ?_ _) | (with_reducible refine Kd.C_drewN ?_ _) | (with_reducible refine Kd.C_drew ?_))); (case side2 => exact HC0_0.out); rintro e w14 ⟨rfl, hb⟩; refine ⟨_, rfl, ?_⟩; replace BK174 := bkb BK174 hb; replace HB := bst HB hb; (try clear hb); (try clear hk); obtain ⟨hcz15_0, hfz15_0⟩ := cl1 BK174) | ((with_reducible refine gate_callee (f := 6) rfl ?_); refine gl_ (some 16) Tryd.func6 #[.agg #[.slice A0_0 l0_0.length c0_0]] rfl ?_; (with_reducible refine (laws_toRec.calls k _ _ l0_0 t176 _ ?side1 ?side2 A7.out).mono ?_); (case side1 => repeat (first | exact (Kd.C_below HR0_0.out HB.out) | (with_reducible refine Kd.C_alloc ?_ _) | (with_reducible refine Kd.C_drewN ?_ _) | (with_reducible refine Kd.C_drew ?_))); (case side2 => exact HC0_0.out); rintro e w16 ⟨v177, rfl, ho0, hb⟩; refine ⟨_, rfl, ?_⟩; have HO178 := Aside0.mk (Kd.R_lower ho0 (below_size (below_later HB.out))); replace BK174 := bkb BK174 hb; replace HB := bst HB hb; (try clear hb); (try clear hk); (try clear ho0); obtain ⟨Ao17, co17, eo17⟩ := Kd.R_slice HO178.out; subst eo17) | ((with_reducible refine gate_callee (f := 5) rfl ?_); refine gl_ (some 17) Tryd.func5 #[.agg #[.slice Ao17 t176.length co17]] rfl ?_; (with_reducible refine (spec_RecPrint.calls k _ _ t176 t179 t180 _ ?side1 ?side2 A8.out).mono ?_); (case side1 => repeat (first | exact (Kd.R_reads' HO178.out).2.2 | (with_reducible refine Kd.C_alloc ?_ _) | (with_reducible refine Kd.C_drewN ?_ _) | (with_reducible refine Kd.C_drew ?_))); (case side2 => exact (Kd.R_reads' HO178.out).2.1); rintro e w18 ⟨rfl, hb⟩; refine ⟨_, rfl, ?_⟩; replace HO178 := Aside0.mk (Kd.R_below (R_later HO178.out) hb); replace BK174 := bkb BK174 hb; replace HB := bst HB hb; (try clear hb); (try clear hk); obtain ⟨hcz19_0, hfz19_0⟩ := cl1 BK174) | ((with_reducible refine gate_callee (f := 6) rfl ?_); refine gl_ (some 21) Tryd.func6 #[.agg #[.slice A0_0 l0_0.length c0_0]] rfl ?_; (with_reducible refine (laws_toRec.calls k _ _ l0_0 t181 _ ?side1 ?side2 A9.out).mono ?_); (case side1 => repeat (first | exact (Kd.C_below HR0_0.out HB.out) | (with_reducible refine Kd.C_alloc ?_ _) | (with_reducible refine Kd.C_drewN ?_ _) | (with_reducible refine Kd.C_drew ?_))); (case side2 => exact HC0_0.out); rintro e w20 ⟨v182, rfl, ho0, hb⟩; refine ⟨_, rfl, ?_⟩; have HO183 := Aside0.mk (Kd.R_lower (Kd.R_new' ho0 (Kd.R_lt (R_later HO178.out))) (below_size (below_later HB.out))); replace HO178 := Aside0.mk (Kd.R_elder' (R_later HO178.out) (Kd.R_base ho0) hb); replace BK174 := bkb BK174 hb; replace HB := bst HB hb; (try clear hb); (try clear hk); (try clear ho0)) | ((with_reducible refine gate_dst (N := 6) rfl ?_); refine bx_ 6 #[.slice none 0 0] 30 ?_; intro gb184 hg w21 hbox hb; have BK184 := Aside0.mk (hbox); have GW184 := gwe HB hg; have GE184 := GW184; have NB174_184 := nbl BK174 hg; have NB184_174 := nbr (nbl BK174 hg); replace HO178 := Aside0.mk (Kd.R_below (R_later HO178.out) hb); replace HO183 := Aside0.mk (Kd.R_below (R_later HO183.out) hb); replace BK174 := bkb BK174 hb; replace HB := bst HB hb; clear hb hbox hg; obtain ⟨Ao22, co22, eo22⟩ := Kd.R_slice HO183.out; subst eo22; have hnb23 := NB184_174.out; have hnc23 := NB174_184.out; obtain ⟨hcz24_0, hfz24_0⟩ := cl1 BK184) | ((with_reducible refine gate_callee (f := 7) rfl ?_); refine gl_ (some 24) Tryd.func7 #[.agg #[.slice Ao22 t181.length co22]] rfl ?_; (with_reducible refine (impl_RecPrint.calls k _ _ t181 t185 t186 _ ?side1 ?side2 (tabOn HT_0 HB) A10.out).mono ?_); (case side1 => refine (Kd.R_reads' (e := 36) (base := w.heap.size) (ok := fun k_ => (True ∧ some k_ ≠ (.slice Ao17 t176.length co17 : Value).ownBlock)) (n := t181.length) (c := co22) ?_).2.2; exact (by (with_reducible repeat (first | apply Kd.R_alloc | apply Kd.R_drewN | apply Kd.R_drew)); exact (Kd.R_mono (Kd.R_far (p := ⟨gb184, 0, none⟩) (Kd.R_types HO183.out BK184.out (by decide)) (fun _ hk => hk.2) (.slice Ao22 t181.length co22)) (fun _ h_ => h_.1)))); (case side2 => exact (Kd.R_reads' HO183.out).2.1); rintro e w25 ⟨rfl, hb⟩; refine ⟨_, rfl, ?_⟩; replace HO178 := Aside0.mk (Kd.R_below (by (with_reducible repeat (first | apply Kd.R_alloc | apply Kd.R_drewN | apply Kd.R_drew)); exact (Kd.R_mono (Kd.R_far (p := ⟨gb184, 0, none⟩) (Kd.R_types HO178.out BK184.out (by decide)) (fun _ hk => hk.2) (.slice Ao22 t181.length co22)) (fun _ h_ => h_.1))) hb); replace HO183 := Aside0.mk (Kd.R_below (by (with_reducible repeat (first | apply Kd.R_alloc | apply Kd.R_drewN | apply Kd.R_drew)); exact (Kd.R_mono (Kd.R_far (p := ⟨gb184, 0, none⟩) (Kd.R_types HO183.out BK184.out (by decide)) (fun _ hk => hk.2) (.slice Ao22 t181.length co22)) (fun _ h_ => h_.1))) hb); replace BK174 := bkb BK174 hb; replace BK184 := Aside0.mk (blk_below (g := gb184) (o := .cells #[.slice Ao22 t181.length co22] 30 (0, 0)) (blk_later BK184.out) hb); replace HB := bst HB hb; (try clear hb); (try clear hk)))
    (try simp only [Act.put, List.setIfInBounds_toArray, List.set_cons_zero, List.set_cons_succ])
    go_cut [34] (fun v34 wc => ∃ (kq : Nat) (x34_10 : Bool), v34 = .bool x34_10 ∧ Aside0 (laws_FnExactRecPrint.j0 kq x34_10 l0_0 t181 = some true) ∧ Aside0 (kq ≤ k) ∧ Aside0 (Kd.R k36 36 wc w.heap.size (fun _ => True) (.slice Ao22 t181.length co22) t181) ∧ Aside0 (wc.heap[gb174]? = some (.cells #[(.slice A0_0 l0_0.length c0_0)] 24 (0, 0))) ∧ Aside0 (wc.heap[gb184]? = some (.cells #[(.slice Ao22 t181.length co22)] 30 (0, 0))) ∧ Aside0 (Below w.heap.size w wc))
    case first =>
      have H := HC11.out
      clear HC11
      by_cases c26 : t185.toList = t179.toList
      · rw [if_pos c26] at H
        have c26b0 : (t185.toList == t179.toList) = true := beq_iff_eq.mpr c26
        have c26b1 : (t185.toList != t179.toList) = false := bne_eq_false_iff_eq.mpr c26
        clear c26
        (first | rw [c26b0] | rw [c26b1] | (simp only [i64_w, i32_w]; rw [c26b0]) | skip)
        have H' := Aside0.mk H
        clear H
        go_wp2
        go_meet
        case rel => exact ⟨_, ((t186 != t180)), sr, H', ⟨by first | omega | exact Nat.le_refl _⟩, ⟨R_later (Kd.R_mono HO183.out (fun _ hk => trivial))⟩, ⟨blk_later BK174.out⟩, ⟨blk_later BK184.out⟩, ⟨below_later HB.out⟩⟩
      · rw [if_neg c26] at H
        have c26b0 : (t185.toList == t179.toList) = false := beq_eq_false_iff_ne.mpr c26
        have c26b1 : (t185.toList != t179.toList) = true := bne_iff_ne.mpr c26
        (first | rw [c26b0] | rw [c26b1] | (simp only [i64_w, i32_w]; rw [c26b0]) | skip)
        have H' := Aside0.mk H
        clear H
        go_wp2
        go_meet
        case rel => exact ⟨_, (true), sr, H', ⟨by first | omega | exact Nat.le_refl _⟩, ⟨R_later (Kd.R_mono HO183.out (fun _ hk => trivial))⟩, ⟨blk_later BK174.out⟩, ⟨blk_later BK184.out⟩, ⟨below_later HB.out⟩⟩
    case rest =>
      clear HC11
      try clear c3
      try clear c3b0
      try clear hcz13_0
      try clear hcz15_0
      try clear hcz19_0
      try clear hcz24_0
      try clear hfz13_0
      try clear hfz15_0
      try clear hfz19_0
      try clear hfz24_0
      obtain ⟨kq, x34_10, rfl, HA, HJ10, HO_185000, BK174, BK184, HB⟩ := hcut
      cases kq with
      | zero => exact absurd HA.out (by simp [laws_FnExactRecPrint.j0])
      | succ kj10 =>
        have H := HA.out
        clear HA
        simp only [laws_FnExactRecPrint.j0] at H
        by_cases c27 : x34_10 = true
        · subst c27
          have H1 : (some false) = some true := by rw [if_pos rfl] at H; exact H
          cases H1
        · replace c27 := Bool.eq_false_iff.mpr c27
          subst c27
          replace H := ifn Bool.false_ne_true H
          replace H := bnd H
          obtain ⟨t187, A28, H⟩ := H
          replace H := bnd H
          obtain ⟨t190, A29, H⟩ := H
          by_cases c30 : t190 = true
          · subst c30
            replace H := ifp rfl H
            clear H
            try go_wp2
            have n0_ := Aside0.mk (Kd.R_drew HO_185000.out)
            have n1_ := Aside0.mk (blk_drew BK174.out)
            have n2_ := Aside0.mk (blk_drew BK184.out)
            have n3_ := Aside0.mk (below_drew1 HB.out)
            clear HO_185000
            clear BK174
            clear BK184
            clear HB
            have HO_185000 := n0_
            have BK174 := n1_
            have BK184 := n2_
            have HB := n3_
            clear n0_ n1_ n2_ n3_
            refine start_ (n := 5) (S := fun w' => w'.cell? ⟨gb184, 0, none⟩ = some (.slice Ao22 t181.length co22) ∧ w'.cell? ⟨gb174, 0, none⟩ = some (.slice A0_0 l0_0.length c0_0)) (ds := []) #[false, false, false, false, false] (by kernel_rfl) rfl rfl ⟨(blk_cell BK184.out 0).trans rfl, (blk_cell BK174.out 0).trans rfl⟩ (fun hHeld => ?_)
            generalize wc.drew = w31 at HO_185000 BK174 BK184 HB hHeld ⊢
            refine take_ (i := 0) (N := some 35) (v := ?_) (a' := ?_) #[true, false, false, false, false] rfl rfl (by kernel_rfl) (fun _ _ _ h => h) (Or.inl ⟨by rfl, ?_⟩) hHeld ?_ ?_
            rotate_left
            · rintro w' ⟨s0, s1⟩
              go_simp
              with_reducible rfl
            rotate_left
            · simp only [Act.put, List.setIfInBounds_toArray, List.set_cons_zero, List.set_cons_succ, i64_w, i32_w]
              rfl
            refine take_ (i := 1) (N := some 36) (v := ?_) (a' := ?_) #[true, true, false, false, false] rfl rfl (by kernel_rfl) (fun _ _ _ h => h) (Or.inl ⟨by rfl, ?_⟩) hHeld ?_ ?_
            rotate_left
            · rintro w' ⟨s0, s1⟩
              go_simp
              with_reducible rfl
            rotate_left
            · simp only [Act.put, List.setIfInBounds_toArray, List.set_cons_zero, List.set_cons_succ, i64_w, i32_w]
              rfl
            refine one_ (i := 2) (N := some 37) #[true, true, true, false, false] rfl rfl (by kernel_rfl) (by decide) (fun K hK => ?_)
            refine gs_ Tryd.func6 #[.agg #[.slice A0_0 l0_0.length c0_0]] rfl ?_
            with_reducible refine (laws_toRec.calls kj10 _ _ l0_0 t187 _ ?side1 ?side2 A28.out).mono ?_
            (case side1 => repeat (first | exact (Kd.C_below HR0_0.out HB.out) | (with_reducible refine Kd.C_alloc ?_ _) | (with_reducible refine Kd.C_drewN ?_ _) | (with_reducible refine Kd.C_drew ?_)))
            (case side2 => exact HC0_0.out)
            rintro e w32 ⟨v188, rfl, ho0, hb⟩
            refine ⟨_, rfl, ?_⟩
            have n0_ := Aside0.mk (Kd.R_elder' (R_later HO_185000.out) (Kd.R_base ho0) hb)
            have n1_ := Aside0.mk (Kd.R_lower (Kd.R_new' ho0 (Kd.R_lt (R_later HO_185000.out))) (below_size (below_later HB.out)))
            have n2_ := bkb BK174 hb
            have n3_ := bkb BK184 hb
            have n4_ := bst HB hb
            clear HO_185000
            clear BK174
            clear BK184
            clear HB
            have HO_185000 := n0_
            have HO189 := n1_
            have BK174 := n2_
            have BK184 := n3_
            have HB := n4_
            clear n0_ n1_ n2_ n3_ n4_
            (try clear hb)
            (try clear hb2)
            (try clear hk)
            (try clear hi)
            (try clear ho0)
            obtain ⟨Ao33, co33, eo33⟩ := Kd.R_slice HO189.out
            (first | subst eo33 | (injection eo33 with f1_ f2_ f3_; have f4_ := f1_.symm; have f5_ := f3_.symm; clear f1_ f2_ f3_; subst f4_; subst f5_))
            refine hK.out _ _ ⟨(blk_cell BK184.out 0).trans rfl, (blk_cell BK174.out 0).trans rfl⟩ (fun hHeld => ?_)
            clear hK K
            refine no_ (some 37) ?_
            refine one_ (i := 3) (N := some 38) #[true, true, true, true, false] rfl rfl (by kernel_rfl) (by decide) (fun K hK => ?_)
            refine gs_ Tryd.func8 #[.agg #[.slice Ao22 t181.length co22], .agg #[.slice Ao33 t187.length co33]] rfl ?_
            with_reducible refine (laws_eqRec.calls kj10 _ _ t181 _ _ t187 true _ ?side1 ?side2 ?side3 ?side4 A29.out).mono ?_
            (case side1 => repeat (first | exact (Kd.R_reads' HO_185000.out).2.2 | (with_reducible refine Kd.C_alloc ?_ _) | (with_reducible refine Kd.C_drewN ?_ _) | (with_reducible refine Kd.C_drew ?_)))
            (case side2 => exact (Kd.R_reads' HO_185000.out).2.1)
            (case side3 => repeat (first | exact (Kd.R_reads' HO189.out).2.2 | (with_reducible refine Kd.C_alloc ?_ _) | (with_reducible refine Kd.C_drewN ?_ _) | (with_reducible refine Kd.C_drew ?_)))
            (case side4 => exact (Kd.R_reads' HO189.out).2.1)
            rintro e w34 ⟨rfl, hb⟩
            refine ⟨_, rfl, ?_⟩
            have n0_ := Aside0.mk (Kd.R_below (R_later HO_185000.out) hb)
            have n1_ := Aside0.mk (Kd.R_below (R_later HO189.out) hb)
            have n2_ := bkb BK174 hb
            have n3_ := bkb BK184 hb
            have n4_ := bst HB hb
            clear HO_185000
            clear HO189
            clear BK174
            clear BK184
            clear HB
            have HO_185000 := n0_
            have HO189 := n1_
            have BK174 := n2_
            have BK184 := n3_
            have HB := n4_
            clear n0_ n1_ n2_ n3_ n4_
            (try clear hb)
            (try clear hb2)
            (try clear hk)
            (try clear hi)
            refine hK.out _ _ ⟨(blk_cell BK184.out 0).trans rfl, (blk_cell BK174.out 0).trans rfl⟩ (fun hHeld => ?_)
            clear hK K
            refine no_ (some 38) ?_
            refine pure_ (i := 4) (N := some 39) (v := ?_) (a' := ?_) #[true, true, true, true, true] rfl rfl (by kernel_rfl) (fun _ _ _ h => h) (Or.inl ⟨by rfl, ?_⟩) ?_ ?_
            rotate_left
            · intro w'
              go_simp
              with_reducible rfl
            rotate_left
            · simp only [Act.put, List.setIfInBounds_toArray, List.set_cons_zero, List.set_cons_succ, i64_w, i32_w]
              rfl
            refine done_ (by kernel_rfl) ?_
            try go_wp2
            go_ret
            exact fin_ (below_later HB.out)
          · replace c30 := Bool.eq_false_iff.mpr c30
            subst c30
            have H1 : (some false) = some true := by rw [if_neg (show ¬ (false = true) by decide)] at H; exact H
            cases H1
end Go.Proofs.YtfaaoljihmlbmaaDoor.PFnExactRecPrint
