/- The machine's side of FnExactRecPrint, written by wip/tools/hyb.py of this repo: each Go function as a plain Lean function, and the proof that the call comes to just its answer. No condition. -/
import Derived.Test.YtfaaoljihmlbmaaDoorPFnExactRecPrintx0
namespace Go.Proofs.YtfaaoljihmlbmaaDoor.PFnExactRecPrint
open Go.RowKit Go.Proofs.YtfaaoljihmlbmaaDoorW.PrintWords Go.Proofs.YtfaaoljihmlbmaaDoorW.PrintLast Go.Proofs.YtfaaoljihmlbmaaDoorW.PrintMore Go.Proofs.YtfaaoljihmlbmaaDoorW.PrintMore2
attribute [local go_sem] max2_int min2_int max_two min_two max_three min_three max_four min_four   -- for this text's walks alone
set_option linter.unusedVariables false
set_option linter.unusedSimpArgs false

/-! ### laws_szVal: function 16 -/
def laws_szVal.f (a0_0 : Int) (a0_1 : ByteArray) (a1 : Int) : Option (Int) := if (wrap64 (a1 - (a0_1.size : Int))) < 0 then (some (-1)) else (some (wrap64 (a1 - (a0_1.size : Int))))
set_option maxHeartbeats 8000000 in
set_option maxRecDepth 100000 in
theorem laws_szVal.calls (a0_0 : Int) (a0_1 : ByteArray) (a1 : Int) (r : Int) (w : World) (h : laws_szVal.f a0_0 a0_1 a1 = some r) :
    Calls Tryd.prog 16 #[.agg #[.int .i64 a0_0, .string a0_1], .int .i64 a1] w fun e w' => e = .returned (.int .i64 r) ∧ Below w.heap.size w w' := by
  have hu45 := Tryd.underlying45
  have HB := Aside0.mk (Below.refl w.heap.size w)
  have H : (if (wrap64 (a1 - (a0_1.size : Int))) < 0 then (some (-1)) else (some (wrap64 (a1 - (a0_1.size : Int))))) = some r := h
  clear h
  by_cases c3 : (wrap64 (a1 - (a0_1.size : Int))) < 0
  · rw [if_pos c3] at H
    have c3b0 := decide_eq_true c3
    clear c3
    obtain rfl := Option.some.inj H
    go_enter Tryd.func16, Tryd.ntmps16
    go_wp2_with (first | ((with_reducible refine gate_dst (N := 2) rfl ?_); refine bx_ 2 #[.int .i64 a0_0, .string a0_1] 45 ?_; intro gb101 hg w4 hbox hb; have BK101 := Aside0.mk (hbox); have GW101 := gwe HB hg; have GE101 := GW101; replace HB := bst HB hb; clear hb hbox hg; obtain ⟨hcz5_0, hcz5_1, hfz5_0, hfz5_1⟩ := cl2 BK101))
    go_ret
    exact fin_ (below_later HB.out)
  · rw [if_neg c3] at H
    have c3b0 := decide_eq_false c3
    clear c3
    obtain rfl := Option.some.inj H
    go_enter Tryd.func16, Tryd.ntmps16
    go_wp2_with (first | ((with_reducible refine gate_dst (N := 2) rfl ?_); refine bx_ 2 #[.int .i64 a0_0, .string a0_1] 45 ?_; intro gb101 hg w6 hbox hb; have BK101 := Aside0.mk (hbox); have GW101 := gwe HB hg; have GE101 := GW101; replace HB := bst HB hb; clear hb hbox hg; obtain ⟨hcz7_0, hcz7_1, hfz7_0, hfz7_1⟩ := cl2 BK101))
    go_ret
    exact fin_ (below_later HB.out)

/-! ### laws_szValS: function 9 -/
def laws_szValS.l0 : Nat → List (S45) → Int → Int → Option (Int)
  | 0, _, _, _ => none
  | k + 1, x0, x1, x5 => if x5 < (x0.length : Int) then (if 0 ≤ x5 then ((laws_szVal.f ((rd_T45 x0 x5).f0) ((rd_T45 x0 x5).f1) x1).bind fun t103 => (if t103 < 0 then (some (-1)) else (laws_szValS.l0 k x0 t103 (wrap64 (x5 + 1))))) else (none)) else (some x1)
def laws_szValS.f (k : Nat) (l0 : List (S45)) (a1 : Int) : Option (Int) := if (wrap64 (a1 - (l0.length : Int))) < 0 then (some (-1)) else (laws_szValS.l0 k l0 (wrap64 (a1 - (l0.length : Int))) 0)
set_option maxHeartbeats 8000000 in
set_option maxRecDepth 100000 in
theorem laws_szValS.calls (k : Nat) (A0 : Option Addr) (c0 : Nat) (l0 : List (S45)) (a1 : Int) (r : Int) (w : World) (hr0 : Kd.C k45 w A0 l0.length l0) (hc0 : l0.length ≤ c0) (h : laws_szValS.f k l0 a1 = some r) :
    Calls Tryd.prog 9 #[.slice A0 l0.length c0, .int .i64 a1] w fun e w' => e = .returned (.int .i64 r) ∧ Below w.heap.size w w' := by
  have hu45 := Tryd.underlying45
  have HR0 := Aside0.mk hr0
  have HC0 := Aside0.mk hc0
  clear hr0 hc0
  have HB := Aside0.mk (Below.refl w.heap.size w)
  have H : (if (wrap64 (a1 - (l0.length : Int))) < 0 then (some (-1)) else (laws_szValS.l0 k l0 (wrap64 (a1 - (l0.length : Int))) 0)) = some r := h
  clear h
  by_cases c3 : (wrap64 (a1 - (l0.length : Int))) < 0
  · rw [if_pos c3] at H
    have c3b0 := decide_eq_true c3
    clear c3
    obtain rfl := Option.some.inj H
    go_enter Tryd.func9, Tryd.ntmps9
    go_wp2
    go_ret
    exact fin_ (below_later HB.out)
  · rw [if_neg c3] at H
    have c3b0 := decide_eq_false c3
    clear c3
    have H' := Aside0.mk H
    clear H
    go_enter Tryd.func9, Tryd.ntmps9
    go_wp2
    go_loopg [1, 5] k (fun kq v1 v5 w' => ∃ (x1_1 : Int) (x5_1 : Int), v1 = .int .i64 x1_1 ∧ v5 = .int .i64 x5_1 ∧ Aside0 (laws_szValS.l0 kq l0 x1_1 x5_1 = some r) ∧ Aside0 (kq ≤ k) ∧ Aside0 (Below w.heap.size w w'))
    case atStart => exact ⟨(wrap64 (a1 - (l0.length : Int))), (0), sr, sr, H', ⟨Nat.le_refl _⟩, ⟨below_later HB.out⟩⟩
    case round =>
      clear H'
      try clear c3
      try clear c3b0
      obtain ⟨x1_1, x5_1, rfl, rfl, HA, HK1, HB⟩ := hrel
      cases gk with
      | zero => exact absurd HA.out (by simp [laws_szValS.l0])
      | succ k1 =>
        have H := HA.out
        clear HA
        simp only [laws_szValS.l0] at H
        by_cases c4 : x5_1 < (l0.length : Int)
        · rw [if_pos c4] at H
          have c4b0 := decide_eq_true c4
          clear c4
          replace H := ifd H
          obtain ⟨c5b0, H⟩ := H
          replace H := bnd H
          obtain ⟨t103, A6, H⟩ := H
          by_cases c7 : t103 < 0
          · rw [if_pos c7] at H
            have c7b0 := decide_eq_true c7
            clear c7
            obtain rfl := Option.some.inj H
            have p102 : 0 ≤ (x5_1 : Int) := dcd
            have q102 : x5_1 < (l0.length : Int) := dcd
            obtain ⟨ad102, e102, hx102_0, hx102_1⟩ := at_T45 HR0.out x5_1 p102 q102
            cases e102
            replace hx102_0 := crd HB hx102_0
            replace hx102_1 := crd HB hx102_1
            replace p102 := eq_true p102
            replace q102 := eq_true q102
            go_wp2_with (first | ((with_reducible refine gate_callee (f := 16) rfl ?_); refine gl_ (some 23) Tryd.func16 #[.agg #[.int .i64 ((rd_T45 l0 x5_1).f0), .string ((rd_T45 l0 x5_1).f1)], .int .i64 x1_1] rfl ?_; (with_reducible refine (laws_szVal.calls ((rd_T45 l0 x5_1).f0) ((rd_T45 l0 x5_1).f1) x1_1 t103 _ A6.out).mono ?_); rintro e w8 ⟨rfl, hb⟩; refine ⟨_, rfl, ?_⟩; replace HB := bst HB hb; (try clear hb)))
            go_ret
            exact fin_ (below_later HB.out)
          · rw [if_neg c7] at H
            have c7b0 := decide_eq_false c7
            clear c7
            have H' := Aside0.mk H
            clear H
            have p102 : 0 ≤ (x5_1 : Int) := dcd
            have q102 : x5_1 < (l0.length : Int) := dcd
            obtain ⟨ad102, e102, hx102_0, hx102_1⟩ := at_T45 HR0.out x5_1 p102 q102
            cases e102
            replace hx102_0 := crd HB hx102_0
            replace hx102_1 := crd HB hx102_1
            replace p102 := eq_true p102
            replace q102 := eq_true q102
            go_wp2_with (first | ((with_reducible refine gate_callee (f := 16) rfl ?_); refine gl_ (some 23) Tryd.func16 #[.agg #[.int .i64 ((rd_T45 l0 x5_1).f0), .string ((rd_T45 l0 x5_1).f1)], .int .i64 x1_1] rfl ?_; (with_reducible refine (laws_szVal.calls ((rd_T45 l0 x5_1).f0) ((rd_T45 l0 x5_1).f1) x1_1 t103 _ A6.out).mono ?_); rintro e w9 ⟨rfl, hb⟩; refine ⟨_, rfl, ?_⟩; replace HB := bst HB hb; (try clear hb)))
            go_roundg k1
            case measure => have := HK1.out; omega
            case rel => exact ⟨(t103), (wrap64 (x5_1 + 1)), sr, sr, H', ⟨by have := HK1.out; omega⟩, ⟨below_later HB.out⟩⟩
        · rw [if_neg c4] at H
          have c4b0 := decide_eq_false c4
          clear c4
          obtain rfl := Option.some.inj H
          go_wp2
          go_ret
          exact fin_ (below_later HB.out)

/-! ### laws_szRec: function 4 -/
def laws_szRec.f (k : Nat) (l0_0 : List (S45)) (a1 : Int) : Option (Int) := (laws_szValS.f k l0_0 a1).bind fun t105 => (if t105 < 0 then (some (-1)) else (some t105))
set_option maxHeartbeats 8000000 in
set_option maxRecDepth 100000 in
theorem laws_szRec.calls (k : Nat) (A0_0 : Option Addr) (c0_0 : Nat) (l0_0 : List (S45)) (a1 : Int) (r : Int) (w : World) (hr0_0 : Kd.C k45 w A0_0 l0_0.length l0_0) (hc0_0 : l0_0.length ≤ c0_0) (h : laws_szRec.f k l0_0 a1 = some r) :
    Calls Tryd.prog 4 #[.agg #[.slice A0_0 l0_0.length c0_0], .int .i64 a1] w fun e w' => e = .returned (.int .i64 r) ∧ Below w.heap.size w w' := by
  have hu24 := Tryd.underlying24
  have HR0_0 := Aside0.mk hr0_0
  have HC0_0 := Aside0.mk hc0_0
  clear hr0_0 hc0_0
  have HB := Aside0.mk (Below.refl w.heap.size w)
  have H : ((laws_szValS.f k l0_0 a1).bind fun t105 => (if t105 < 0 then (some (-1)) else (some t105))) = some r := h
  clear h
  replace H := bnd H
  obtain ⟨t105, A3, H⟩ := H
  by_cases c4 : t105 < 0
  · rw [if_pos c4] at H
    have c4b0 := decide_eq_true c4
    clear c4
    obtain rfl := Option.some.inj H
    go_enter Tryd.func4, Tryd.ntmps4
    go_wp2_with (first | ((with_reducible refine gate_dst (N := 2) rfl ?_); refine bx_ 2 #[.slice A0_0 l0_0.length c0_0] 24 ?_; intro gb104 hg w5 hbox hb; have BK104 := Aside0.mk (hbox); have GW104 := gwe HB hg; have GE104 := GW104; replace HB := bst HB hb; clear hb hbox hg; obtain ⟨hcz6_0, hfz6_0⟩ := cl1 BK104) | ((with_reducible refine gate_callee (f := 9) rfl ?_); refine gl_ (some 8) Tryd.func9 #[.slice A0_0 l0_0.length c0_0, .int .i64 a1] rfl ?_; (with_reducible refine (laws_szValS.calls k _ _ l0_0 a1 t105 _ ?side1 ?side2 A3.out).mono ?_); (case side1 => repeat (first | exact (Kd.C_below HR0_0.out HB.out) | (with_reducible refine Kd.C_alloc ?_ _) | (with_reducible refine Kd.C_drewN ?_ _) | (with_reducible refine Kd.C_drew ?_))); (case side2 => exact HC0_0.out); rintro e w7 ⟨rfl, hb⟩; refine ⟨_, rfl, ?_⟩; replace BK104 := bkb BK104 hb; replace HB := bst HB hb; (try clear hb)))
    go_ret
    exact fin_ (below_later HB.out)
  · rw [if_neg c4] at H
    have c4b0 := decide_eq_false c4
    clear c4
    obtain rfl := Option.some.inj H
    go_enter Tryd.func4, Tryd.ntmps4
    go_wp2_with (first | ((with_reducible refine gate_dst (N := 2) rfl ?_); refine bx_ 2 #[.slice A0_0 l0_0.length c0_0] 24 ?_; intro gb104 hg w8 hbox hb; have BK104 := Aside0.mk (hbox); have GW104 := gwe HB hg; have GE104 := GW104; replace HB := bst HB hb; clear hb hbox hg; obtain ⟨hcz9_0, hfz9_0⟩ := cl1 BK104) | ((with_reducible refine gate_callee (f := 9) rfl ?_); refine gl_ (some 8) Tryd.func9 #[.slice A0_0 l0_0.length c0_0, .int .i64 a1] rfl ?_; (with_reducible refine (laws_szValS.calls k _ _ l0_0 a1 t105 _ ?side1 ?side2 A3.out).mono ?_); (case side1 => repeat (first | exact (Kd.C_below HR0_0.out HB.out) | (with_reducible refine Kd.C_alloc ?_ _) | (with_reducible refine Kd.C_drewN ?_ _) | (with_reducible refine Kd.C_drew ?_))); (case side2 => exact HC0_0.out); rintro e w10 ⟨rfl, hb⟩; refine ⟨_, rfl, ?_⟩; replace BK104 := bkb BK104 hb; replace HB := bst HB hb; (try clear hb)))
    go_ret
    exact fin_ (below_later HB.out)

/-! ### spec_l22Hex: function 10 -/
def spec_l22Hex.l0 : Nat → ByteArray → ByteArray → Int → Option (ByteArray)
  | 0, _, _, _ => none
  | k + 1, x0, x3, x4 => if x4 < (x0.size : Int) then (if 0 ≤ x4 then (if 0 ≤ (wrap64 (Int.tdiv (wrap64 (bt x0 x4)) 16)) then (if (wrap64 (Int.tdiv (wrap64 (bt x0 x4)) 16)) ≤ (wrap64 ((wrap64 (Int.tdiv (wrap64 (bt x0 x4)) 16)) + 1)) then (if (wrap64 ((wrap64 (Int.tdiv (wrap64 (bt x0 x4)) 16)) + 1)) ≤ 16 then (if x3.size + ((⟨#[48, 49, 50, 51, 52, 53, 54, 55, 56, 57, 97, 98, 99, 100, 101, 102]⟩ : ByteArray).extract ((wrap64 (Int.tdiv (wrap64 (bt x0 x4)) 16)) : Int).toNat ((wrap64 ((wrap64 (Int.tdiv (wrap64 (bt x0 x4)) 16)) + 1)) : Int).toNat).size ≤ 9223372036854775807 then (if 0 ≤ (Int.tmod (wrap64 (bt x0 x4)) 16) then (if (Int.tmod (wrap64 (bt x0 x4)) 16) ≤ (wrap64 ((Int.tmod (wrap64 (bt x0 x4)) 16) + 1)) then (if (wrap64 ((Int.tmod (wrap64 (bt x0 x4)) 16) + 1)) ≤ 16 then (if (x3 ++ ((⟨#[48, 49, 50, 51, 52, 53, 54, 55, 56, 57, 97, 98, 99, 100, 101, 102]⟩ : ByteArray).extract ((wrap64 (Int.tdiv (wrap64 (bt x0 x4)) 16)) : Int).toNat ((wrap64 ((wrap64 (Int.tdiv (wrap64 (bt x0 x4)) 16)) + 1)) : Int).toNat)).size + ((⟨#[48, 49, 50, 51, 52, 53, 54, 55, 56, 57, 97, 98, 99, 100, 101, 102]⟩ : ByteArray).extract ((Int.tmod (wrap64 (bt x0 x4)) 16) : Int).toNat ((wrap64 ((Int.tmod (wrap64 (bt x0 x4)) 16) + 1)) : Int).toNat).size ≤ 9223372036854775807 then (spec_l22Hex.l0 k x0 ((x3 ++ ((⟨#[48, 49, 50, 51, 52, 53, 54, 55, 56, 57, 97, 98, 99, 100, 101, 102]⟩ : ByteArray).extract ((wrap64 (Int.tdiv (wrap64 (bt x0 x4)) 16)) : Int).toNat ((wrap64 ((wrap64 (Int.tdiv (wrap64 (bt x0 x4)) 16)) + 1)) : Int).toNat)) ++ ((⟨#[48, 49, 50, 51, 52, 53, 54, 55, 56, 57, 97, 98, 99, 100, 101, 102]⟩ : ByteArray).extract ((Int.tmod (wrap64 (bt x0 x4)) 16) : Int).toNat ((wrap64 ((Int.tmod (wrap64 (bt x0 x4)) 16) + 1)) : Int).toNat)) (wrap64 (x4 + 1))) else (none)) else (none)) else (none)) else (none)) else (none)) else (none)) else (none)) else (none)) else (none)) else (some x3)
def spec_l22Hex.f (k : Nat) (a0 : ByteArray) : Option (ByteArray) := spec_l22Hex.l0 k a0 (⟨#[120]⟩ : ByteArray) 0
set_option maxHeartbeats 8000000 in
set_option maxRecDepth 100000 in
theorem spec_l22Hex.calls (k : Nat) (a0 : ByteArray) (r : ByteArray) (w : World) (h : spec_l22Hex.f k a0 = some r) :
    Calls Tryd.prog 10 #[.string a0] w fun e w' => e = .returned (.string r) ∧ Drawn0 w w' := by
  have H : (spec_l22Hex.l0 k a0 (⟨#[120]⟩ : ByteArray) 0) = some r := h
  clear h
  have H' := Aside0.mk H
  clear H
  go_enter Tryd.func10, Tryd.ntmps10
  go_wp2
  repeat (go_quiet (fail); try go_wp2)
  go_loopg [3, 4] k (fun kq v3 v4 w' => ∃ (x3_1 : ByteArray) (x4_1 : Int), v3 = .string x3_1 ∧ v4 = .int .i64 x4_1 ∧ Aside0 (spec_l22Hex.l0 kq a0 x3_1 x4_1 = some r) ∧ Aside0 (kq ≤ k) ∧ Drawn0 w w')
  case atStart => exact ⟨((⟨#[120]⟩ : ByteArray)), (0), sr, sr, H', ⟨Nat.le_refl _⟩, by repeat (first | exact Drawn0.refl _ | apply Drawn0.step)⟩
  case round =>
    clear H'
    obtain ⟨x3_1, x4_1, rfl, rfl, HA, HK1, ⟨m1, rfl⟩⟩ := hrel
    cases gk with
    | zero => exact absurd HA.out (by simp [spec_l22Hex.l0])
    | succ k1 =>
      have H := HA.out
      clear HA
      simp only [spec_l22Hex.l0] at H
      by_cases c2 : x4_1 < (a0.size : Int)
      · rw [if_pos c2] at H
        have c2b0 := decide_eq_true c2
        clear c2
        replace H := ifd H
        obtain ⟨c3b0, H⟩ := H
        obtain ⟨ji6, hji6⟩ : ∃ j_ : Int, (wrap64 (Int.tdiv (wrap64 (bt a0 x4_1)) 16)) = j_ := ⟨_, rfl⟩
        replace H : (if 0 ≤ (ji6) then (if (ji6) ≤ (wrap64 ((ji6) + 1)) then (if (wrap64 ((ji6) + 1)) ≤ 16 then (if x3_1.size + ((⟨#[48, 49, 50, 51, 52, 53, 54, 55, 56, 57, 97, 98, 99, 100, 101, 102]⟩ : ByteArray).extract ((ji6) : Int).toNat ((wrap64 ((ji6) + 1)) : Int).toNat).size ≤ 9223372036854775807 then (if 0 ≤ (Int.tmod (wrap64 (bt a0 x4_1)) 16) then (if (Int.tmod (wrap64 (bt a0 x4_1)) 16) ≤ (wrap64 ((Int.tmod (wrap64 (bt a0 x4_1)) 16) + 1)) then (if (wrap64 ((Int.tmod (wrap64 (bt a0 x4_1)) 16) + 1)) ≤ 16 then (if (x3_1 ++ ((⟨#[48, 49, 50, 51, 52, 53, 54, 55, 56, 57, 97, 98, 99, 100, 101, 102]⟩ : ByteArray).extract ((ji6) : Int).toNat ((wrap64 ((ji6) + 1)) : Int).toNat)).size + ((⟨#[48, 49, 50, 51, 52, 53, 54, 55, 56, 57, 97, 98, 99, 100, 101, 102]⟩ : ByteArray).extract ((Int.tmod (wrap64 (bt a0 x4_1)) 16) : Int).toNat ((wrap64 ((Int.tmod (wrap64 (bt a0 x4_1)) 16) + 1)) : Int).toNat).size ≤ 9223372036854775807 then (spec_l22Hex.l0 k1 a0 ((x3_1 ++ ((⟨#[48, 49, 50, 51, 52, 53, 54, 55, 56, 57, 97, 98, 99, 100, 101, 102]⟩ : ByteArray).extract ((ji6) : Int).toNat ((wrap64 ((ji6) + 1)) : Int).toNat)) ++ ((⟨#[48, 49, 50, 51, 52, 53, 54, 55, 56, 57, 97, 98, 99, 100, 101, 102]⟩ : ByteArray).extract ((Int.tmod (wrap64 (bt a0 x4_1)) 16) : Int).toNat ((wrap64 ((Int.tmod (wrap64 (bt a0 x4_1)) 16) + 1)) : Int).toNat)) (wrap64 (x4_1 + 1))) else (none)) else (none)) else (none)) else (none)) else (none)) else (none)) else (none)) else (none)) = some r := by first | (rw [hji6] at H; exact H) | (simp only [hji6] at H ⊢; exact H)
        have hji6w : (IntKind.i64.wrap (Int.tdiv (wrap64 (bt a0 x4_1)) 16)) = ji6 := (i64_w _).trans hji6
        replace H := ifs H
        obtain ⟨c7, H⟩ := H
        have c7b0 := eq_true c7
        have c7b1 := decide_eq_true c7
        clear c7
        replace H := ifs H
        obtain ⟨c8, H⟩ := H
        have c8b0 := eq_true c8
        have c8b1 := decide_eq_true c8
        replace H := ifs H
        obtain ⟨c9, H⟩ := H
        have c9b0 := eq_true c9
        have c9b1 := decide_eq_true c9
        replace H := ifs H
        obtain ⟨c10, H⟩ := H
        have c10b0 := eq_true c10
        have c10b1 := decide_eq_true c10
        try have c10b2 : (9223372036854775807 < x3_1.size + ((⟨#[48, 49, 50, 51, 52, 53, 54, 55, 56, 57, 97, 98, 99, 100, 101, 102]⟩ : ByteArray).extract ((ji6) : Int).toNat ((wrap64 ((ji6) + 1)) : Int).toNat).size) = False := eq_false (Nat.not_lt.2 c10)
        obtain ⟨ji11, hji11⟩ : ∃ j_ : Int, (Int.tmod (wrap64 (bt a0 x4_1)) 16) = j_ := ⟨_, rfl⟩
        replace H : (if 0 ≤ (ji11) then (if (ji11) ≤ (wrap64 ((ji11) + 1)) then (if (wrap64 ((ji11) + 1)) ≤ 16 then (if (x3_1 ++ ((⟨#[48, 49, 50, 51, 52, 53, 54, 55, 56, 57, 97, 98, 99, 100, 101, 102]⟩ : ByteArray).extract ((ji6) : Int).toNat ((wrap64 ((ji6) + 1)) : Int).toNat)).size + ((⟨#[48, 49, 50, 51, 52, 53, 54, 55, 56, 57, 97, 98, 99, 100, 101, 102]⟩ : ByteArray).extract ((ji11) : Int).toNat ((wrap64 ((ji11) + 1)) : Int).toNat).size ≤ 9223372036854775807 then (spec_l22Hex.l0 k1 a0 ((x3_1 ++ ((⟨#[48, 49, 50, 51, 52, 53, 54, 55, 56, 57, 97, 98, 99, 100, 101, 102]⟩ : ByteArray).extract ((ji6) : Int).toNat ((wrap64 ((ji6) + 1)) : Int).toNat)) ++ ((⟨#[48, 49, 50, 51, 52, 53, 54, 55, 56, 57, 97, 98, 99, 100, 101, 102]⟩ : ByteArray).extract ((ji11) : Int).toNat ((wrap64 ((ji11) + 1)) : Int).toNat)) (wrap64 (x4_1 + 1))) else (none)) else (none)) else (none)) else (none)) = some r := by first | (rw [hji11] at H; exact H) | (simp only [hji11] at H ⊢; exact H)
        replace H := ifs H
        obtain ⟨c12, H⟩ := H
        have c12b0 := eq_true c12
        have c12b1 := decide_eq_true c12
        clear c12
        replace H := ifs H
        obtain ⟨c13, H⟩ := H
        have c13b0 := eq_true c13
        have c13b1 := decide_eq_true c13
        replace H := ifs H
        obtain ⟨c14, H⟩ := H
        have c14b0 := eq_true c14
        have c14b1 := decide_eq_true c14
        replace H := ifs H
        obtain ⟨c15, H⟩ := H
        have c15b0 := eq_true c15
        have c15b1 := decide_eq_true c15
        try have c15b2 : (9223372036854775807 < (x3_1 ++ ((⟨#[48, 49, 50, 51, 52, 53, 54, 55, 56, 57, 97, 98, 99, 100, 101, 102]⟩ : ByteArray).extract ((ji6) : Int).toNat ((wrap64 ((ji6) + 1)) : Int).toNat)).size + ((⟨#[48, 49, 50, 51, 52, 53, 54, 55, 56, 57, 97, 98, 99, 100, 101, 102]⟩ : ByteArray).extract ((ji11) : Int).toNat ((wrap64 ((ji11) + 1)) : Int).toNat).size) = False := eq_false (Nat.not_lt.2 c15)
        try have c15b3 : (9223372036854775807 < (x3_1).size + (((wrap64 ((ji6) + 1)) : Int).toNat - ((ji6) : Int).toNat) + ((⟨#[48, 49, 50, 51, 52, 53, 54, 55, 56, 57, 97, 98, 99, 100, 101, 102]⟩ : ByteArray).extract ((ji11) : Int).toNat ((wrap64 ((ji11) + 1)) : Int).toNat).size) = False := eq_false (by have h_ := c15; first | (simp only [ByteArray.size_append] at h_; exact Nat.not_lt.2 h_) | (simp only [ByteArray.size_append, ByteArray.size_extract, bsz, List.size_toArray, List.length_cons, List.length_nil, Nat.zero_add, Nat.reduceAdd, eq_iff_iff, iff_true] at *; omega))
        have H' := Aside0.mk H
        clear H
        have p4 : 0 ≤ (x4_1 : Int) := dcd
        have q4 : x4_1 < (a0.size : Int) := dcd
        have hx4 := bt_at a0 x4_1
        replace p4 := eq_true p4
        replace q4 := eq_true q4
        have p5 : 0 ≤ (x4_1 : Int) := dcd
        have q5 : x4_1 < (a0.size : Int) := dcd
        have hx5 := bt_at a0 x4_1
        replace p5 := eq_true p5
        replace q5 := eq_true q5
        go_wp2
        repeat (go_quiet (fail); try go_wp2)
        go_roundg k1
        case measure => have := HK1.out; omega
        case rel => exact ⟨((x3_1 ++ ((⟨#[48, 49, 50, 51, 52, 53, 54, 55, 56, 57, 97, 98, 99, 100, 101, 102]⟩ : ByteArray).extract ((ji6) : Int).toNat ((wrap64 ((ji6) + 1)) : Int).toNat)) ++ ((⟨#[48, 49, 50, 51, 52, 53, 54, 55, 56, 57, 97, 98, 99, 100, 101, 102]⟩ : ByteArray).extract ((ji11) : Int).toNat ((wrap64 ((ji11) + 1)) : Int).toNat)), (wrap64 (x4_1 + 1)), (by first | rfl | (simp; done) | (simp only [← hji6, ← hji11] <;> (first | rfl | simp)) | (simp [*]; done)), sr, H', ⟨by have := HK1.out; omega⟩, by repeat (first | exact Drawn0.refl _ | apply Drawn0.step)⟩
      · rw [if_neg c2] at H
        have c2b0 := decide_eq_false c2
        clear c2
        obtain rfl := Option.some.inj H
        go_wp2
        repeat (go_quiet (fail); try go_wp2)
        go_ret
        exact ⟨by first | rfl | (simp; done) | (simp [*]; done), by repeat (first | exact Drawn0.refl _ | apply Drawn0.step)⟩

/-! ### spec_l22Num: function 11 -/
def spec_l22Num.l0 : Nat → Int → ByteArray → Int → Option (ByteArray)
  | 0, _, _, _ => none
  | k + 1, x0, x3, x4 => if x4 = 0 then (if x0 < 0 then (if 1 + x3.size ≤ 9223372036854775807 then (some ((⟨#[45]⟩ : ByteArray) ++ x3)) else (none)) else (some x3)) else (if (Int.tmod x4 10) < 0 then ((some (([(wrap64 (48 + (wrap64 (-(Int.tmod x4 10))))) % 256] : List Int) : List Int)).bind fun y106 => (if (strOfNums y106).size + x3.size ≤ 9223372036854775807 then (spec_l22Num.l0 k x0 ((strOfNums y106) ++ x3) (wrap64 (Int.tdiv x4 10))) else (none))) else ((some (([(wrap64 (48 + (Int.tmod x4 10))) % 256] : List Int) : List Int)).bind fun y109 => (if (strOfNums y109).size + x3.size ≤ 9223372036854775807 then (spec_l22Num.l0 k x0 ((strOfNums y109) ++ x3) (wrap64 (Int.tdiv x4 10))) else (none))))
def spec_l22Num.f (k : Nat) (a0 : Int) : Option (ByteArray) := if a0 = 0 then (some (⟨#[48]⟩ : ByteArray)) else (spec_l22Num.l0 k a0 (⟨#[]⟩ : ByteArray) a0)
set_option maxHeartbeats 8000000 in
set_option maxRecDepth 100000 in
theorem spec_l22Num.calls (k : Nat) (a0 : Int) (r : ByteArray) (w : World) (h : spec_l22Num.f k a0 = some r) :
    Calls Tryd.prog 11 #[.int .i64 a0] w fun e w' => e = .returned (.string r) ∧ Below w.heap.size w w' := by
  have HB := Aside0.mk (Below.refl w.heap.size w)
  have H : (if a0 = 0 then (some (⟨#[48]⟩ : ByteArray)) else (spec_l22Num.l0 k a0 (⟨#[]⟩ : ByteArray) a0)) = some r := h
  clear h
  by_cases c2 : a0 = 0
  · rw [if_pos c2] at H
    have c2b0 : (a0 == 0) = true := beq_iff_eq.mpr c2
    have c2b1 : (a0 != 0) = false := bne_eq_false_iff_eq.mpr c2
    clear c2
    obtain rfl := Option.some.inj H
    go_enter Tryd.func11, Tryd.ntmps11
    go_wp2
    go_ret
    exact fin_ (below_later HB.out)
  · rw [if_neg c2] at H
    have c2b0 : (a0 == 0) = false := beq_eq_false_iff_ne.mpr c2
    have c2b1 : (a0 != 0) = true := bne_iff_ne.mpr c2
    have H' := Aside0.mk H
    clear H
    go_enter Tryd.func11, Tryd.ntmps11
    go_wp2
    go_loopg [3, 4] k (fun kq v3 v4 w' => ∃ (x3_1 : ByteArray) (x4_1 : Int), v3 = .string x3_1 ∧ v4 = .int .i64 x4_1 ∧ Aside0 (spec_l22Num.l0 kq a0 x3_1 x4_1 = some r) ∧ Aside0 (kq ≤ k) ∧ Aside0 (Below w.heap.size w w'))
    case atStart => exact ⟨((⟨#[]⟩ : ByteArray)), (a0), sr, sr, H', ⟨Nat.le_refl _⟩, ⟨below_later HB.out⟩⟩
    case round =>
      clear H'
      try clear c2
      try clear c2b0
      try clear c2b1
      obtain ⟨x3_1, x4_1, rfl, rfl, HA, HK1, HB⟩ := hrel
      cases gk with
      | zero => exact absurd HA.out (by simp [spec_l22Num.l0])
      | succ k1 =>
        have H := HA.out
        clear HA
        simp only [spec_l22Num.l0] at H
        by_cases c3 : x4_1 = 0
        · rw [if_pos c3] at H
          have c3b0 : (x4_1 == 0) = true := beq_iff_eq.mpr c3
          have c3b1 : (x4_1 != 0) = false := bne_eq_false_iff_eq.mpr c3
          clear c3
          by_cases c4 : a0 < 0
          · rw [if_pos c4] at H
            have c4b0 := decide_eq_true c4
            clear c4
            replace H := ifs H
            obtain ⟨c5, H⟩ := H
            have c5b0 := eq_true c5
            have c5b1 := decide_eq_true c5
            try have c5b2 : (9223372036854775807 < 1 + x3_1.size) = False := eq_false (Nat.not_lt.2 c5)
            obtain rfl := Option.some.inj H
            go_wp2
            go_ret
            exact fin_ (below_later HB.out)
          · rw [if_neg c4] at H
            have c4b0 := decide_eq_false c4
            clear c4
            obtain rfl := Option.some.inj H
            go_wp2
            go_ret
            exact fin_ (below_later HB.out)
        · rw [if_neg c3] at H
          have c3b0 : (x4_1 == 0) = false := beq_eq_false_iff_ne.mpr c3
          have c3b1 : (x4_1 != 0) = true := bne_iff_ne.mpr c3
          by_cases c6 : (Int.tmod x4_1 10) < 0
          · rw [if_pos c6] at H
            have c6b0 := decide_eq_true c6
            clear c6
            replace H := bsm H
            obtain ⟨y106, Ny106, H⟩ := H
            replace H := ifs H
            obtain ⟨c7, H⟩ := H
            have c7b0 := eq_true c7
            have c7b1 := decide_eq_true c7
            try have c7b2 : (9223372036854775807 < (strOfNums y106).size + x3_1.size) = False := eq_false (Nat.not_lt.2 c7)
            have H' := Aside0.mk H
            clear H
            go_wp2_with (first | ((with_reducible refine gate_dst (N := 20) rfl ?_); refine Kd.R_lit (Kd.int .u8) _ 5 ?hg (N := 20) ?hd (xs := ([(wrap64 (48 + (wrap64 (-(Int.tmod x4_1 10))))) % 256] : List Int)) (inner := [.int .u8 ((wrap64 (48 + (wrap64 (-(Int.tmod x4_1 10))))) % 256)]) (ok := fun _ => True) (okp := fun _ => True) ?hr ?hp (fun _ hk => hk) trivial (Below.refl _ _) (Nat.le_refl _) (by simp) ?_; (case hd => rfl); (case hg => rfl); (case hr => first | (go_simp; done) | (go_simp; rfl)); (case hp => exact (Reps.one (show Kd.M (Kd.int .u8) _ _ _ ((wrap64 (48 + (wrap64 (-(Int.tmod x4_1 10))))) % 256) [.int .u8 ((wrap64 (48 + (wrap64 (-(Int.tmod x4_1 10))))) % 256)] from rfl) (Reps.none _ _))); intro v107 w8 ho9 hb hg_ hnew_; clear hg_ hnew_; (first | rw [← Ny106.out] at ho9 | (simp only [Int.reduceToNat] at ho9; rw [← Ny106.out] at ho9)); have HO108 := Aside0.mk (Kd.R_lower ho9 (below_size (below_later HB.out))); replace HB := bst HB hb; clear hb ho9; have hcv10 := own_string (P := Tryd.prog) Tryd.underlying46 Tryd.underlying5 Tryd.underlying9 (Kd.own_of_R HO108.out)))
            go_roundg k1
            case measure => have := HK1.out; omega
            case rel => exact ⟨((strOfNums y106) ++ x3_1), (wrap64 (Int.tdiv x4_1 10)), sr, sr, H', ⟨by have := HK1.out; omega⟩, ⟨below_later HB.out⟩⟩
          · rw [if_neg c6] at H
            have c6b0 := decide_eq_false c6
            clear c6
            replace H := bsm H
            obtain ⟨y109, Ny109, H⟩ := H
            replace H := ifs H
            obtain ⟨c11, H⟩ := H
            have c11b0 := eq_true c11
            have c11b1 := decide_eq_true c11
            try have c11b2 : (9223372036854775807 < (strOfNums y109).size + x3_1.size) = False := eq_false (Nat.not_lt.2 c11)
            have H' := Aside0.mk H
            clear H
            go_wp2_with (first | ((with_reducible refine gate_dst (N := 20) rfl ?_); refine Kd.R_lit (Kd.int .u8) _ 5 ?hg (N := 20) ?hd (xs := ([(wrap64 (48 + (Int.tmod x4_1 10))) % 256] : List Int)) (inner := [.int .u8 ((wrap64 (48 + (Int.tmod x4_1 10))) % 256)]) (ok := fun _ => True) (okp := fun _ => True) ?hr ?hp (fun _ hk => hk) trivial (Below.refl _ _) (Nat.le_refl _) (by simp) ?_; (case hd => rfl); (case hg => rfl); (case hr => first | (go_simp; done) | (go_simp; rfl)); (case hp => exact (Reps.one (show Kd.M (Kd.int .u8) _ _ _ ((wrap64 (48 + (Int.tmod x4_1 10))) % 256) [.int .u8 ((wrap64 (48 + (Int.tmod x4_1 10))) % 256)] from rfl) (Reps.none _ _))); intro v110 w12 ho13 hb hg_ hnew_; clear hg_ hnew_; (first | rw [← Ny109.out] at ho13 | (simp only [Int.reduceToNat] at ho13; rw [← Ny109.out] at ho13)); have HO111 := Aside0.mk (Kd.R_lower ho13 (below_size (below_later HB.out))); replace HB := bst HB hb; clear hb ho13; have hcv14 := own_string (P := Tryd.prog) Tryd.underlying46 Tryd.underlying5 Tryd.underlying9 (Kd.own_of_R HO111.out)))
            go_roundg k1
            case measure => have := HK1.out; omega
            case rel => exact ⟨((strOfNums y109) ++ x3_1), (wrap64 (Int.tdiv x4_1 10)), sr, sr, H', ⟨by have := HK1.out; omega⟩, ⟨below_later HB.out⟩⟩
/-! ### spec_RecPrint: function 5 -/
mutual
def spec_RecPrint.l0 : Nat → ByteArray → Int → List (S36) → Option (ByteArray × Bool)
  | 0, _, _, _ => none
  | k + 1, x4, x5, x113000 => if x5 < (x113000.length : Int) then (if 0 ≤ x5 then (if ((rd_T36 x113000 x5).f0) = 0 then (spec_RecPrint.j1 k x4 x5 (decide ((((rd_T36 x113000 x5).f1).size : Int) > 40)) x113000 ((rd_T36 x113000 x5).f0) ((rd_T36 x113000 x5).f1)) else (if ((rd_T36 x113000 x5).f1).toList = ([] : List UInt8) then (spec_RecPrint.j1 k x4 x5 (decide ((((rd_T36 x113000 x5).f1).size : Int) > 40)) x113000 ((rd_T36 x113000 x5).f0) ((rd_T36 x113000 x5).f1)) else (spec_RecPrint.j1 k x4 x5 true x113000 ((rd_T36 x113000 x5).f0) ((rd_T36 x113000 x5).f1)))) else (none)) else (some (x4, true))
def spec_RecPrint.j1 : Nat → ByteArray → Int → Bool → List (S36) → Int → ByteArray → Option (ByteArray × Bool)
  | 0, _, _, _, _, _, _ => none
  | k + 1, x4, x5, x36, x113000, x115000, x115001 => if x36 = true then (some ((⟨#[]⟩ : ByteArray), false)) else (if x5 > 0 then (if x4.size + 1 ≤ 9223372036854775807 then (spec_RecPrint.j2 k (x4 ++ (⟨#[32]⟩ : ByteArray)) x5 x113000 x115000 x115001) else (none)) else (spec_RecPrint.j2 k x4 x5 x113000 x115000 x115001))
def spec_RecPrint.j2 : Nat → ByteArray → Int → List (S36) → Int → ByteArray → Option (ByteArray × Bool)
  | 0, _, _, _, _, _ => none
  | k + 1, x4, x5, x113000, x115000, x115001 => if x115001.toList = ([] : List UInt8) then ((spec_l22Num.f k x115000).bind fun t115 => (if x4.size + t115.size ≤ 9223372036854775807 then (spec_RecPrint.l0 k (x4 ++ t115) (wrap64 (x5 + 1)) x113000) else (none))) else ((spec_l22Hex.f k x115001).bind fun t116 => (if x4.size + t116.size ≤ 9223372036854775807 then (spec_RecPrint.l0 k (x4 ++ t116) (wrap64 (x5 + 1)) x113000) else (none)))
end
def spec_RecPrint.f (k : Nat) (l0_0 : List (S36)) : Option (ByteArray × Bool) := if (l0_0.length : Int) > 300 then (some ((⟨#[]⟩ : ByteArray), false)) else (spec_RecPrint.l0 k (⟨#[]⟩ : ByteArray) 0 l0_0)
set_option maxHeartbeats 8000000 in
set_option maxRecDepth 100000 in
theorem spec_RecPrint.calls (k : Nat) (A0_0 : Option Addr) (c0_0 : Nat) (l0_0 : List (S36)) (r1 : ByteArray) (r2 : Bool) (w : World) (hr0_0 : Kd.C k36 w A0_0 l0_0.length l0_0) (hc0_0 : l0_0.length ≤ c0_0) (h : spec_RecPrint.f k l0_0 = some (r1, r2)) :
    Calls Tryd.prog 5 #[.agg #[.slice A0_0 l0_0.length c0_0]] w fun e w' => e = .returned (.tuple #[.string r1, .bool r2]) ∧ Below w.heap.size w w' := by
  have hu30 := Tryd.underlying30
  have hu36 := Tryd.underlying36
  have HR0_0 := Aside0.mk hr0_0
  have HC0_0 := Aside0.mk hc0_0
  clear hr0_0 hc0_0
  have HB := Aside0.mk (Below.refl w.heap.size w)
  have H : (if (l0_0.length : Int) > 300 then (some ((⟨#[]⟩ : ByteArray), false)) else (spec_RecPrint.l0 k (⟨#[]⟩ : ByteArray) 0 l0_0)) = some (r1, r2) := h
  clear h
  by_cases c2 : (l0_0.length : Int) > 300
  · rw [if_pos c2] at H
    have c2b0 : decide (300 < (l0_0.length : Int)) = true := decide_eq_true c2
    have c2b1 : decide (300 < l0_0.length) = true := decide_eq_true (by omega)
    clear c2
    simp only [Option.some.injEq, Prod.mk.injEq] at H
    obtain ⟨rfl, rfl⟩ := H
    go_enter Tryd.func5, Tryd.ntmps5
    go_wp2_with (first | ((with_reducible refine gate_dst (N := 1) rfl ?_); (try (refine gate_guard (by rfl) ?_; dsimp only)); refine bx_ 1 #[.slice A0_0 l0_0.length c0_0] 30 ?_; intro gb112 hg w3 hbox hb; have BK112 := Aside0.mk (hbox); have GW112 := gwe HB hg; have GE112 := GW112; replace HB := bst HB hb; clear hb hbox hg; obtain ⟨hcz4_0, hfz4_0⟩ := cl1 BK112))
    go_ret2
    exact fin_ (below_later HB.out)
  · rw [if_neg c2] at H
    have c2b0 : decide (300 < (l0_0.length : Int)) = false := decide_eq_false c2
    have c2b1 : decide (300 < l0_0.length) = false := decide_eq_false (by omega)
    clear c2
    have H' := Aside0.mk H
    clear H
    go_enter Tryd.func5, Tryd.ntmps5
    go_wp2_with (first | ((with_reducible refine gate_dst (N := 1) rfl ?_); (try (refine gate_guard (by rfl) ?_; dsimp only)); refine bx_ 1 #[.slice A0_0 l0_0.length c0_0] 30 ?_; intro gb112 hg w5 hbox hb; have BK112 := Aside0.mk (hbox); have GW112 := gwe HB hg; have GE112 := GW112; replace HB := bst HB hb; clear hb hbox hg; obtain ⟨hcz6_0, hfz6_0⟩ := cl1 BK112))
    go_loopg [4, 5] k (fun kq v4 v5 w' => ∃ (x4_1 : ByteArray) (x5_1 : Int), v4 = .string x4_1 ∧ v5 = .int .i64 x5_1 ∧ Aside0 (spec_RecPrint.l0 kq x4_1 x5_1 l0_0 = some (r1, r2)) ∧ Aside0 (kq ≤ k) ∧ Aside0 (w'.heap[gb112]? = some (.cells #[(.slice A0_0 l0_0.length c0_0)] 30 (0, 0))) ∧ Aside0 (Below w.heap.size w w'))
    case atStart => exact ⟨((⟨#[]⟩ : ByteArray)), (0), sr, sr, H', ⟨Nat.le_refl _⟩, ⟨blk_later BK112.out⟩, ⟨below_later HB.out⟩⟩
    case round =>
      clear H'
      try clear c2
      try clear c2b0
      try clear c2b1
      try clear hcz6_0
      try clear hfz6_0
      obtain ⟨x4_1, x5_1, rfl, rfl, HA, HK1, BK112, HB⟩ := hrel
      cases gk with
      | zero => exact absurd HA.out (by simp [spec_RecPrint.l0])
      | succ k1 =>
        have H := HA.out
        clear HA
        simp only [spec_RecPrint.l0] at H
        by_cases c7 : x5_1 < (l0_0.length : Int)
        · rw [if_pos c7] at H
          have c7b0 := decide_eq_true c7
          clear c7
          replace H := ifd H
          obtain ⟨c8b0, H⟩ := H
          have HC9 := Aside0.mk H
          clear H
          obtain ⟨hcz10_0, hfz10_0⟩ := cl1 BK112
          have p113 : 0 ≤ (x5_1 : Int) := dcd
          have q113 : x5_1 < (l0_0.length : Int) := dcd
          obtain ⟨ad113, e113, hx113_0, hx113_1⟩ := at_T36 HR0_0.out x5_1 p113 q113
          cases e113
          replace hx113_0 := crd HB hx113_0
          replace hx113_1 := crd HB hx113_1
          replace p113 := eq_true p113
          replace q113 := eq_true q113
          go_upto_region 8 with (first | ((with_reducible refine gate_dst (N := 6) rfl ?_); (try (refine gate_guard (by rfl) ?_; dsimp only)); refine bx_ 6 #[.int .i64 0, .string (⟨#[]⟩ : ByteArray)] 36 ?_; intro gb114 hg w11 hbox hb; have BK114 := Aside0.mk (hbox); have GW114 := gwe HB hg; have GE114 := GW114; have NB112_114 := nbl BK112 hg; have NB114_112 := nbr (nbl BK112 hg); replace BK112 := bkb BK112 hb; replace HB := bst HB hb; clear hb hbox hg; have hnb12 := NB114_112.out; have hnc12 := NB112_114.out; obtain ⟨hcz13_0, hcz13_1, hfz13_0, hfz13_1⟩ := cl2 BK114))
          (try simp only [Act.put, List.setIfInBounds_toArray, List.set_cons_zero, List.set_cons_succ])
          go_cut [36] (fun v36 wc => ∃ (kq : Nat) (x36_8 : Bool), v36 = .bool x36_8 ∧ Aside0 (spec_RecPrint.j1 kq x4_1 x5_1 x36_8 l0_0 ((rd_T36 l0_0 x5_1).f0) ((rd_T36 l0_0 x5_1).f1) = some (r1, r2)) ∧ Aside0 (kq ≤ k1) ∧ Aside0 (wc.heap[gb112]? = some (.cells #[(.slice (some ad113) l0_0.length c0_0)] 30 (0, 0))) ∧ Aside0 (wc.heap[gb114]? = some (.cells #[.int .i64 ((rd_T36 l0_0 x5_1).f0), .string ((rd_T36 l0_0 x5_1).f1)] 36 (0, 0))) ∧ Aside0 (Below w.heap.size w wc))
          case first =>
            have H := HC9.out
            clear HC9
            by_cases c14 : ((rd_T36 l0_0 x5_1).f0) = 0
            · rw [if_pos c14] at H
              have c14b0 : (((rd_T36 l0_0 x5_1).f0) == 0) = true := beq_iff_eq.mpr c14
              have c14b1 : (((rd_T36 l0_0 x5_1).f0) != 0) = false := bne_eq_false_iff_eq.mpr c14
              clear c14
              (first | rw [c14b0] | rw [c14b1] | (simp only [i64_w, i32_w]; rw [c14b0]) | skip)
              have H' := Aside0.mk H
              clear H
              have hnb15 := NB114_112.out
              have hnc15 := NB112_114.out
              obtain ⟨hcz16_0, hcz16_1, hfz16_0, hfz16_1⟩ := cl2 BK114
              go_wp2
              go_meet
              case rel => exact ⟨_, (decide ((((rd_T36 l0_0 x5_1).f1).size : Int) > 40)), sr, H', ⟨by have := HK1.out; first | omega | exact Nat.le_refl _⟩, ⟨blk_later BK112.out⟩, ⟨blk_later BK114.out⟩, ⟨below_later HB.out⟩⟩
            · rw [if_neg c14] at H
              have c14b0 : (((rd_T36 l0_0 x5_1).f0) == 0) = false := beq_eq_false_iff_ne.mpr c14
              have c14b1 : (((rd_T36 l0_0 x5_1).f0) != 0) = true := bne_iff_ne.mpr c14
              (first | rw [c14b0] | rw [c14b1] | (simp only [i64_w, i32_w]; rw [c14b0]) | skip)
              by_cases c17 : ((rd_T36 l0_0 x5_1).f1).toList = ([] : List UInt8)
              · rw [if_pos c17] at H
                have c17b0 : (((rd_T36 l0_0 x5_1).f1).toList == ([] : List UInt8)) = true := beq_iff_eq.mpr c17
                have c17b1 : (((rd_T36 l0_0 x5_1).f1).toList != ([] : List UInt8)) = false := bne_eq_false_iff_eq.mpr c17
                clear c17
                have H' := Aside0.mk H
                clear H
                have hnb18 := NB114_112.out
                have hnc18 := NB112_114.out
                obtain ⟨hcz19_0, hcz19_1, hfz19_0, hfz19_1⟩ := cl2 BK114
                go_wp2
                go_meet
                case rel => exact ⟨_, (decide ((((rd_T36 l0_0 x5_1).f1).size : Int) > 40)), sr, H', ⟨by have := HK1.out; first | omega | exact Nat.le_refl _⟩, ⟨blk_later BK112.out⟩, ⟨blk_later BK114.out⟩, ⟨below_later HB.out⟩⟩
              · rw [if_neg c17] at H
                have c17b0 : (((rd_T36 l0_0 x5_1).f1).toList == ([] : List UInt8)) = false := beq_eq_false_iff_ne.mpr c17
                have c17b1 : (((rd_T36 l0_0 x5_1).f1).toList != ([] : List UInt8)) = true := bne_iff_ne.mpr c17
                have H' := Aside0.mk H
                clear H
                have hnb20 := NB114_112.out
                have hnc20 := NB112_114.out
                obtain ⟨hcz21_0, hcz21_1, hfz21_0, hfz21_1⟩ := cl2 BK114
                go_wp2
                go_meet
                case rel => exact ⟨_, (true), sr, H', ⟨by have := HK1.out; first | omega | exact Nat.le_refl _⟩, ⟨blk_later BK112.out⟩, ⟨blk_later BK114.out⟩, ⟨below_later HB.out⟩⟩
          case rest =>
            clear HC9
            try clear c2
            try clear c2b0
            try clear c2b1
            try clear c7
            try clear c7b0
            try clear c8b0
            try clear hcz10_0
            try clear hcz13_0
            try clear hcz13_1
            try clear hcz6_0
            try clear hfz10_0
            try clear hfz13_0
            try clear hfz13_1
            try clear hfz6_0
            try clear hx113_0
            try clear hx113_1
            try clear p113
            try clear q113
            obtain ⟨kq, x36_8, rfl, HA, HJ8, BK112, BK114, HB⟩ := hcut
            cases kq with
            | zero => exact absurd HA.out (by simp [spec_RecPrint.j1])
            | succ kj8 =>
              have H := HA.out
              clear HA
              simp only [spec_RecPrint.j1] at H
              by_cases c22 : x36_8 = true
              · subst c22
                replace H := ifp rfl H
                simp only [Option.some.injEq, Prod.mk.injEq] at H
                obtain ⟨rfl, rfl⟩ := H
                go_wp2
                go_ret2
                exact fin_ (below_later HB.out)
              · replace c22 := Bool.eq_false_iff.mpr c22
                subst c22
                replace H := ifn Bool.false_ne_true H
                have HC23 := Aside0.mk H
                clear H
                go_upto_if 38 with (fail)
                go_cut [4] (fun v4 wc => ∃ (kq : Nat) (x4_22 : ByteArray), v4 = .string x4_22 ∧ Aside0 (spec_RecPrint.j2 kq x4_22 x5_1 l0_0 ((rd_T36 l0_0 x5_1).f0) ((rd_T36 l0_0 x5_1).f1) = some (r1, r2)) ∧ Aside0 (kq ≤ kj8) ∧ Aside0 (wc.heap[gb112]? = some (.cells #[(.slice (some ad113) l0_0.length c0_0)] 30 (0, 0))) ∧ Aside0 (wc.heap[gb114]? = some (.cells #[.int .i64 ((rd_T36 l0_0 x5_1).f0), .string ((rd_T36 l0_0 x5_1).f1)] 36 (0, 0))) ∧ Aside0 (Below w.heap.size w wc))
                case first =>
                  have H := HC23.out
                  clear HC23
                  by_cases c24 : x5_1 > 0
                  · rw [if_pos c24] at H
                    have c24b0 : decide (0 < x5_1) = true := decide_eq_true c24
                    clear c24
                    (first | rw [c24b0] | (simp only [i64_w, i32_w]; rw [c24b0]) | skip)
                    replace H := ifs H
                    obtain ⟨c25, H⟩ := H
                    have c25b0 := eq_true c25
                    have c25b1 := decide_eq_true c25
                    try have c25b2 : (9223372036854775807 < x4_1.size + 1) = False := eq_false (Nat.not_lt.2 c25)
                    have H' := Aside0.mk H
                    clear H
                    go_wp2
                    go_meet
                    case rel => exact ⟨_, (x4_1 ++ (⟨#[32]⟩ : ByteArray)), sr, H', ⟨by have := HK1.out; have := HJ8.out; first | omega | exact Nat.le_refl _⟩, ⟨blk_later BK112.out⟩, ⟨blk_later BK114.out⟩, ⟨below_later HB.out⟩⟩
                  · rw [if_neg c24] at H
                    have c24b0 : decide (0 < x5_1) = false := decide_eq_false c24
                    clear c24
                    (first | rw [c24b0] | (simp only [i64_w, i32_w]; rw [c24b0]) | skip)
                    have H' := Aside0.mk H
                    clear H
                    go_wp2
                    go_meet
                    case rel => exact ⟨_, (x4_1), sr, H', ⟨by have := HK1.out; have := HJ8.out; first | omega | exact Nat.le_refl _⟩, ⟨blk_later BK112.out⟩, ⟨blk_later BK114.out⟩, ⟨below_later HB.out⟩⟩
                case rest =>
                  clear HC23
                  try clear c2
                  try clear c2b0
                  try clear c2b1
                  try clear c7
                  try clear c7b0
                  try clear c8b0
                  try clear c22
                  try clear hcz10_0
                  try clear hcz13_0
                  try clear hcz13_1
                  try clear hcz6_0
                  try clear hfz10_0
                  try clear hfz13_0
                  try clear hfz13_1
                  try clear hfz6_0
                  try clear hx113_0
                  try clear hx113_1
                  try clear p113
                  try clear q113
                  obtain ⟨kq, x4_22, rfl, HA, HJ22, BK112, BK114, HB⟩ := hcut
                  cases kq with
                  | zero => exact absurd HA.out (by simp [spec_RecPrint.j2])
                  | succ kj22 =>
                    have H := HA.out
                    clear HA
                    simp only [spec_RecPrint.j2] at H
                    by_cases c26 : ((rd_T36 l0_0 x5_1).f1).toList = ([] : List UInt8)
                    · rw [if_pos c26] at H
                      have c26b0 : (((rd_T36 l0_0 x5_1).f1).toList == ([] : List UInt8)) = true := beq_iff_eq.mpr c26
                      have c26b1 : (((rd_T36 l0_0 x5_1).f1).toList != ([] : List UInt8)) = false := bne_eq_false_iff_eq.mpr c26
                      clear c26
                      replace H := bnd H
                      obtain ⟨t115, A27, H⟩ := H
                      replace H := ifs H
                      obtain ⟨c28, H⟩ := H
                      have c28b0 := eq_true c28
                      have c28b1 := decide_eq_true c28
                      try have c28b2 : (9223372036854775807 < x4_22.size + t115.size) = False := eq_false (Nat.not_lt.2 c28)
                      have H' := Aside0.mk H
                      clear H
                      have hnb29 := NB114_112.out
                      have hnc29 := NB112_114.out
                      obtain ⟨hcz30_0, hcz30_1, hfz30_0, hfz30_1⟩ := cl2 BK114
                      go_wp2_with (first | ((with_reducible refine gate_callee (f := 11) rfl ?_); refine gl_ (some 52) Tryd.func11 #[.int .i64 ((rd_T36 l0_0 x5_1).f0)] rfl ?_; (with_reducible refine (spec_l22Num.calls kj22 ((rd_T36 l0_0 x5_1).f0) t115 _ A27.out).mono ?_); rintro e w31 ⟨rfl, hb⟩; refine ⟨_, rfl, ?_⟩; replace BK112 := bkb BK112 hb; replace BK114 := bkb BK114 hb; replace HB := bst HB hb; (try clear hb)))
                      go_roundg kj22
                      case measure => have := HK1.out; have := HJ8.out; have := HJ22.out; omega
                      case rel => exact ⟨(x4_22 ++ t115), (wrap64 (x5_1 + 1)), sr, sr, H', ⟨by have := HK1.out; have := HJ8.out; have := HJ22.out; omega⟩, ⟨blk_later BK112.out⟩, ⟨below_later HB.out⟩⟩
                    · rw [if_neg c26] at H
                      have c26b0 : (((rd_T36 l0_0 x5_1).f1).toList == ([] : List UInt8)) = false := beq_eq_false_iff_ne.mpr c26
                      have c26b1 : (((rd_T36 l0_0 x5_1).f1).toList != ([] : List UInt8)) = true := bne_iff_ne.mpr c26
                      replace H := bnd H
                      obtain ⟨t116, A32, H⟩ := H
                      replace H := ifs H
                      obtain ⟨c33, H⟩ := H
                      have c33b0 := eq_true c33
                      have c33b1 := decide_eq_true c33
                      try have c33b2 : (9223372036854775807 < x4_22.size + t116.size) = False := eq_false (Nat.not_lt.2 c33)
                      have H' := Aside0.mk H
                      clear H
                      have hnb34 := NB114_112.out
                      have hnc34 := NB112_114.out
                      obtain ⟨hcz35_0, hcz35_1, hfz35_0, hfz35_1⟩ := cl2 BK114
                      go_wp2_with (first | ((with_reducible refine gate_callee (f := 10) rfl ?_); refine gl_ (some 47) Tryd.func10 #[.string ((rd_T36 l0_0 x5_1).f1)] rfl ?_; (with_reducible refine (spec_l22Hex.calls kj22 ((rd_T36 l0_0 x5_1).f1) t116 _ A32.out).mono ?_); rintro e w' ⟨rfl, ⟨nd, rfl⟩⟩; refine ⟨_, rfl, ?_⟩))
                      go_roundg kj22
                      case measure => have := HK1.out; have := HJ8.out; have := HJ22.out; omega
                      case rel => exact ⟨(x4_22 ++ t116), (wrap64 (x5_1 + 1)), sr, sr, H', ⟨by have := HK1.out; have := HJ8.out; have := HJ22.out; omega⟩, ⟨blk_later BK112.out⟩, ⟨below_later HB.out⟩⟩
        · rw [if_neg c7] at H
          have c7b0 := decide_eq_false c7
          clear c7
          simp only [Option.some.injEq, Prod.mk.injEq] at H
          obtain ⟨rfl, rfl⟩ := H
          obtain ⟨hcz36_0, hfz36_0⟩ := cl1 BK112
          go_wp2
          go_ret2
          exact fin_ (below_later HB.out)

/-! ### laws_toVal: function 17 -/
def laws_toVal.f (a0_0 : Int) (a0_1 : ByteArray) : Option (Int × ByteArray) := some (a0_0, a0_1)
set_option maxHeartbeats 8000000 in
set_option maxRecDepth 100000 in
theorem laws_toVal.calls (a0_0 : Int) (a0_1 : ByteArray) (r1 : Int) (r2 : ByteArray) (w : World) (h : laws_toVal.f a0_0 a0_1 = some (r1, r2)) :
    Calls Tryd.prog 17 #[.agg #[.int .i64 a0_0, .string a0_1]] w fun e w' => e = .returned (.agg #[.int .i64 r1, .string r2]) ∧ Below w.heap.size w w' := by
  have hu45 := Tryd.underlying45
  have hu36 := Tryd.underlying36
  have HB := Aside0.mk (Below.refl w.heap.size w)
  have H : (some (a0_0, a0_1)) = some (r1, r2) := h
  clear h
  simp only [Option.some.injEq, Prod.mk.injEq] at H
  obtain ⟨rfl, rfl⟩ := H
  go_enter Tryd.func17, Tryd.ntmps17
  go_wp2_with (first | ((with_reducible refine gate_dst (N := 1) rfl ?_); refine bx_ 1 #[.int .i64 a0_0, .string a0_1] 45 ?_; intro gb117 hg w2 hbox hb; have BK117 := Aside0.mk (hbox); have GW117 := gwe HB hg; have GE117 := GW117; replace HB := bst HB hb; clear hb hbox hg) | ((with_reducible refine gate_dst (N := 2) rfl ?_); refine bx_ 2 #[.int .i64 0, .string (⟨#[]⟩ : ByteArray)] 36 ?_; intro gb118 hg w3 hbox hb; have BK118 := Aside0.mk (hbox); have GW118 := gwe HB hg; have GE118 := GW118; have NB117_118 := nbl BK117 hg; have NB118_117 := nbr (nbl BK117 hg); replace BK117 := bkb BK117 hb; replace HB := bst HB hb; clear hb hbox hg) | ((with_reducible refine gate_dst (N := 3) rfl ?_); refine bx_ 3 #[.int .i64 0, .string (⟨#[]⟩ : ByteArray)] 36 ?_; intro gb119 hg w4 hbox hb; have BK119 := Aside0.mk (hbox); have GW119 := gwe HB hg; have GE119 := GW119; have NB117_119 := nbl BK117 hg; have NB119_117 := nbr (nbl BK117 hg); have NB118_119 := nbl BK118 hg; have NB119_118 := nbr (nbl BK118 hg); replace BK117 := bkb BK117 hb; replace BK118 := bkb BK118 hb; replace HB := bst HB hb; clear hb hbox hg; have hnb5 := NB117_118.out; have hnc5 := NB118_117.out; have hnb6 := NB117_119.out; have hnc6 := NB119_117.out; obtain ⟨hcz7_0, hcz7_1, hfz7_0, hfz7_1⟩ := cl2 BK117; have hnb8 := NB119_118.out; have hnc8 := NB118_119.out; obtain ⟨hcz9_0, hcz9_1, hfz9_0, hfz9_1⟩ := cl2 BK119; obtain ⟨hcz10_0, hcz10_1, hfz10_0, hfz10_1⟩ := cl2 BK118))
  refine bodyPost_ret (results_cell_row rfl _ _ gb118 36 #[.int .i64 a0_0, .string a0_1] (0, 0) _ rfl (by (with_reducible repeat (first | refine blk_drewN ?_ _ | refine blk_drew ?_ | refine blk_alloc ?_ _)); refine blk_put (cs := #[.int .i64 a0_0, .string (⟨#[]⟩ : ByteArray)]) ?_ 1 _ rfl; (with_reducible repeat (first | refine blk_drewN ?_ _ | refine blk_drew ?_ | refine blk_alloc ?_ _)); refine blk_put (cs := #[.int .i64 0, .string (⟨#[]⟩ : ByteArray)]) ?_ 0 _ rfl; (with_reducible repeat (first | refine blk_drewN ?_ _ | refine blk_drew ?_ | refine blk_alloc ?_ _)); refine blk_far ?_ NB118_119.out _; (with_reducible repeat (first | refine blk_drewN ?_ _ | refine blk_drew ?_ | refine blk_alloc ?_ _)); refine blk_far ?_ NB118_119.out _; (with_reducible repeat (first | refine blk_drewN ?_ _ | refine blk_drew ?_ | refine blk_alloc ?_ _)); exact BK118.out) Tryd.underlying36 rfl (by kernel_rfl)) rfl ?_
  exact fin_ (below_later HB.out)

/-! ### laws_toValS: function 12 -/
def laws_toValS.l0 : Nat → List (S45) → List (S36) → Int → Option ((List (S36)))
  | 0, _, _, _ => none
  | k + 1, x0, x3, x4 => if x4 < (x0.length : Int) then (if 0 ≤ x4 then ((laws_toVal.f ((rd_T45 x0 x4).f0) ((rd_T45 x0 x4).f1)).bind fun bt124 => (if x4 < (x3.length : Int) then (laws_toValS.l0 k x0 (x3.set (x4 : Int).toNat (⟨bt124.1, bt124.2⟩ : S36)) (wrap64 (x4 + 1))) else (none))) else (none)) else (some x3)
def laws_toValS.f (k : Nat) (l0 : List (S45)) : Option ((List (S36))) := if 0 ≤ (l0.length : Int) then (if ((l0.length : Int) : Int).toNat ≤ 11728124029610 then (laws_toValS.l0 k l0 (List.replicate ((l0.length : Int) : Int).toNat z36) 0) else (none)) else (none)
set_option maxHeartbeats 8000000 in
set_option maxRecDepth 100000 in
theorem laws_toValS.calls (k : Nat) (A0 : Option Addr) (c0 : Nat) (l0 : List (S45)) (r : List (S36)) (w : World) (hr0 : Kd.C k45 w A0 l0.length l0) (hc0 : l0.length ≤ c0) (h : laws_toValS.f k l0 = some r) :
    Calls Tryd.prog 12 #[.slice A0 l0.length c0] w fun e w' => ∃ v0_ : Value, e = .returned (v0_) ∧ Kd.R k36 36 w' w.heap.size (fun _ => True) v0_ r ∧ Below w.heap.size w w' := by
  have hu45 := Tryd.underlying45
  have hu36 := Tryd.underlying36
  have HR0 := Aside0.mk hr0
  have HC0 := Aside0.mk hc0
  clear hr0 hc0
  have HB := Aside0.mk (Below.refl w.heap.size w)
  have H : (if 0 ≤ (l0.length : Int) then (if ((l0.length : Int) : Int).toNat ≤ 11728124029610 then (laws_toValS.l0 k l0 (List.replicate ((l0.length : Int) : Int).toNat z36) 0) else (none)) else (none)) = some r := h
  clear h
  replace H := ifs H
  obtain ⟨c2, H⟩ := H
  have c2b0 := eq_true c2
  have c2b1 := decide_eq_true c2
  clear c2
  replace H := ifs H
  obtain ⟨c3, H⟩ := H
  have c3b0 := eq_true c3
  have c3b1 := decide_eq_true c3
  clear c3
  obtain ⟨y120, hy120⟩ : ∃ y_ : List (S36), y_ = (List.replicate ((l0.length : Int) : Int).toNat z36) := ⟨_, rfl⟩
  replace H : (laws_toValS.l0 k l0 y120 0) = some r := by first | (rw [hy120]; with_reducible exact H) | (rw [hy120]; exact H) | exact H
  have Ny120 := Aside0.mk hy120
  clear hy120
  have H' := Aside0.mk H
  clear H
  go_enter Tryd.func12, Tryd.ntmps12
  go_wp2_with (first | ((with_reducible refine gate_dst (N := 7) rfl ?_); refine Kd.R_make k36 _ 36 rfl (N := 7) rfl 28 _ _ rfl (l0.length : Int) rfl rfl Tryd.underlying28 (.agg #[(.int .i64 0), (.string ⟨#[]⟩)]) 24 info36 rfl (by decide) (by omega) z36 (ok := fun _ => True) (okp := fun _ => True) (k36_mkM _ _ _ z36 ) (fun _ hk => hk) trivial (dcd) (Nat.le_trans (Nat.mul_le_mul_right _ (dcd : (l0.length : Int).toNat ≤ 11728124029610)) (by omega)) (Below.refl _ _) (Nat.le_refl _) ?_; intro v121 w4 ho5 hb hg_ hnew_; clear hg_ hnew_; (first | rw [← Ny120.out] at ho5 | (simp only [Int.reduceToNat] at ho5; rw [← Ny120.out] at ho5)); have HO122 := Aside0.mk (Kd.R_lower ho5 (below_size (below_later HB.out))); replace HB := bst HB hb; clear hb ho5))
  go_loopg [4] k (fun kq v4 w' => ∃ (x3_1 : List (S36)) (x4_1 : Int), v4 = .int .i64 x4_1 ∧ Aside0 (laws_toValS.l0 kq l0 x3_1 x4_1 = some r) ∧ Aside0 (kq ≤ k) ∧ Aside0 (Kd.R k36 36 w' w.heap.size (fun _ => True) v121 x3_1) ∧ Aside0 (Below w.heap.size w w'))
  case atStart => exact ⟨(y120), (0), sr, H', ⟨Nat.le_refl _⟩, ⟨R_later HO122.out⟩, ⟨below_later HB.out⟩⟩
  case round =>
    clear H'
    try clear c2
    try clear c2b0
    try clear c2b1
    try clear c3
    try clear c3b0
    try clear c3b1
    obtain ⟨x3_1, x4_1, rfl, HA, HK1, HO_3, HB⟩ := hrel
    cases gk with
    | zero => exact absurd HA.out (by simp [laws_toValS.l0])
    | succ k1 =>
      have H := HA.out
      clear HA
      simp only [laws_toValS.l0] at H
      by_cases c6 : x4_1 < (l0.length : Int)
      · rw [if_pos c6] at H
        have c6b0 := decide_eq_true c6
        clear c6
        replace H := ifd H
        obtain ⟨c7b0, H⟩ := H
        replace H := Option.bind_eq_some_iff.mp H
        obtain ⟨⟨t124, t125⟩, A80, H⟩ := H
        replace H : (if x4_1 < (x3_1.length : Int) then (laws_toValS.l0 k1 l0 (x3_1.set (x4_1 : Int).toNat (⟨t124, t125⟩ : S36)) (wrap64 (x4_1 + 1))) else (none)) = some r := H
        have A8 := Aside0.mk A80
        clear A80
        replace H := ifd H
        obtain ⟨c9b0, H⟩ := H
        obtain ⟨y126, hy126⟩ : ∃ y_ : List (S36), y_ = (x3_1.set (x4_1 : Int).toNat (⟨t124, t125⟩ : S36)) := ⟨_, rfl⟩
        replace H : (laws_toValS.l0 k1 l0 y126 (wrap64 (x4_1 + 1))) = some r := by first | (rw [hy126]; with_reducible exact H) | (rw [hy126]; exact H) | exact H
        have Ny126 := Aside0.mk hy126
        clear hy126
        have H' := Aside0.mk H
        clear H
        have p123 : 0 ≤ (x4_1 : Int) := dcd
        have q123 : x4_1 < (l0.length : Int) := dcd
        obtain ⟨ad123, e123, hx123_0, hx123_1⟩ := at_T45 HR0.out x4_1 p123 q123
        cases e123
        replace hx123_0 := crd HB hx123_0
        replace hx123_1 := crd HB hx123_1
        replace p123 := eq_true p123
        replace q123 := eq_true q123
        go_wp2_with (first | ((with_reducible refine gate_callee (f := 17) rfl ?_); refine gl_ (some 20) Tryd.func17 #[.agg #[.int .i64 ((rd_T45 l0 x4_1).f0), .string ((rd_T45 l0 x4_1).f1)]] rfl ?_; (with_reducible refine (laws_toVal.calls ((rd_T45 l0 x4_1).f0) ((rd_T45 l0 x4_1).f1) t124 t125 _ A8.out).mono ?_); rintro e w11 ⟨rfl, hb⟩; refine ⟨_, rfl, ?_⟩; replace HO_3 := Aside0.mk (Kd.R_below (R_later HO_3.out) hb); replace HB := bst HB hb; (try clear hb); (try clear hk); have p10 : 0 ≤ (x4_1 : Int) := dcd; have q10 : (x4_1 : Int) < ((x3_1.length : Int) : Int) := dcd; obtain ⟨go10, co10, eo10, gb10, gl10, cl10, HG10⟩ := Kd.R_form HO_3.out (by omega); (first | cases eo10 | (injection eo10 with ea_ en_ ec_; (first | subst ea_ | (injection ea_ with ea_; subst ea_)); subst ec_; clear en_)); have GB10 := Aside0.mk gb10; have GG10 := Aside0.mk HG10; clear gb10 gl10 HG10; obtain ⟨ce10, hcl10, hM10, hcc10, hfr10⟩ := Kd.R_elem HO_3.out z36 (x4_1 : Int) p10 q10; obtain rfl := k36_openM hM10; have hx10_0 : w11.cell? ⟨go10, (x4_1 : Int).toNat * 2, none⟩ = some (.int .i64 ((rd_T36 x3_1 x4_1).f0)) := hcc10 0 _ rfl; have hx10_1 : w11.cell? ⟨go10, (x4_1 : Int).toNat * 2 + 1, none⟩ = some (.string ((rd_T36 x3_1 x4_1).f1)) := hcc10 1 _ rfl; have hf10_0 : w11.frozen? ⟨go10, (x4_1 : Int).toNat * 2, none⟩ = false := hfr10 0; have hf10_1 : w11.frozen? ⟨go10, (x4_1 : Int).toNat * 2 + 1, none⟩ = false := hfr10 1; clear hcl10 hcc10 hfr10 hM10; replace p10 := eq_true p10; replace q10 := eq_true q10; have HX12 := Aside0.mk (show Kd.R k36 36 w11 w.heap.size (fun _ => True) (.slice (some ⟨go10, 0, none⟩) x3_1.length co10) x3_1 from (R_later HO_3.out)); obtain ⟨ce12, hcl12, hM12, hcc12, hfr12⟩ := Kd.R_elem HX12.out z36 (x4_1 : Int) (dcd) (by have h_ : (x4_1 : Int) < ((x3_1.length : Int) : Int) := dcd; first | exact h_ | (have e_ := (Kd.R_reads' HO_3.out).1; omega) | simpa using h_); obtain rfl := k36_openM hM12; have HP12 := Kd.R_seg HX12.out (x4_1 : Int) (dcd) (by have h_ : (x4_1 : Int) < ((x3_1.length : Int) : Int) := dcd; first | exact h_ | (have e_ := (Kd.R_reads' HO_3.out).1; omega) | simpa using h_) (seg := [.int .i64 t124, .string t125]) (j := 0) hcl12 hcc12 (show 2 ≤ 2 from by decide) (x' := (⟨t124, t125⟩ : S36)) (k36_mkM _ _ _ (⟨t124, t125⟩ : S36) ) (fun _ hk => hk); have hx12_0 := hcc12 0 _ rfl; (try simp only [show (k36).sz = 2 from rfl, Nat.mul_one, Nat.add_zero] at hx12_0); have hf12_0 := hfr12 0; (try simp only [show (k36).sz = 2 from rfl, Nat.mul_one, Nat.add_zero] at hf12_0); have hx12_1 := hcc12 1 _ rfl; (try simp only [show (k36).sz = 2 from rfl, Nat.mul_one, Nat.add_zero] at hx12_1); have hf12_1 := hfr12 1; (try simp only [show (k36).sz = 2 from rfl, Nat.mul_one, Nat.add_zero] at hf12_1); clear hcl12 hcc12 hfr12 hM12) | ((with_reducible refine gate_store (t := 36) (p := 21) rfl ?_); refine st_ 36 21 ((w11.setCell ⟨go10, (x4_1 : Int).toNat * 2, none⟩ (.int .i64 t124)).setCell ⟨go10, (x4_1 : Int).toNat * 2 + 1, none⟩ (.string t125)) ?_; intro w13 hw; have hg : w11.grownBy w13 (some go10) := (by rw [hw]; exact HP12.2); have hp_ : Kd.R k36 36 w13 w.heap.size (fun _ => True) (.slice (some ⟨go10, 0, none⟩) x3_1.length co10) y126 := (by rw [hw, Ny126.out]; exact HP12.1); clear HP12; replace HO_3 := Aside0.mk (hp_); replace HB := Aside0.mk ((by rw [hw]; exact below_set (below_set (HB.out) GB10.out) GB10.out : Below w.heap.size w w13)); clear hg hw hp_))
        go_roundg k1
        case measure => have := HK1.out; omega
        case rel => exact ⟨(y126), (wrap64 (x4_1 + 1)), sr, H', ⟨by have := HK1.out; omega⟩, ⟨R_later HO_3.out⟩, ⟨below_later HB.out⟩⟩
      · rw [if_neg c6] at H
        have c6b0 := decide_eq_false c6
        clear c6
        obtain rfl := Option.some.inj H
        go_wp2
        go_ret
        exact ⟨_, by first | rfl | (simp [errW_none, errW_some] <;> rfl) | (simp [*, errW_none, errW_some] <;> rfl), by (with_reducible repeat (first | apply Kd.R_alloc | apply Kd.R_drewN | apply Kd.R_drew)); exact HO_3.out, below_later HB.out⟩
/-! ### laws_toRec: function 6 -/
def laws_toRec.f (k : Nat) (l0_0 : List (S45)) : Option ((List (S36))) := (laws_toValS.f k l0_0).bind fun t130 => (some t130)
set_option maxHeartbeats 8000000 in
set_option maxRecDepth 100000 in
theorem laws_toRec.calls (k : Nat) (A0_0 : Option Addr) (c0_0 : Nat) (l0_0 : List (S45)) (r : List (S36)) (w : World) (hr0_0 : Kd.C k45 w A0_0 l0_0.length l0_0) (hc0_0 : l0_0.length ≤ c0_0) (h : laws_toRec.f k l0_0 = some r) :
    Calls Tryd.prog 6 #[.agg #[.slice A0_0 l0_0.length c0_0]] w fun e w' => ∃ v0_ : Value, e = .returned (.agg #[v0_]) ∧ Kd.R k36 36 w' w.heap.size (fun _ => True) v0_ r ∧ Below w.heap.size w w' := by
  have hu24 := Tryd.underlying24
  have hu30 := Tryd.underlying30
  have HR0_0 := Aside0.mk hr0_0
  have HC0_0 := Aside0.mk hc0_0
  clear hr0_0 hc0_0
  have HB := Aside0.mk (Below.refl w.heap.size w)
  have H : ((laws_toValS.f k l0_0).bind fun t130 => (some t130)) = some r := h
  clear h
  replace H := bnd H
  obtain ⟨t130, A2, H⟩ := H
  obtain rfl := Option.some.inj H
  go_enter Tryd.func6, Tryd.ntmps6
  go_wp2_with (first | ((with_reducible refine gate_dst (N := 1) rfl ?_); refine bx_ 1 #[.slice A0_0 l0_0.length c0_0] 24 ?_; intro gb127 hg w3 hbox hb; have BK127 := Aside0.mk (hbox); have GW127 := gwe HB hg; have GE127 := GW127; replace HB := bst HB hb; clear hb hbox hg) | ((with_reducible refine gate_dst (N := 2) rfl ?_); refine bx_ 2 #[.slice none 0 0] 30 ?_; intro gb128 hg w4 hbox hb; have BK128 := Aside0.mk (hbox); have GW128 := gwe HB hg; have GE128 := GW128; have NB127_128 := nbl BK127 hg; have NB128_127 := nbr (nbl BK127 hg); replace BK127 := bkb BK127 hb; replace HB := bst HB hb; clear hb hbox hg) | ((with_reducible refine gate_dst (N := 3) rfl ?_); refine bx_ 3 #[.slice none 0 0] 30 ?_; intro gb129 hg w5 hbox hb; have BK129 := Aside0.mk (hbox); have GW129 := gwe HB hg; have GE129 := GW129; have NB127_129 := nbl BK127 hg; have NB129_127 := nbr (nbl BK127 hg); have NB128_129 := nbl BK128 hg; have NB129_128 := nbr (nbl BK128 hg); replace BK127 := bkb BK127 hb; replace BK128 := bkb BK128 hb; replace HB := bst HB hb; clear hb hbox hg; have hnb6 := NB127_128.out; have hnc6 := NB128_127.out; have hnb7 := NB127_129.out; have hnc7 := NB129_127.out; obtain ⟨hcz8_0, hfz8_0⟩ := cl1 BK127) | ((with_reducible refine gate_callee (f := 12) rfl ?_); refine gl_ (some 6) Tryd.func12 #[.slice A0_0 l0_0.length c0_0] rfl ?_; (with_reducible refine (laws_toValS.calls k _ _ l0_0 t130 _ ?side1 ?side2 A2.out).mono ?_); (case side1 => repeat (first | exact (Kd.C_below HR0_0.out HB.out) | (with_reducible refine Kd.C_alloc ?_ _) | (with_reducible refine Kd.C_drewN ?_ _) | (with_reducible refine Kd.C_drew ?_))); (case side2 => exact HC0_0.out); rintro e w9 ⟨v131, rfl, ho0, hb⟩; refine ⟨_, rfl, ?_⟩; have HO132 := Aside0.mk (Kd.R_lower ho0 (below_size (below_later HB.out))); replace BK127 := bkb BK127 hb; replace BK128 := bkb BK128 hb; replace BK129 := bkb BK129 hb; replace HB := bst HB hb; (try clear hb); (try clear ho0); obtain ⟨Ao10, co10, eo10⟩ := Kd.R_slice HO132.out; subst eo10; have hnb11 := NB129_128.out; have hnc11 := NB128_129.out; obtain ⟨hcz12_0, hfz12_0⟩ := cl1 BK129; obtain ⟨hcz13_0, hfz13_0⟩ := cl1 BK128))
  refine bodyPost_ret (results_cell_row rfl _ _ gb128 30 #[.slice Ao10 t130.length co10] (0, 0) _ rfl (by (with_reducible repeat (first | refine blk_drewN ?_ _ | refine blk_drew ?_ | refine blk_alloc ?_ _)); refine blk_put (cs := #[.slice none 0 0]) ?_ 0 _ rfl; (with_reducible repeat (first | refine blk_drewN ?_ _ | refine blk_drew ?_ | refine blk_alloc ?_ _)); refine blk_far ?_ NB128_129.out _; (with_reducible repeat (first | refine blk_drewN ?_ _ | refine blk_drew ?_ | refine blk_alloc ?_ _)); exact BK128.out) Tryd.underlying30 rfl (by kernel_rfl)) rfl ?_
  exact ⟨_, by first | rfl | (simp [errW_none, errW_some] <;> rfl) | (simp [*, errW_none, errW_some] <;> rfl), by (with_reducible repeat (first | apply Kd.R_alloc | apply Kd.R_drewN | apply Kd.R_drew)); exact Kd.R_mono (Kd.R_far (p := ⟨gb128, 0, none⟩) (Kd.R_far (p := ⟨gb129, 0, none⟩) (Kd.R_types (Kd.R_types HO132.out BK129.out (by decide)) BK128.out (by decide)) (fun _ hk => hk.1.2) (.slice Ao10 t130.length co10)) (fun _ hk => hk.2) (.slice Ao10 t130.length co10)) (fun _ hk => trivial), below_later HB.out⟩

end Go.Proofs.YtfaaoljihmlbmaaDoor.PFnExactRecPrint
