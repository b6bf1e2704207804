/- The machine's side of FnExactPredMay, written by wip/tools/hyb.py of this repo: each Go function as a plain Lean function, and the proof that the call comes to just its answer. No condition. -/
import Derived.Test.YtlioghbcomdghaaPFnExactPredMayx0
import Derived.Test.YtlioghbcomdghaaPFnExactPredMayx3
import Derived.Test.YtlioghbcomdghaaPFnExactPredMayx7
import Derived.Test.YtlioghbcomdghaaPFnExactPredMayx12
namespace Go.Proofs.Ytlioghbcomdghaa.PFnExactPredMay
open Go.RowKit Go.Proofs.YtlioghbcomdghaaW.PrintWords Go.Proofs.YtlioghbcomdghaaW.PrintLast Go.Proofs.YtlioghbcomdghaaW.PrintMore Go.Proofs.YtlioghbcomdghaaW.PrintMore2
attribute [local go_sem] max2_int min2_int max_two min_two max_three min_three max_four min_four   -- for this text's walks alone
set_option linter.unusedVariables false
set_option linter.unusedSimpArgs false

/-! ### laws_eqCol: function 28 -/
def laws_eqCol.f (a0_0 : ByteArray) (a0_1 : Int) (a0_2 : Int) (a0_3 : Int) (a1_0 : ByteArray) (a1_1 : Int) (a1_2 : Int) (a1_3 : Int) : Option (Bool) := if a0_0.toList = a1_0.toList then (if a0_1 = a1_1 then (if a0_2 = a1_2 then (if a0_3 = a1_3 then (some true) else (some false)) else (some false)) else (some false)) else (some false)
set_option maxHeartbeats 8000000 in
set_option maxRecDepth 100000 in
theorem laws_eqCol.calls (a0_0 : ByteArray) (a0_1 : Int) (a0_2 : Int) (a0_3 : Int) (a1_0 : ByteArray) (a1_1 : Int) (a1_2 : Int) (a1_3 : Int) (r : Bool) (w : World) (h : laws_eqCol.f a0_0 a0_1 a0_2 a0_3 a1_0 a1_1 a1_2 a1_3 = some true) :
    Calls Try.prog 28 #[.agg #[.string a0_0, .int .i64 a0_1, .int .i64 a0_2, .int .i64 a0_3], .agg #[.string a1_0, .int .i64 a1_1, .int .i64 a1_2, .int .i64 a1_3]] w fun e w' => e = .returned (.bool true) ∧ Below w.heap.size w w' := by
  have hu57 := Try.underlying57
  have HB := Aside0.mk (Below.refl w.heap.size w)
  have H : (if a0_0.toList = a1_0.toList then (if a0_1 = a1_1 then (if a0_2 = a1_2 then (if a0_3 = a1_3 then (some true) else (some false)) else (some false)) else (some false)) else (some false)) = some true := h
  clear h
  by_cases c3 : a0_0.toList = a1_0.toList
  · rw [if_pos c3] at H
    have c3b0 : (a0_0.toList == a1_0.toList) = true := beq_iff_eq.mpr c3
    have c3b1 : (a0_0.toList != a1_0.toList) = false := bne_eq_false_iff_eq.mpr c3
    clear c3
    by_cases c4 : a0_1 = a1_1
    · rw [if_pos c4] at H
      have c4b0 : (a0_1 == a1_1) = true := beq_iff_eq.mpr c4
      have c4b1 : (a0_1 != a1_1) = false := bne_eq_false_iff_eq.mpr c4
      clear c4
      by_cases c5 : a0_2 = a1_2
      · rw [if_pos c5] at H
        have c5b0 : (a0_2 == a1_2) = true := beq_iff_eq.mpr c5
        have c5b1 : (a0_2 != a1_2) = false := bne_eq_false_iff_eq.mpr c5
        clear c5
        by_cases c6 : a0_3 = a1_3
        · rw [if_pos c6] at H
          have c6b0 : (a0_3 == a1_3) = true := beq_iff_eq.mpr c6
          have c6b1 : (a0_3 != a1_3) = false := bne_eq_false_iff_eq.mpr c6
          clear c6
          clear H
          go_enter Try.func28, Try.ntmps28
          go_wp2_with (first | ((with_reducible refine gate_dst (N := 2) rfl ?_); refine bx_ 2 #[.string a0_0, .int .i64 a0_1, .int .i64 a0_2, .int .i64 a0_3] 57 ?_; intro gb442 hg w7 hbox hb; have BK442 := Aside0.mk (hbox); have GW442 := gwe HB hg; have GE442 := GW442; replace HB := bst HB hb; clear hb hbox hg) | ((with_reducible refine gate_dst (N := 3) rfl ?_); refine bx_ 3 #[.string a1_0, .int .i64 a1_1, .int .i64 a1_2, .int .i64 a1_3] 57 ?_; intro gb443 hg w8 hbox hb; have BK443 := Aside0.mk (hbox); have GW443 := gwe HB hg; have GE443 := GW443; have NB442_443 := nbl BK442 hg; have NB443_442 := nbr (nbl BK442 hg); replace BK442 := bkb BK442 hb; replace HB := bst HB hb; clear hb hbox hg; have hnb9 := NB442_443.out; have hnc9 := NB443_442.out; obtain ⟨hcz10_0, hcz10_1, hcz10_2, hcz10_3, hfz10_0, hfz10_1, hfz10_2, hfz10_3⟩ := cl4 BK442; obtain ⟨hcz11_0, hcz11_1, hcz11_2, hcz11_3, hfz11_0, hfz11_1, hfz11_2, hfz11_3⟩ := cl4 BK443))
          go_ret
          exact fin_ (below_later HB.out)
        · rw [if_neg c6] at H
          cases H
      · rw [if_neg c5] at H
        cases H
    · rw [if_neg c4] at H
      cases H
  · rw [if_neg c3] at H
    cases H
/-! ### laws_eqColS: function 12 -/
def laws_eqColS.l0 : Nat → List (S57) → List (S57) → Int → Option (Bool)
  | 0, _, _, _ => none
  | k + 1, x0, x1, x5 => if x5 < (x0.length : Int) then (if 0 ≤ x5 then (if x5 < (x1.length : Int) then ((laws_eqCol.f ((rd_T57 x0 x5).f0) ((rd_T57 x0 x5).f1) ((rd_T57 x0 x5).f2) ((rd_T57 x0 x5).f3) ((rd_T57 x1 x5).f0) ((rd_T57 x1 x5).f1) ((rd_T57 x1 x5).f2) ((rd_T57 x1 x5).f3)).bind fun t446 => (if t446 = true then (laws_eqColS.l0 k x0 x1 (wrap64 (x5 + 1))) else (some false))) else (none)) else (none)) else (some true)
def laws_eqColS.f (k : Nat) (l0 : List (S57)) (l1 : List (S57)) : Option (Bool) := if (l0.length : Int) = (l1.length : Int) then (laws_eqColS.l0 k l0 l1 0) else (some false)
def laws_eqColS.T6 : Bool × List (List Nat × List Nat) := (true, [([], []), ([], []), ([0, 1], [0, 1]), ([2], [2]), ([], []), ([], []), ([4, 5], [4, 5]), ([6], [6]), ([3, 7], [3, 7]), ([8], [8])])
def laws_eqColS.B6 : List Nat := [0, 0, 3, 7, 0, 0, 48, 112, 255, 511]
theorem laws_eqColS.tab6 : rtab .any (opsOf Try.f12 6) = laws_eqColS.T6 := by kernel_rfl
theorem laws_eqColS.bits6 : waitsOk laws_eqColS.T6.2 laws_eqColS.B6 = true := by kernel_rfl
set_option maxHeartbeats 8000000 in
set_option maxRecDepth 100000 in
theorem laws_eqColS.calls (k : Nat) (A0 : Option Addr) (c0 : Nat) (l0 : List (S57)) (A1 : Option Addr) (c1 : Nat) (l1 : List (S57)) (r : Bool) (w : World) (hr0 : Kd.C k57 w A0 l0.length l0) (hc0 : l0.length ≤ c0) (hr1 : Kd.C k57 w A1 l1.length l1) (hc1 : l1.length ≤ c1) (h : laws_eqColS.f k l0 l1 = some true) :
    Calls Try.prog 12 #[.slice A0 l0.length c0, .slice A1 l1.length c1] w fun e w' => e = .returned (.bool true) ∧ Below w.heap.size w w' := by
  have hu57 := Try.underlying57
  have HR0 := Aside0.mk hr0
  have HC0 := Aside0.mk hc0
  clear hr0 hc0
  have HR1 := Aside0.mk hr1
  have HC1 := Aside0.mk hc1
  clear hr1 hc1
  have HB := Aside0.mk (Below.refl w.heap.size w)
  have H : (if (l0.length : Int) = (l1.length : Int) then (laws_eqColS.l0 k l0 l1 0) else (some false)) = some true := h
  clear h
  by_cases c3 : (l0.length : Int) = (l1.length : Int)
  · rw [if_pos c3] at H
    have c3b0 : ((l0.length : Int) == (l1.length : Int)) = true := beq_iff_eq.mpr c3
    have c3b1 : ((l0.length : Int) != (l1.length : Int)) = false := bne_eq_false_iff_eq.mpr c3
    have c3b2 : (l0.length == l1.length) = true := by first | simpa using c3 | (simp at c3 ⊢; omega)
    clear c3
    have H' := Aside0.mk H
    clear H
    go_enter Try.func12, Try.ntmps12
    go_wp2
    go_loopg [5] k (fun kq v5 w' => ∃ (x5_1 : Int), v5 = .int .i64 x5_1 ∧ Aside0 (laws_eqColS.l0 kq l0 l1 x5_1 = some true) ∧ Aside0 (kq ≤ k) ∧ Aside0 (Below w.heap.size w w'))
    case atStart => exact ⟨(0), sr, H', ⟨Nat.le_refl _⟩, ⟨below_later HB.out⟩⟩
    case round =>
      clear H'
      try clear c1
      try clear c3
      try clear c3b0
      try clear c3b1
      try clear c3b2
      obtain ⟨x5_1, rfl, HA, HK1, HB⟩ := hrel
      cases gk with
      | zero => exact absurd HA.out (by simp [laws_eqColS.l0])
      | succ k1 =>
        have H := HA.out
        clear HA
        simp only [laws_eqColS.l0] at H
        by_cases c4 : x5_1 < (l0.length : Int)
        · rw [if_pos c4] at H
          have c4b0 := decide_eq_true c4
          clear c4
          replace H := ifd H
          obtain ⟨c5b0, H⟩ := H
          replace H := ifd H
          obtain ⟨c6b0, H⟩ := H
          replace H := bnd H
          obtain ⟨t446, A7, H⟩ := H
          by_cases c8 : t446 = true
          · subst c8
            replace H := ifp rfl H
            have H' := Aside0.mk H
            clear H
            try go_wp2
            replace HB := Aside0.mk (below_drew1 HB.out)
            have p444 : 0 ≤ (x5_1 : Int) := dcd
            have q444 : x5_1 < (l0.length : Int) := dcd
            obtain ⟨ad444, e444, hx444_0, hx444_1, hx444_2, hx444_3⟩ := at_T57 HR0.out x5_1 p444 q444
            have hw444_3 := hx444_3
            have hw444_2 := hx444_2
            have hw444_1 := hx444_1
            have hw444_0 := hx444_0
            cases e444
            replace hx444_0 := crd HB hx444_0
            replace hx444_1 := crd HB hx444_1
            replace hx444_2 := crd HB hx444_2
            replace hx444_3 := crd HB hx444_3
            replace p444 := eq_true p444
            replace q444 := eq_true q444
            have p445 : 0 ≤ (x5_1 : Int) := dcd
            have q445 : x5_1 < (l1.length : Int) := dcd
            obtain ⟨ad445, e445, hx445_0, hx445_1, hx445_2, hx445_3⟩ := at_T57 HR1.out x5_1 p445 q445
            have hw445_3 := hx445_3
            have hw445_2 := hx445_2
            have hw445_1 := hx445_1
            have hw445_0 := hx445_0
            cases e445
            replace hx445_0 := crd HB hx445_0
            replace hx445_1 := crd HB hx445_1
            replace hx445_2 := crd HB hx445_2
            replace hx445_3 := crd HB hx445_3
            replace p445 := eq_true p445
            replace q445 := eq_true q445
            refine start_ (n := 10) (S := fun w' => w'.cell? (ad444.add ((x5_1).toNat * 4)) = some (.string ((rd_T57 l0 x5_1).f0)) ∧ w'.cell? ⟨(ad444.add ((x5_1).toNat * 4)).block, (ad444.add ((x5_1).toNat * 4)).off + 1, none⟩ = some (.int .i64 ((rd_T57 l0 x5_1).f1)) ∧ w'.cell? ⟨(ad444.add ((x5_1).toNat * 4)).block, (ad444.add ((x5_1).toNat * 4)).off + 2, none⟩ = some (.int .i64 ((rd_T57 l0 x5_1).f2)) ∧ w'.cell? ⟨(ad444.add ((x5_1).toNat * 4)).block, (ad444.add ((x5_1).toNat * 4)).off + 3, none⟩ = some (.int .i64 ((rd_T57 l0 x5_1).f3)) ∧ w'.cell? (ad445.add ((x5_1).toNat * 4)) = some (.string ((rd_T57 l1 x5_1).f0)) ∧ w'.cell? ⟨(ad445.add ((x5_1).toNat * 4)).block, (ad445.add ((x5_1).toNat * 4)).off + 1, none⟩ = some (.int .i64 ((rd_T57 l1 x5_1).f1)) ∧ w'.cell? ⟨(ad445.add ((x5_1).toNat * 4)).block, (ad445.add ((x5_1).toNat * 4)).off + 2, none⟩ = some (.int .i64 ((rd_T57 l1 x5_1).f2)) ∧ w'.cell? ⟨(ad445.add ((x5_1).toNat * 4)).block, (ad445.add ((x5_1).toNat * 4)).off + 3, none⟩ = some (.int .i64 ((rd_T57 l1 x5_1).f3))) (ds := []) #[false, false, false, false, false, false, false, false, false, false] (by kernel_rfl) rfl rfl ⟨((HB.out.cell (World.block_lt_of_cell? w _ hw444_0)).trans hw444_0), ((HB.out.cell (World.block_lt_of_cell? w _ hw444_1)).trans hw444_1), ((HB.out.cell (World.block_lt_of_cell? w _ hw444_2)).trans hw444_2), ((HB.out.cell (World.block_lt_of_cell? w _ hw444_3)).trans hw444_3), ((HB.out.cell (World.block_lt_of_cell? w _ hw445_0)).trans hw445_0), ((HB.out.cell (World.block_lt_of_cell? w _ hw445_1)).trans hw445_1), ((HB.out.cell (World.block_lt_of_cell? w _ hw445_2)).trans hw445_2), ((HB.out.cell (World.block_lt_of_cell? w _ hw445_3)).trans hw445_3)⟩ (fun hHeld => ?_); refine with_tabW laws_eqColS.tab6 laws_eqColS.bits6 (fun HT_ HW_ => ?_)
            generalize wr.drew = w9 at HB hx444_0 hx444_1 hx444_2 hx444_3 hx445_0 hx445_1 hx445_2 hx445_3 hHeld ⊢
            refine pu_ 0 17 ?_; refine pu_ 1 18 ?_; refine pu_ 2 19 ?_; refine pu_ 4 21 ?_; refine pu_ 5 22 ?_; refine pu_ 6 23 ?_; refine tk_ 3 20 hHeld ?_; refine tk_ 7 24 hHeld ?_
            refine on_ 8 25 (fun K hK => ?_)
            refine gs_ Try.func28 #[.agg #[.string ((rd_T57 l0 x5_1).f0), .int .i64 ((rd_T57 l0 x5_1).f1), .int .i64 ((rd_T57 l0 x5_1).f2), .int .i64 ((rd_T57 l0 x5_1).f3)], .agg #[.string ((rd_T57 l1 x5_1).f0), .int .i64 ((rd_T57 l1 x5_1).f1), .int .i64 ((rd_T57 l1 x5_1).f2), .int .i64 ((rd_T57 l1 x5_1).f3)]] rfl ?_
            with_reducible refine (laws_eqCol.calls ((rd_T57 l0 x5_1).f0) ((rd_T57 l0 x5_1).f1) ((rd_T57 l0 x5_1).f2) ((rd_T57 l0 x5_1).f3) ((rd_T57 l1 x5_1).f0) ((rd_T57 l1 x5_1).f1) ((rd_T57 l1 x5_1).f2) ((rd_T57 l1 x5_1).f3) true _ A7.out).mono ?_
            rintro e w10 ⟨rfl, hb⟩
            refine ⟨_, rfl, ?_⟩
            replace HB := bst HB hb
            (try clear hb)
            (try clear hb2)
            (try clear hk)
            (try clear hi)
            refine hK.out _ _ ⟨((HB.out.cell (World.block_lt_of_cell? w _ hw444_0)).trans hw444_0), ((HB.out.cell (World.block_lt_of_cell? w _ hw444_1)).trans hw444_1), ((HB.out.cell (World.block_lt_of_cell? w _ hw444_2)).trans hw444_2), ((HB.out.cell (World.block_lt_of_cell? w _ hw444_3)).trans hw444_3), ((HB.out.cell (World.block_lt_of_cell? w _ hw445_0)).trans hw445_0), ((HB.out.cell (World.block_lt_of_cell? w _ hw445_1)).trans hw445_1), ((HB.out.cell (World.block_lt_of_cell? w _ hw445_2)).trans hw445_2), ((HB.out.cell (World.block_lt_of_cell? w _ hw445_3)).trans hw445_3)⟩ (fun hHeld => ?_)
            clear hK K
            refine no_ (some 25) ?_; refine pu_ 9 26 ?_
            refine done_ (done_of HT_.out (by kernel_rfl)) ?_
            try go_wp2
            go_roundg k1
            case measure => have := HK1.out; omega
            case rel => exact ⟨(wrap64 (x5_1 + 1)), sr, H', ⟨by have := HK1.out; omega⟩, ⟨below_later HB.out⟩⟩
          · replace c8 := Bool.eq_false_iff.mpr c8
            subst c8
            have H1 : (some false) = some true := by rw [if_neg (show ¬ (false = true) by decide)] at H; exact H
            cases H1
        · rw [if_neg c4] at H
          have c4b0 := decide_eq_false c4
          clear c4
          clear H
          go_wp2
          go_ret
          exact fin_ (below_later HB.out)
  · rw [if_neg c3] at H
    cases H
/-! ### laws_eqVal: function 48 -/
def laws_eqVal.f (a0_0 : Int) (a0_1 : ByteArray) (a1_0 : Int) (a1_1 : ByteArray) : Option (Bool) := if a0_0 = a1_0 then (if a0_1.toList = a1_1.toList then (some true) else (some false)) else (some false)
set_option maxHeartbeats 8000000 in
set_option maxRecDepth 100000 in
theorem laws_eqVal.calls (a0_0 : Int) (a0_1 : ByteArray) (a1_0 : Int) (a1_1 : ByteArray) (r : Bool) (w : World) (h : laws_eqVal.f a0_0 a0_1 a1_0 a1_1 = some true) :
    Calls Try.prog 48 #[.agg #[.int .i64 a0_0, .string a0_1], .agg #[.int .i64 a1_0, .string a1_1]] w fun e w' => e = .returned (.bool true) ∧ Below w.heap.size w w' := by
  have hu59 := Try.underlying59
  have HB := Aside0.mk (Below.refl w.heap.size w)
  have H : (if a0_0 = a1_0 then (if a0_1.toList = a1_1.toList then (some true) else (some false)) else (some false)) = some true := h
  clear h
  by_cases c3 : a0_0 = a1_0
  · rw [if_pos c3] at H
    have c3b0 : (a0_0 == a1_0) = true := beq_iff_eq.mpr c3
    have c3b1 : (a0_0 != a1_0) = false := bne_eq_false_iff_eq.mpr c3
    clear c3
    by_cases c4 : a0_1.toList = a1_1.toList
    · rw [if_pos c4] at H
      have c4b0 : (a0_1.toList == a1_1.toList) = true := beq_iff_eq.mpr c4
      have c4b1 : (a0_1.toList != a1_1.toList) = false := bne_eq_false_iff_eq.mpr c4
      clear c4
      clear H
      go_enter Try.func48, Try.ntmps48
      go_wp2_with (first | ((with_reducible refine gate_dst (N := 2) rfl ?_); refine bx_ 2 #[.int .i64 a0_0, .string a0_1] 59 ?_; intro gb447 hg w5 hbox hb; have BK447 := Aside0.mk (hbox); have GW447 := gwe HB hg; have GE447 := GW447; replace HB := bst HB hb; clear hb hbox hg) | ((with_reducible refine gate_dst (N := 3) rfl ?_); refine bx_ 3 #[.int .i64 a1_0, .string a1_1] 59 ?_; intro gb448 hg w6 hbox hb; have BK448 := Aside0.mk (hbox); have GW448 := gwe HB hg; have GE448 := GW448; have NB447_448 := nbl BK447 hg; have NB448_447 := nbr (nbl BK447 hg); replace BK447 := bkb BK447 hb; replace HB := bst HB hb; clear hb hbox hg; have hnb7 := NB447_448.out; have hnc7 := NB448_447.out; obtain ⟨hcz8_0, hcz8_1, hfz8_0, hfz8_1⟩ := cl2 BK447; obtain ⟨hcz9_0, hcz9_1, hfz9_0, hfz9_1⟩ := cl2 BK448))
      go_ret
      exact fin_ (below_later HB.out)
    · rw [if_neg c4] at H
      cases H
  · rw [if_neg c3] at H
    cases H
/-! ### laws_eqPred: function 29 -/
def laws_eqPred.f (a0_0 : Int) (a0_1 : Int) (a0_2 : Int) (a0_3 : ByteArray) (a0_4 : Int) (a0_5 : Int) (a1_0 : Int) (a1_1 : Int) (a1_2 : Int) (a1_3 : ByteArray) (a1_4 : Int) (a1_5 : Int) : Option (Bool) := if a0_0 = a1_0 then (if a0_1 = a1_1 then ((laws_eqVal.f a0_2 a0_3 a1_2 a1_3).bind fun t451 => (if t451 = true then (if a0_4 = a1_4 then (if a0_5 = a1_5 then (some true) else (some false)) else (some false)) else (some false))) else (some false)) else (some false)
set_option maxHeartbeats 8000000 in
set_option maxRecDepth 100000 in
theorem laws_eqPred.calls (a0_0 : Int) (a0_1 : Int) (a0_2 : Int) (a0_3 : ByteArray) (a0_4 : Int) (a0_5 : Int) (a1_0 : Int) (a1_1 : Int) (a1_2 : Int) (a1_3 : ByteArray) (a1_4 : Int) (a1_5 : Int) (r : Bool) (w : World) (h : laws_eqPred.f a0_0 a0_1 a0_2 a0_3 a0_4 a0_5 a1_0 a1_1 a1_2 a1_3 a1_4 a1_5 = some true) :
    Calls Try.prog 29 #[.agg #[.int .i64 a0_0, .int .i64 a0_1, .int .i64 a0_2, .string a0_3, .int .i64 a0_4, .int .i64 a0_5], .agg #[.int .i64 a1_0, .int .i64 a1_1, .int .i64 a1_2, .string a1_3, .int .i64 a1_4, .int .i64 a1_5]] w fun e w' => e = .returned (.bool true) ∧ Below w.heap.size w w' := by
  have hu61 := Try.underlying61
  have hu59 := Try.underlying59
  have HB := Aside0.mk (Below.refl w.heap.size w)
  have H : (if a0_0 = a1_0 then (if a0_1 = a1_1 then ((laws_eqVal.f a0_2 a0_3 a1_2 a1_3).bind fun t451 => (if t451 = true then (if a0_4 = a1_4 then (if a0_5 = a1_5 then (some true) else (some false)) else (some false)) else (some false))) else (some false)) else (some false)) = some true := h
  clear h
  by_cases c3 : a0_0 = a1_0
  · rw [if_pos c3] at H
    have c3b0 : (a0_0 == a1_0) = true := beq_iff_eq.mpr c3
    have c3b1 : (a0_0 != a1_0) = false := bne_eq_false_iff_eq.mpr c3
    clear c3
    by_cases c4 : a0_1 = a1_1
    · rw [if_pos c4] at H
      have c4b0 : (a0_1 == a1_1) = true := beq_iff_eq.mpr c4
      have c4b1 : (a0_1 != a1_1) = false := bne_eq_false_iff_eq.mpr c4
      clear c4
      replace H := bnd H
      obtain ⟨t451, A5, H⟩ := H
      by_cases c6 : t451 = true
      · subst c6
        replace H := ifp rfl H
        by_cases c7 : a0_4 = a1_4
        · rw [if_pos c7] at H
          have c7b0 : (a0_4 == a1_4) = true := beq_iff_eq.mpr c7
          have c7b1 : (a0_4 != a1_4) = false := bne_eq_false_iff_eq.mpr c7
          clear c7
          by_cases c8 : a0_5 = a1_5
          · rw [if_pos c8] at H
            have c8b0 : (a0_5 == a1_5) = true := beq_iff_eq.mpr c8
            have c8b1 : (a0_5 != a1_5) = false := bne_eq_false_iff_eq.mpr c8
            clear c8
            clear H
            go_enter Try.func29, Try.ntmps29
            go_wp2_with (first | ((with_reducible refine gate_dst (N := 2) rfl ?_); refine bx_ 2 #[.int .i64 a0_0, .int .i64 a0_1, .int .i64 a0_2, .string a0_3, .int .i64 a0_4, .int .i64 a0_5] 61 ?_; intro gb449 hg w9 hbox hb; have BK449 := Aside0.mk (hbox); have GW449 := gwe HB hg; have GE449 := GW449; replace HB := bst HB hb; clear hb hbox hg) | ((with_reducible refine gate_dst (N := 3) rfl ?_); refine bx_ 3 #[.int .i64 a1_0, .int .i64 a1_1, .int .i64 a1_2, .string a1_3, .int .i64 a1_4, .int .i64 a1_5] 61 ?_; intro gb450 hg w10 hbox hb; have BK450 := Aside0.mk (hbox); have GW450 := gwe HB hg; have GE450 := GW450; have NB449_450 := nbl BK449 hg; have NB450_449 := nbr (nbl BK449 hg); replace BK449 := bkb BK449 hb; replace HB := bst HB hb; clear hb hbox hg; have hnb11 := NB449_450.out; have hnc11 := NB450_449.out; obtain ⟨hcz12_0, hcz12_1, hcz12_2, hcz12_3, hcz12_4, hcz12_5, hfz12_0, hfz12_1, hfz12_2, hfz12_3, hfz12_4, hfz12_5⟩ := cl6 BK449; obtain ⟨hcz13_0, hcz13_1, hcz13_2, hcz13_3, hcz13_4, hcz13_5, hfz13_0, hfz13_1, hfz13_2, hfz13_3, hfz13_4, hfz13_5⟩ := cl6 BK450) | ((with_reducible refine gate_callee (f := 48) rfl ?_); refine gl_ (some 19) Try.func48 #[.agg #[.int .i64 a0_2, .string a0_3], .agg #[.int .i64 a1_2, .string a1_3]] rfl ?_; (with_reducible refine (laws_eqVal.calls a0_2 a0_3 a1_2 a1_3 true _ A5.out).mono ?_); rintro e w14 ⟨rfl, hb⟩; refine ⟨_, rfl, ?_⟩; replace BK449 := bkb BK449 hb; replace BK450 := bkb BK450 hb; replace HB := bst HB hb; (try clear hb); obtain ⟨hcz15_0, hcz15_1, hcz15_2, hcz15_3, hcz15_4, hcz15_5, hfz15_0, hfz15_1, hfz15_2, hfz15_3, hfz15_4, hfz15_5⟩ := cl6 BK449; obtain ⟨hcz16_0, hcz16_1, hcz16_2, hcz16_3, hcz16_4, hcz16_5, hfz16_0, hfz16_1, hfz16_2, hfz16_3, hfz16_4, hfz16_5⟩ := cl6 BK450))
            go_ret
            exact fin_ (below_later HB.out)
          · rw [if_neg c8] at H
            cases H
        · rw [if_neg c7] at H
          cases H
      · replace c6 := Bool.eq_false_iff.mpr c6
        subst c6
        have H1 : (some false) = some true := by rw [if_neg (show ¬ (false = true) by decide)] at H; exact H
        cases H1
    · rw [if_neg c4] at H
      cases H
  · rw [if_neg c3] at H
    cases H
/-! ### laws_eqPredS: function 13 -/
def laws_eqPredS.l0 : Nat → List (S61) → List (S61) → Int → Option (Bool)
  | 0, _, _, _ => none
  | k + 1, x0, x1, x5 => if x5 < (x0.length : Int) then (if 0 ≤ x5 then (if x5 < (x1.length : Int) then ((laws_eqPred.f ((rd_T61 x0 x5).f0) ((rd_T61 x0 x5).f1) ((rd_T61 x0 x5).f2.f0) ((rd_T61 x0 x5).f2.f1) ((rd_T61 x0 x5).f3) ((rd_T61 x0 x5).f4) ((rd_T61 x1 x5).f0) ((rd_T61 x1 x5).f1) ((rd_T61 x1 x5).f2.f0) ((rd_T61 x1 x5).f2.f1) ((rd_T61 x1 x5).f3) ((rd_T61 x1 x5).f4)).bind fun t454 => (if t454 = true then (laws_eqPredS.l0 k x0 x1 (wrap64 (x5 + 1))) else (some false))) else (none)) else (none)) else (some true)
def laws_eqPredS.f (k : Nat) (l0 : List (S61)) (l1 : List (S61)) : Option (Bool) := if (l0.length : Int) = (l1.length : Int) then (laws_eqPredS.l0 k l0 l1 0) else (some false)
def laws_eqPredS.T6 : Bool × List (List Nat × List Nat) := (true, [([], []), ([], []), ([0, 1], [0, 1]), ([2], [2]), ([], []), ([], []), ([4, 5], [4, 5]), ([6], [6]), ([3, 7], [3, 7]), ([8], [8])])
def laws_eqPredS.B6 : List Nat := [0, 0, 3, 7, 0, 0, 48, 112, 255, 511]
theorem laws_eqPredS.tab6 : rtab .any (opsOf Try.f13 6) = laws_eqPredS.T6 := by kernel_rfl
theorem laws_eqPredS.bits6 : waitsOk laws_eqPredS.T6.2 laws_eqPredS.B6 = true := by kernel_rfl
set_option maxHeartbeats 8000000 in
set_option maxRecDepth 100000 in
theorem laws_eqPredS.calls (k : Nat) (A0 : Option Addr) (c0 : Nat) (l0 : List (S61)) (A1 : Option Addr) (c1 : Nat) (l1 : List (S61)) (r : Bool) (w : World) (hr0 : Kd.C k61 w A0 l0.length l0) (hc0 : l0.length ≤ c0) (hr1 : Kd.C k61 w A1 l1.length l1) (hc1 : l1.length ≤ c1) (h : laws_eqPredS.f k l0 l1 = some true) :
    Calls Try.prog 13 #[.slice A0 l0.length c0, .slice A1 l1.length c1] w fun e w' => e = .returned (.bool true) ∧ Below w.heap.size w w' := by
  have hu61 := Try.underlying61
  have HR0 := Aside0.mk hr0
  have HC0 := Aside0.mk hc0
  clear hr0 hc0
  have HR1 := Aside0.mk hr1
  have HC1 := Aside0.mk hc1
  clear hr1 hc1
  have HB := Aside0.mk (Below.refl w.heap.size w)
  have H : (if (l0.length : Int) = (l1.length : Int) then (laws_eqPredS.l0 k l0 l1 0) else (some false)) = some true := h
  clear h
  by_cases c3 : (l0.length : Int) = (l1.length : Int)
  · rw [if_pos c3] at H
    have c3b0 : ((l0.length : Int) == (l1.length : Int)) = true := beq_iff_eq.mpr c3
    have c3b1 : ((l0.length : Int) != (l1.length : Int)) = false := bne_eq_false_iff_eq.mpr c3
    have c3b2 : (l0.length == l1.length) = true := by first | simpa using c3 | (simp at c3 ⊢; omega)
    clear c3
    have H' := Aside0.mk H
    clear H
    go_enter Try.func13, Try.ntmps13
    go_wp2
    go_loopg [5] k (fun kq v5 w' => ∃ (x5_1 : Int), v5 = .int .i64 x5_1 ∧ Aside0 (laws_eqPredS.l0 kq l0 l1 x5_1 = some true) ∧ Aside0 (kq ≤ k) ∧ Aside0 (Below w.heap.size w w'))
    case atStart => exact ⟨(0), sr, H', ⟨Nat.le_refl _⟩, ⟨below_later HB.out⟩⟩
    case round =>
      clear H'
      try clear c1
      try clear c3
      try clear c3b0
      try clear c3b1
      try clear c3b2
      obtain ⟨x5_1, rfl, HA, HK1, HB⟩ := hrel
      cases gk with
      | zero => exact absurd HA.out (by simp [laws_eqPredS.l0])
      | succ k1 =>
        have H := HA.out
        clear HA
        simp only [laws_eqPredS.l0] at H
        by_cases c4 : x5_1 < (l0.length : Int)
        · rw [if_pos c4] at H
          have c4b0 := decide_eq_true c4
          clear c4
          replace H := ifd H
          obtain ⟨c5b0, H⟩ := H
          replace H := ifd H
          obtain ⟨c6b0, H⟩ := H
          replace H := bnd H
          obtain ⟨t454, A7, H⟩ := H
          by_cases c8 : t454 = true
          · subst c8
            replace H := ifp rfl H
            have H' := Aside0.mk H
            clear H
            try go_wp2
            replace HB := Aside0.mk (below_drew1 HB.out)
            have p452 : 0 ≤ (x5_1 : Int) := dcd
            have q452 : x5_1 < (l0.length : Int) := dcd
            obtain ⟨ad452, e452, hx452_0, hx452_1, hx452_2, hx452_3, hx452_4, hx452_5⟩ := at_T61 HR0.out x5_1 p452 q452
            have hw452_5 := hx452_5
            have hw452_4 := hx452_4
            have hw452_3 := hx452_3
            have hw452_2 := hx452_2
            have hw452_1 := hx452_1
            have hw452_0 := hx452_0
            cases e452
            replace hx452_0 := crd HB hx452_0
            replace hx452_1 := crd HB hx452_1
            replace hx452_2 := crd HB hx452_2
            replace hx452_3 := crd HB hx452_3
            replace hx452_4 := crd HB hx452_4
            replace hx452_5 := crd HB hx452_5
            replace p452 := eq_true p452
            replace q452 := eq_true q452
            have p453 : 0 ≤ (x5_1 : Int) := dcd
            have q453 : x5_1 < (l1.length : Int) := dcd
            obtain ⟨ad453, e453, hx453_0, hx453_1, hx453_2, hx453_3, hx453_4, hx453_5⟩ := at_T61 HR1.out x5_1 p453 q453
            have hw453_5 := hx453_5
            have hw453_4 := hx453_4
            have hw453_3 := hx453_3
            have hw453_2 := hx453_2
            have hw453_1 := hx453_1
            have hw453_0 := hx453_0
            cases e453
            replace hx453_0 := crd HB hx453_0
            replace hx453_1 := crd HB hx453_1
            replace hx453_2 := crd HB hx453_2
            replace hx453_3 := crd HB hx453_3
            replace hx453_4 := crd HB hx453_4
            replace hx453_5 := crd HB hx453_5
            replace p453 := eq_true p453
            replace q453 := eq_true q453
            refine start_ (n := 10) (S := fun w' => w'.cell? (ad452.add ((x5_1).toNat * 6)) = some (.int .i64 ((rd_T61 l0 x5_1).f0)) ∧ w'.cell? ⟨(ad452.add ((x5_1).toNat * 6)).block, (ad452.add ((x5_1).toNat * 6)).off + 1, none⟩ = some (.int .i64 ((rd_T61 l0 x5_1).f1)) ∧ w'.cell? ⟨(ad452.add ((x5_1).toNat * 6)).block, (ad452.add ((x5_1).toNat * 6)).off + 2, none⟩ = some (.int .i64 ((rd_T61 l0 x5_1).f2.f0)) ∧ w'.cell? ⟨(ad452.add ((x5_1).toNat * 6)).block, (ad452.add ((x5_1).toNat * 6)).off + 3, none⟩ = some (.string ((rd_T61 l0 x5_1).f2.f1)) ∧ w'.cell? ⟨(ad452.add ((x5_1).toNat * 6)).block, (ad452.add ((x5_1).toNat * 6)).off + 4, none⟩ = some (.int .i64 ((rd_T61 l0 x5_1).f3)) ∧ w'.cell? ⟨(ad452.add ((x5_1).toNat * 6)).block, (ad452.add ((x5_1).toNat * 6)).off + 5, none⟩ = some (.int .i64 ((rd_T61 l0 x5_1).f4)) ∧ w'.cell? (ad453.add ((x5_1).toNat * 6)) = some (.int .i64 ((rd_T61 l1 x5_1).f0)) ∧ w'.cell? ⟨(ad453.add ((x5_1).toNat * 6)).block, (ad453.add ((x5_1).toNat * 6)).off + 1, none⟩ = some (.int .i64 ((rd_T61 l1 x5_1).f1)) ∧ w'.cell? ⟨(ad453.add ((x5_1).toNat * 6)).block, (ad453.add ((x5_1).toNat * 6)).off + 2, none⟩ = some (.int .i64 ((rd_T61 l1 x5_1).f2.f0)) ∧ w'.cell? ⟨(ad453.add ((x5_1).toNat * 6)).block, (ad453.add ((x5_1).toNat * 6)).off + 3, none⟩ = some (.string ((rd_T61 l1 x5_1).f2.f1)) ∧ w'.cell? ⟨(ad453.add ((x5_1).toNat * 6)).block, (ad453.add ((x5_1).toNat * 6)).off + 4, none⟩ = some (.int .i64 ((rd_T61 l1 x5_1).f3)) ∧ w'.cell? ⟨(ad453.add ((x5_1).toNat * 6)).block, (ad453.add ((x5_1).toNat * 6)).off + 5, none⟩ = some (.int .i64 ((rd_T61 l1 x5_1).f4))) (ds := []) #[false, false, false, false, false, false, false, false, false, false] (by kernel_rfl) rfl rfl ⟨((HB.out.cell (World.block_lt_of_cell? w _ hw452_0)).trans hw452_0), ((HB.out.cell (World.block_lt_of_cell? w _ hw452_1)).trans hw452_1), ((HB.out.cell (World.block_lt_of_cell? w _ hw452_2)).trans hw452_2), ((HB.out.cell (World.block_lt_of_cell? w _ hw452_3)).trans hw452_3), ((HB.out.cell (World.block_lt_of_cell? w _ hw452_4)).trans hw452_4), ((HB.out.cell (World.block_lt_of_cell? w _ hw452_5)).trans hw452_5), ((HB.out.cell (World.block_lt_of_cell? w _ hw453_0)).trans hw453_0), ((HB.out.cell (World.block_lt_of_cell? w _ hw453_1)).trans hw453_1), ((HB.out.cell (World.block_lt_of_cell? w _ hw453_2)).trans hw453_2), ((HB.out.cell (World.block_lt_of_cell? w _ hw453_3)).trans hw453_3), ((HB.out.cell (World.block_lt_of_cell? w _ hw453_4)).trans hw453_4), ((HB.out.cell (World.block_lt_of_cell? w _ hw453_5)).trans hw453_5)⟩ (fun hHeld => ?_); refine with_tabW laws_eqPredS.tab6 laws_eqPredS.bits6 (fun HT_ HW_ => ?_)
            generalize wr.drew = w9 at HB hx452_0 hx452_1 hx452_2 hx452_3 hx452_4 hx452_5 hx453_0 hx453_1 hx453_2 hx453_3 hx453_4 hx453_5 hHeld ⊢
            refine pu_ 0 17 ?_; refine pu_ 1 18 ?_; refine pu_ 2 19 ?_; refine pu_ 4 21 ?_; refine pu_ 5 22 ?_; refine pu_ 6 23 ?_; refine tk_ 3 20 hHeld ?_; refine tk_ 7 24 hHeld ?_
            refine on_ 8 25 (fun K hK => ?_)
            refine gs_ Try.func29 #[.agg #[.int .i64 ((rd_T61 l0 x5_1).f0), .int .i64 ((rd_T61 l0 x5_1).f1), .int .i64 ((rd_T61 l0 x5_1).f2.f0), .string ((rd_T61 l0 x5_1).f2.f1), .int .i64 ((rd_T61 l0 x5_1).f3), .int .i64 ((rd_T61 l0 x5_1).f4)], .agg #[.int .i64 ((rd_T61 l1 x5_1).f0), .int .i64 ((rd_T61 l1 x5_1).f1), .int .i64 ((rd_T61 l1 x5_1).f2.f0), .string ((rd_T61 l1 x5_1).f2.f1), .int .i64 ((rd_T61 l1 x5_1).f3), .int .i64 ((rd_T61 l1 x5_1).f4)]] rfl ?_
            with_reducible refine (laws_eqPred.calls ((rd_T61 l0 x5_1).f0) ((rd_T61 l0 x5_1).f1) ((rd_T61 l0 x5_1).f2.f0) ((rd_T61 l0 x5_1).f2.f1) ((rd_T61 l0 x5_1).f3) ((rd_T61 l0 x5_1).f4) ((rd_T61 l1 x5_1).f0) ((rd_T61 l1 x5_1).f1) ((rd_T61 l1 x5_1).f2.f0) ((rd_T61 l1 x5_1).f2.f1) ((rd_T61 l1 x5_1).f3) ((rd_T61 l1 x5_1).f4) true _ A7.out).mono ?_
            rintro e w10 ⟨rfl, hb⟩
            refine ⟨_, rfl, ?_⟩
            replace HB := bst HB hb
            (try clear hb)
            (try clear hb2)
            (try clear hk)
            (try clear hi)
            refine hK.out _ _ ⟨((HB.out.cell (World.block_lt_of_cell? w _ hw452_0)).trans hw452_0), ((HB.out.cell (World.block_lt_of_cell? w _ hw452_1)).trans hw452_1), ((HB.out.cell (World.block_lt_of_cell? w _ hw452_2)).trans hw452_2), ((HB.out.cell (World.block_lt_of_cell? w _ hw452_3)).trans hw452_3), ((HB.out.cell (World.block_lt_of_cell? w _ hw452_4)).trans hw452_4), ((HB.out.cell (World.block_lt_of_cell? w _ hw452_5)).trans hw452_5), ((HB.out.cell (World.block_lt_of_cell? w _ hw453_0)).trans hw453_0), ((HB.out.cell (World.block_lt_of_cell? w _ hw453_1)).trans hw453_1), ((HB.out.cell (World.block_lt_of_cell? w _ hw453_2)).trans hw453_2), ((HB.out.cell (World.block_lt_of_cell? w _ hw453_3)).trans hw453_3), ((HB.out.cell (World.block_lt_of_cell? w _ hw453_4)).trans hw453_4), ((HB.out.cell (World.block_lt_of_cell? w _ hw453_5)).trans hw453_5)⟩ (fun hHeld => ?_)
            clear hK K
            refine no_ (some 25) ?_; refine pu_ 9 26 ?_
            refine done_ (done_of HT_.out (by kernel_rfl)) ?_
            try go_wp2
            go_roundg k1
            case measure => have := HK1.out; omega
            case rel => exact ⟨(wrap64 (x5_1 + 1)), sr, H', ⟨by have := HK1.out; omega⟩, ⟨below_later HB.out⟩⟩
          · replace c8 := Bool.eq_false_iff.mpr c8
            subst c8
            have H1 : (some false) = some true := by rw [if_neg (show ¬ (false = true) by decide)] at H; exact H
            cases H1
        · rw [if_neg c4] at H
          have c4b0 := decide_eq_false c4
          clear c4
          clear H
          go_wp2
          go_ret
          exact fin_ (below_later HB.out)
  · rw [if_neg c3] at H
    cases H
/-! ### laws_eqStats: function 49 -/
def laws_eqStats.f (a0_0 : Int) (a0_1 : Bool) (a0_2 : Int) (a0_3 : ByteArray) (a0_4 : Int) (a0_5 : ByteArray) (a1_0 : Int) (a1_1 : Bool) (a1_2 : Int) (a1_3 : ByteArray) (a1_4 : Int) (a1_5 : ByteArray) : Option (Bool) := if a0_0 = a1_0 then (if (a0_1 != a1_1) = true then (some false) else ((laws_eqVal.f a0_2 a0_3 a1_2 a1_3).bind fun t457 => (if t457 = true then ((laws_eqVal.f a0_4 a0_5 a1_4 a1_5).bind fun t458 => (if t458 = true then (some true) else (some false))) else (some false)))) else (some false)
set_option maxHeartbeats 8000000 in
set_option maxRecDepth 100000 in
theorem laws_eqStats.calls (a0_0 : Int) (a0_1 : Bool) (a0_2 : Int) (a0_3 : ByteArray) (a0_4 : Int) (a0_5 : ByteArray) (a1_0 : Int) (a1_1 : Bool) (a1_2 : Int) (a1_3 : ByteArray) (a1_4 : Int) (a1_5 : ByteArray) (r : Bool) (w : World) (h : laws_eqStats.f a0_0 a0_1 a0_2 a0_3 a0_4 a0_5 a1_0 a1_1 a1_2 a1_3 a1_4 a1_5 = some true) :
    Calls Try.prog 49 #[.agg #[.int .i64 a0_0, .bool a0_1, .int .i64 a0_2, .string a0_3, .int .i64 a0_4, .string a0_5], .agg #[.int .i64 a1_0, .bool a1_1, .int .i64 a1_2, .string a1_3, .int .i64 a1_4, .string a1_5]] w fun e w' => e = .returned (.bool true) ∧ Below w.heap.size w w' := by
  have hu64 := Try.underlying64
  have hu59 := Try.underlying59
  have HB := Aside0.mk (Below.refl w.heap.size w)
  have H : (if a0_0 = a1_0 then (if (a0_1 != a1_1) = true then (some false) else ((laws_eqVal.f a0_2 a0_3 a1_2 a1_3).bind fun t457 => (if t457 = true then ((laws_eqVal.f a0_4 a0_5 a1_4 a1_5).bind fun t458 => (if t458 = true then (some true) else (some false))) else (some false)))) else (some false)) = some true := h
  clear h
  by_cases c3 : a0_0 = a1_0
  · rw [if_pos c3] at H
    have c3b0 : (a0_0 == a1_0) = true := beq_iff_eq.mpr c3
    have c3b1 : (a0_0 != a1_0) = false := bne_eq_false_iff_eq.mpr c3
    clear c3
    by_cases c4 : (a0_1 != a1_1) = true
    · rw [if_pos c4] at H
      cases H
    · rw [if_neg c4] at H
      have c4b0 : (a0_1 != a1_1) = false := by simpa using c4
      (try (have c4b1 : decide (a0_1 = a1_1) = true := by simpa using c4))
      (try (have c4b2 : (a0_1 == a1_1) = true := by simpa using c4))
      clear c4
      replace H := bnd H
      obtain ⟨t457, A10, H⟩ := H
      by_cases c11 : t457 = true
      · subst c11
        replace H := ifp rfl H
        replace H := bnd H
        obtain ⟨t458, A12, H⟩ := H
        by_cases c13 : t458 = true
        · subst c13
          replace H := ifp rfl H
          clear H
          go_enter Try.func49, Try.ntmps49
          go_wp2_with (first | ((with_reducible refine gate_dst (N := 2) rfl ?_); refine bx_ 2 #[.int .i64 a0_0, .bool a0_1, .int .i64 a0_2, .string a0_3, .int .i64 a0_4, .string a0_5] 64 ?_; intro gb455 hg w14 hbox hb; have BK455 := Aside0.mk (hbox); have GW455 := gwe HB hg; have GE455 := GW455; replace HB := bst HB hb; clear hb hbox hg) | ((with_reducible refine gate_dst (N := 3) rfl ?_); refine bx_ 3 #[.int .i64 a1_0, .bool a1_1, .int .i64 a1_2, .string a1_3, .int .i64 a1_4, .string a1_5] 64 ?_; intro gb456 hg w15 hbox hb; have BK456 := Aside0.mk (hbox); have GW456 := gwe HB hg; have GE456 := GW456; have NB455_456 := nbl BK455 hg; have NB456_455 := nbr (nbl BK455 hg); replace BK455 := bkb BK455 hb; replace HB := bst HB hb; clear hb hbox hg; have hnb16 := NB455_456.out; have hnc16 := NB456_455.out; obtain ⟨hcz17_0, hcz17_1, hcz17_2, hcz17_3, hcz17_4, hcz17_5, hfz17_0, hfz17_1, hfz17_2, hfz17_3, hfz17_4, hfz17_5⟩ := cl6 BK455; obtain ⟨hcz18_0, hcz18_1, hcz18_2, hcz18_3, hcz18_4, hcz18_5, hfz18_0, hfz18_1, hfz18_2, hfz18_3, hfz18_4, hfz18_5⟩ := cl6 BK456) | ((with_reducible refine gate_callee (f := 48) rfl ?_); refine gl_ (some 19) Try.func48 #[.agg #[.int .i64 a0_2, .string a0_3], .agg #[.int .i64 a1_2, .string a1_3]] rfl ?_; (with_reducible refine (laws_eqVal.calls a0_2 a0_3 a1_2 a1_3 true _ A10.out).mono ?_); rintro e w19 ⟨rfl, hb⟩; refine ⟨_, rfl, ?_⟩; replace BK455 := bkb BK455 hb; replace BK456 := bkb BK456 hb; replace HB := bst HB hb; (try clear hb); obtain ⟨hcz20_0, hcz20_1, hcz20_2, hcz20_3, hcz20_4, hcz20_5, hfz20_0, hfz20_1, hfz20_2, hfz20_3, hfz20_4, hfz20_5⟩ := cl6 BK455; obtain ⟨hcz21_0, hcz21_1, hcz21_2, hcz21_3, hcz21_4, hcz21_5, hfz21_0, hfz21_1, hfz21_2, hfz21_3, hfz21_4, hfz21_5⟩ := cl6 BK456) | ((with_reducible refine gate_callee (f := 48) rfl ?_); refine gl_ (some 25) Try.func48 #[.agg #[.int .i64 a0_4, .string a0_5], .agg #[.int .i64 a1_4, .string a1_5]] rfl ?_; (with_reducible refine (laws_eqVal.calls a0_4 a0_5 a1_4 a1_5 true _ A12.out).mono ?_); rintro e w22 ⟨rfl, hb⟩; refine ⟨_, rfl, ?_⟩; replace BK455 := bkb BK455 hb; replace BK456 := bkb BK456 hb; replace HB := bst HB hb; (try clear hb)))
          go_ret
          exact fin_ (below_later HB.out)
        · replace c13 := Bool.eq_false_iff.mpr c13
          subst c13
          have H1 : (some false) = some true := by rw [if_neg (show ¬ (false = true) by decide)] at H; exact H
          cases H1
      · replace c11 := Bool.eq_false_iff.mpr c11
        subst c11
        have H1 : (some false) = some true := by rw [if_neg (show ¬ (false = true) by decide)] at H; exact H
        cases H1
  · rw [if_neg c3] at H
    cases H
/-! ### laws_eqKnown: function 30 -/
def laws_eqKnown.f (a0_0 : Bool) (a0_1 : Int) (a0_2 : Bool) (a0_3 : Int) (a0_4 : ByteArray) (a0_5 : Int) (a0_6 : ByteArray) (a1_0 : Bool) (a1_1 : Int) (a1_2 : Bool) (a1_3 : Int) (a1_4 : ByteArray) (a1_5 : Int) (a1_6 : ByteArray) : Option (Bool) := if (a0_0 != a1_0) = true then (some false) else ((laws_eqStats.f a0_1 a0_2 a0_3 a0_4 a0_5 a0_6 a1_1 a1_2 a1_3 a1_4 a1_5 a1_6).bind fun t461 => (if t461 = true then (some true) else (some false)))
set_option maxHeartbeats 8000000 in
set_option maxRecDepth 100000 in
theorem laws_eqKnown.calls (a0_0 : Bool) (a0_1 : Int) (a0_2 : Bool) (a0_3 : Int) (a0_4 : ByteArray) (a0_5 : Int) (a0_6 : ByteArray) (a1_0 : Bool) (a1_1 : Int) (a1_2 : Bool) (a1_3 : Int) (a1_4 : ByteArray) (a1_5 : Int) (a1_6 : ByteArray) (r : Bool) (w : World) (h : laws_eqKnown.f a0_0 a0_1 a0_2 a0_3 a0_4 a0_5 a0_6 a1_0 a1_1 a1_2 a1_3 a1_4 a1_5 a1_6 = some true) :
    Calls Try.prog 30 #[.agg #[.bool a0_0, .int .i64 a0_1, .bool a0_2, .int .i64 a0_3, .string a0_4, .int .i64 a0_5, .string a0_6], .agg #[.bool a1_0, .int .i64 a1_1, .bool a1_2, .int .i64 a1_3, .string a1_4, .int .i64 a1_5, .string a1_6]] w fun e w' => e = .returned (.bool true) ∧ Below w.heap.size w w' := by
  have hu66 := Try.underlying66
  have hu64 := Try.underlying64
  have HB := Aside0.mk (Below.refl w.heap.size w)
  have H : (if (a0_0 != a1_0) = true then (some false) else ((laws_eqStats.f a0_1 a0_2 a0_3 a0_4 a0_5 a0_6 a1_1 a1_2 a1_3 a1_4 a1_5 a1_6).bind fun t461 => (if t461 = true then (some true) else (some false)))) = some true := h
  clear h
  by_cases c3 : (a0_0 != a1_0) = true
  · rw [if_pos c3] at H
    cases H
  · rw [if_neg c3] at H
    have c3b0 : (a0_0 != a1_0) = false := by simpa using c3
    (try (have c3b1 : decide (a0_0 = a1_0) = true := by simpa using c3))
    (try (have c3b2 : (a0_0 == a1_0) = true := by simpa using c3))
    clear c3
    replace H := bnd H
    obtain ⟨t461, A9, H⟩ := H
    by_cases c10 : t461 = true
    · subst c10
      replace H := ifp rfl H
      clear H
      go_enter Try.func30, Try.ntmps30
      go_wp2_with (first | ((with_reducible refine gate_dst (N := 2) rfl ?_); refine bx_ 2 #[.bool a0_0, .int .i64 a0_1, .bool a0_2, .int .i64 a0_3, .string a0_4, .int .i64 a0_5, .string a0_6] 66 ?_; intro gb459 hg w11 hbox hb; have BK459 := Aside0.mk (hbox); have GW459 := gwe HB hg; have GE459 := GW459; replace HB := bst HB hb; clear hb hbox hg) | ((with_reducible refine gate_dst (N := 3) rfl ?_); refine bx_ 3 #[.bool a1_0, .int .i64 a1_1, .bool a1_2, .int .i64 a1_3, .string a1_4, .int .i64 a1_5, .string a1_6] 66 ?_; intro gb460 hg w12 hbox hb; have BK460 := Aside0.mk (hbox); have GW460 := gwe HB hg; have GE460 := GW460; have NB459_460 := nbl BK459 hg; have NB460_459 := nbr (nbl BK459 hg); replace BK459 := bkb BK459 hb; replace HB := bst HB hb; clear hb hbox hg; have hnb13 := NB459_460.out; have hnc13 := NB460_459.out; obtain ⟨hcz14_0, hcz14_1, hcz14_2, hcz14_3, hcz14_4, hcz14_5, hcz14_6, hfz14_0, hfz14_1, hfz14_2, hfz14_3, hfz14_4, hfz14_5, hfz14_6⟩ := cl7 BK459; obtain ⟨hcz15_0, hcz15_1, hcz15_2, hcz15_3, hcz15_4, hcz15_5, hcz15_6, hfz15_0, hfz15_1, hfz15_2, hfz15_3, hfz15_4, hfz15_5, hfz15_6⟩ := cl7 BK460) | ((with_reducible refine gate_callee (f := 49) rfl ?_); refine gl_ (some 14) Try.func49 #[.agg #[.int .i64 a0_1, .bool a0_2, .int .i64 a0_3, .string a0_4, .int .i64 a0_5, .string a0_6], .agg #[.int .i64 a1_1, .bool a1_2, .int .i64 a1_3, .string a1_4, .int .i64 a1_5, .string a1_6]] rfl ?_; (with_reducible refine (laws_eqStats.calls a0_1 a0_2 a0_3 a0_4 a0_5 a0_6 a1_1 a1_2 a1_3 a1_4 a1_5 a1_6 true _ A9.out).mono ?_); rintro e w16 ⟨rfl, hb⟩; refine ⟨_, rfl, ?_⟩; replace BK459 := bkb BK459 hb; replace BK460 := bkb BK460 hb; replace HB := bst HB hb; (try clear hb)))
      go_ret
      exact fin_ (below_later HB.out)
    · replace c10 := Bool.eq_false_iff.mpr c10
      subst c10
      have H1 : (some false) = some true := by rw [if_neg (show ¬ (false = true) by decide)] at H; exact H
      cases H1
/-! ### laws_eqKnownS: function 14 -/
def laws_eqKnownS.l0 : Nat → List (S66) → List (S66) → Int → Option (Bool)
  | 0, _, _, _ => none
  | k + 1, x0, x1, x5 => if x5 < (x0.length : Int) then (if 0 ≤ x5 then (if x5 < (x1.length : Int) then ((laws_eqKnown.f ((rd_T66 x0 x5).f0) ((rd_T66 x0 x5).f1.f0) ((rd_T66 x0 x5).f1.f1) ((rd_T66 x0 x5).f1.f2.f0) ((rd_T66 x0 x5).f1.f2.f1) ((rd_T66 x0 x5).f1.f3.f0) ((rd_T66 x0 x5).f1.f3.f1) ((rd_T66 x1 x5).f0) ((rd_T66 x1 x5).f1.f0) ((rd_T66 x1 x5).f1.f1) ((rd_T66 x1 x5).f1.f2.f0) ((rd_T66 x1 x5).f1.f2.f1) ((rd_T66 x1 x5).f1.f3.f0) ((rd_T66 x1 x5).f1.f3.f1)).bind fun t464 => (if t464 = true then (laws_eqKnownS.l0 k x0 x1 (wrap64 (x5 + 1))) else (some false))) else (none)) else (none)) else (some true)
def laws_eqKnownS.f (k : Nat) (l0 : List (S66)) (l1 : List (S66)) : Option (Bool) := if (l0.length : Int) = (l1.length : Int) then (laws_eqKnownS.l0 k l0 l1 0) else (some false)
def laws_eqKnownS.T6 : Bool × List (List Nat × List Nat) := (true, [([], []), ([], []), ([0, 1], [0, 1]), ([2], [2]), ([], []), ([], []), ([4, 5], [4, 5]), ([6], [6]), ([3, 7], [3, 7]), ([8], [8])])
def laws_eqKnownS.B6 : List Nat := [0, 0, 3, 7, 0, 0, 48, 112, 255, 511]
theorem laws_eqKnownS.tab6 : rtab .any (opsOf Try.f14 6) = laws_eqKnownS.T6 := by kernel_rfl
theorem laws_eqKnownS.bits6 : waitsOk laws_eqKnownS.T6.2 laws_eqKnownS.B6 = true := by kernel_rfl
set_option maxHeartbeats 8000000 in
set_option maxRecDepth 100000 in
theorem laws_eqKnownS.calls (k : Nat) (A0 : Option Addr) (c0 : Nat) (l0 : List (S66)) (A1 : Option Addr) (c1 : Nat) (l1 : List (S66)) (r : Bool) (w : World) (hr0 : Kd.C k66 w A0 l0.length l0) (hc0 : l0.length ≤ c0) (hr1 : Kd.C k66 w A1 l1.length l1) (hc1 : l1.length ≤ c1) (h : laws_eqKnownS.f k l0 l1 = some true) :
    Calls Try.prog 14 #[.slice A0 l0.length c0, .slice A1 l1.length c1] w fun e w' => e = .returned (.bool true) ∧ Below w.heap.size w w' := by
  have hu66 := Try.underlying66
  have HR0 := Aside0.mk hr0
  have HC0 := Aside0.mk hc0
  clear hr0 hc0
  have HR1 := Aside0.mk hr1
  have HC1 := Aside0.mk hc1
  clear hr1 hc1
  have HB := Aside0.mk (Below.refl w.heap.size w)
  have H : (if (l0.length : Int) = (l1.length : Int) then (laws_eqKnownS.l0 k l0 l1 0) else (some false)) = some true := h
  clear h
  by_cases c3 : (l0.length : Int) = (l1.length : Int)
  · rw [if_pos c3] at H
    have c3b0 : ((l0.length : Int) == (l1.length : Int)) = true := beq_iff_eq.mpr c3
    have c3b1 : ((l0.length : Int) != (l1.length : Int)) = false := bne_eq_false_iff_eq.mpr c3
    have c3b2 : (l0.length == l1.length) = true := by first | simpa using c3 | (simp at c3 ⊢; omega)
    clear c3
    have H' := Aside0.mk H
    clear H
    go_enter Try.func14, Try.ntmps14
    go_wp2
    go_loopg [5] k (fun kq v5 w' => ∃ (x5_1 : Int), v5 = .int .i64 x5_1 ∧ Aside0 (laws_eqKnownS.l0 kq l0 l1 x5_1 = some true) ∧ Aside0 (kq ≤ k) ∧ Aside0 (Below w.heap.size w w'))
    case atStart => exact ⟨(0), sr, H', ⟨Nat.le_refl _⟩, ⟨below_later HB.out⟩⟩
    case round =>
      clear H'
      try clear c1
      try clear c3
      try clear c3b0
      try clear c3b1
      try clear c3b2
      obtain ⟨x5_1, rfl, HA, HK1, HB⟩ := hrel
      cases gk with
      | zero => exact absurd HA.out (by simp [laws_eqKnownS.l0])
      | succ k1 =>
        have H := HA.out
        clear HA
        simp only [laws_eqKnownS.l0] at H
        by_cases c4 : x5_1 < (l0.length : Int)
        · rw [if_pos c4] at H
          have c4b0 := decide_eq_true c4
          clear c4
          replace H := ifd H
          obtain ⟨c5b0, H⟩ := H
          replace H := ifd H
          obtain ⟨c6b0, H⟩ := H
          replace H := bnd H
          obtain ⟨t464, A7, H⟩ := H
          by_cases c8 : t464 = true
          · subst c8
            replace H := ifp rfl H
            have H' := Aside0.mk H
            clear H
            try go_wp2
            replace HB := Aside0.mk (below_drew1 HB.out)
            have p462 : 0 ≤ (x5_1 : Int) := dcd
            have q462 : x5_1 < (l0.length : Int) := dcd
            obtain ⟨ad462, e462, hx462_0, hx462_1, hx462_2, hx462_3, hx462_4, hx462_5, hx462_6⟩ := at_T66 HR0.out x5_1 p462 q462
            have hw462_6 := hx462_6
            have hw462_5 := hx462_5
            have hw462_4 := hx462_4
            have hw462_3 := hx462_3
            have hw462_2 := hx462_2
            have hw462_1 := hx462_1
            have hw462_0 := hx462_0
            cases e462
            replace hx462_0 := crd HB hx462_0
            replace hx462_1 := crd HB hx462_1
            replace hx462_2 := crd HB hx462_2
            replace hx462_3 := crd HB hx462_3
            replace hx462_4 := crd HB hx462_4
            replace hx462_5 := crd HB hx462_5
            replace hx462_6 := crd HB hx462_6
            replace p462 := eq_true p462
            replace q462 := eq_true q462
            have p463 : 0 ≤ (x5_1 : Int) := dcd
            have q463 : x5_1 < (l1.length : Int) := dcd
            obtain ⟨ad463, e463, hx463_0, hx463_1, hx463_2, hx463_3, hx463_4, hx463_5, hx463_6⟩ := at_T66 HR1.out x5_1 p463 q463
            have hw463_6 := hx463_6
            have hw463_5 := hx463_5
            have hw463_4 := hx463_4
            have hw463_3 := hx463_3
            have hw463_2 := hx463_2
            have hw463_1 := hx463_1
            have hw463_0 := hx463_0
            cases e463
            replace hx463_0 := crd HB hx463_0
            replace hx463_1 := crd HB hx463_1
            replace hx463_2 := crd HB hx463_2
            replace hx463_3 := crd HB hx463_3
            replace hx463_4 := crd HB hx463_4
            replace hx463_5 := crd HB hx463_5
            replace hx463_6 := crd HB hx463_6
            replace p463 := eq_true p463
            replace q463 := eq_true q463
            refine start_ (n := 10) (S := fun w' => w'.cell? (ad462.add ((x5_1).toNat * 7)) = some (.bool ((rd_T66 l0 x5_1).f0)) ∧ w'.cell? ⟨(ad462.add ((x5_1).toNat * 7)).block, (ad462.add ((x5_1).toNat * 7)).off + 1, none⟩ = some (.int .i64 ((rd_T66 l0 x5_1).f1.f0)) ∧ w'.cell? ⟨(ad462.add ((x5_1).toNat * 7)).block, (ad462.add ((x5_1).toNat * 7)).off + 2, none⟩ = some (.bool ((rd_T66 l0 x5_1).f1.f1)) ∧ w'.cell? ⟨(ad462.add ((x5_1).toNat * 7)).block, (ad462.add ((x5_1).toNat * 7)).off + 3, none⟩ = some (.int .i64 ((rd_T66 l0 x5_1).f1.f2.f0)) ∧ w'.cell? ⟨(ad462.add ((x5_1).toNat * 7)).block, (ad462.add ((x5_1).toNat * 7)).off + 4, none⟩ = some (.string ((rd_T66 l0 x5_1).f1.f2.f1)) ∧ w'.cell? ⟨(ad462.add ((x5_1).toNat * 7)).block, (ad462.add ((x5_1).toNat * 7)).off + 5, none⟩ = some (.int .i64 ((rd_T66 l0 x5_1).f1.f3.f0)) ∧ w'.cell? ⟨(ad462.add ((x5_1).toNat * 7)).block, (ad462.add ((x5_1).toNat * 7)).off + 6, none⟩ = some (.string ((rd_T66 l0 x5_1).f1.f3.f1)) ∧ w'.cell? (ad463.add ((x5_1).toNat * 7)) = some (.bool ((rd_T66 l1 x5_1).f0)) ∧ w'.cell? ⟨(ad463.add ((x5_1).toNat * 7)).block, (ad463.add ((x5_1).toNat * 7)).off + 1, none⟩ = some (.int .i64 ((rd_T66 l1 x5_1).f1.f0)) ∧ w'.cell? ⟨(ad463.add ((x5_1).toNat * 7)).block, (ad463.add ((x5_1).toNat * 7)).off + 2, none⟩ = some (.bool ((rd_T66 l1 x5_1).f1.f1)) ∧ w'.cell? ⟨(ad463.add ((x5_1).toNat * 7)).block, (ad463.add ((x5_1).toNat * 7)).off + 3, none⟩ = some (.int .i64 ((rd_T66 l1 x5_1).f1.f2.f0)) ∧ w'.cell? ⟨(ad463.add ((x5_1).toNat * 7)).block, (ad463.add ((x5_1).toNat * 7)).off + 4, none⟩ = some (.string ((rd_T66 l1 x5_1).f1.f2.f1)) ∧ w'.cell? ⟨(ad463.add ((x5_1).toNat * 7)).block, (ad463.add ((x5_1).toNat * 7)).off + 5, none⟩ = some (.int .i64 ((rd_T66 l1 x5_1).f1.f3.f0)) ∧ w'.cell? ⟨(ad463.add ((x5_1).toNat * 7)).block, (ad463.add ((x5_1).toNat * 7)).off + 6, none⟩ = some (.string ((rd_T66 l1 x5_1).f1.f3.f1))) (ds := []) #[false, false, false, false, false, false, false, false, false, false] (by kernel_rfl) rfl rfl ⟨((HB.out.cell (World.block_lt_of_cell? w _ hw462_0)).trans hw462_0), ((HB.out.cell (World.block_lt_of_cell? w _ hw462_1)).trans hw462_1), ((HB.out.cell (World.block_lt_of_cell? w _ hw462_2)).trans hw462_2), ((HB.out.cell (World.block_lt_of_cell? w _ hw462_3)).trans hw462_3), ((HB.out.cell (World.block_lt_of_cell? w _ hw462_4)).trans hw462_4), ((HB.out.cell (World.block_lt_of_cell? w _ hw462_5)).trans hw462_5), ((HB.out.cell (World.block_lt_of_cell? w _ hw462_6)).trans hw462_6), ((HB.out.cell (World.block_lt_of_cell? w _ hw463_0)).trans hw463_0), ((HB.out.cell (World.block_lt_of_cell? w _ hw463_1)).trans hw463_1), ((HB.out.cell (World.block_lt_of_cell? w _ hw463_2)).trans hw463_2), ((HB.out.cell (World.block_lt_of_cell? w _ hw463_3)).trans hw463_3), ((HB.out.cell (World.block_lt_of_cell? w _ hw463_4)).trans hw463_4), ((HB.out.cell (World.block_lt_of_cell? w _ hw463_5)).trans hw463_5), ((HB.out.cell (World.block_lt_of_cell? w _ hw463_6)).trans hw463_6)⟩ (fun hHeld => ?_); refine with_tabW laws_eqKnownS.tab6 laws_eqKnownS.bits6 (fun HT_ HW_ => ?_)
            generalize wr.drew = w9 at HB hx462_0 hx462_1 hx462_2 hx462_3 hx462_4 hx462_5 hx462_6 hx463_0 hx463_1 hx463_2 hx463_3 hx463_4 hx463_5 hx463_6 hHeld ⊢
            refine pu_ 0 17 ?_; refine pu_ 1 18 ?_; refine pu_ 2 19 ?_; refine pu_ 4 21 ?_; refine pu_ 5 22 ?_; refine pu_ 6 23 ?_; refine tk_ 3 20 hHeld ?_; refine tk_ 7 24 hHeld ?_
            refine on_ 8 25 (fun K hK => ?_)
            refine gs_ Try.func30 #[.agg #[.bool ((rd_T66 l0 x5_1).f0), .int .i64 ((rd_T66 l0 x5_1).f1.f0), .bool ((rd_T66 l0 x5_1).f1.f1), .int .i64 ((rd_T66 l0 x5_1).f1.f2.f0), .string ((rd_T66 l0 x5_1).f1.f2.f1), .int .i64 ((rd_T66 l0 x5_1).f1.f3.f0), .string ((rd_T66 l0 x5_1).f1.f3.f1)], .agg #[.bool ((rd_T66 l1 x5_1).f0), .int .i64 ((rd_T66 l1 x5_1).f1.f0), .bool ((rd_T66 l1 x5_1).f1.f1), .int .i64 ((rd_T66 l1 x5_1).f1.f2.f0), .string ((rd_T66 l1 x5_1).f1.f2.f1), .int .i64 ((rd_T66 l1 x5_1).f1.f3.f0), .string ((rd_T66 l1 x5_1).f1.f3.f1)]] rfl ?_
            with_reducible refine (laws_eqKnown.calls ((rd_T66 l0 x5_1).f0) ((rd_T66 l0 x5_1).f1.f0) ((rd_T66 l0 x5_1).f1.f1) ((rd_T66 l0 x5_1).f1.f2.f0) ((rd_T66 l0 x5_1).f1.f2.f1) ((rd_T66 l0 x5_1).f1.f3.f0) ((rd_T66 l0 x5_1).f1.f3.f1) ((rd_T66 l1 x5_1).f0) ((rd_T66 l1 x5_1).f1.f0) ((rd_T66 l1 x5_1).f1.f1) ((rd_T66 l1 x5_1).f1.f2.f0) ((rd_T66 l1 x5_1).f1.f2.f1) ((rd_T66 l1 x5_1).f1.f3.f0) ((rd_T66 l1 x5_1).f1.f3.f1) true _ A7.out).mono ?_
            rintro e w10 ⟨rfl, hb⟩
            refine ⟨_, rfl, ?_⟩
            replace HB := bst HB hb
            (try clear hb)
            (try clear hb2)
            (try clear hk)
            (try clear hi)
            refine hK.out _ _ ⟨((HB.out.cell (World.block_lt_of_cell? w _ hw462_0)).trans hw462_0), ((HB.out.cell (World.block_lt_of_cell? w _ hw462_1)).trans hw462_1), ((HB.out.cell (World.block_lt_of_cell? w _ hw462_2)).trans hw462_2), ((HB.out.cell (World.block_lt_of_cell? w _ hw462_3)).trans hw462_3), ((HB.out.cell (World.block_lt_of_cell? w _ hw462_4)).trans hw462_4), ((HB.out.cell (World.block_lt_of_cell? w _ hw462_5)).trans hw462_5), ((HB.out.cell (World.block_lt_of_cell? w _ hw462_6)).trans hw462_6), ((HB.out.cell (World.block_lt_of_cell? w _ hw463_0)).trans hw463_0), ((HB.out.cell (World.block_lt_of_cell? w _ hw463_1)).trans hw463_1), ((HB.out.cell (World.block_lt_of_cell? w _ hw463_2)).trans hw463_2), ((HB.out.cell (World.block_lt_of_cell? w _ hw463_3)).trans hw463_3), ((HB.out.cell (World.block_lt_of_cell? w _ hw463_4)).trans hw463_4), ((HB.out.cell (World.block_lt_of_cell? w _ hw463_5)).trans hw463_5), ((HB.out.cell (World.block_lt_of_cell? w _ hw463_6)).trans hw463_6)⟩ (fun hHeld => ?_)
            clear hK K
            refine no_ (some 25) ?_; refine pu_ 9 26 ?_
            refine done_ (done_of HT_.out (by kernel_rfl)) ?_
            try go_wp2
            go_roundg k1
            case measure => have := HK1.out; omega
            case rel => exact ⟨(wrap64 (x5_1 + 1)), sr, H', ⟨by have := HK1.out; omega⟩, ⟨below_later HB.out⟩⟩
          · replace c8 := Bool.eq_false_iff.mpr c8
            subst c8
            have H1 : (some false) = some true := by rw [if_neg (show ¬ (false = true) by decide)] at H; exact H
            cases H1
        · rw [if_neg c4] at H
          have c4b0 := decide_eq_false c4
          clear c4
          clear H
          go_wp2
          go_ret
          exact fin_ (below_later HB.out)
  · rw [if_neg c3] at H
    cases H
/-! ### laws_FnExactPredMay: function 3 -/
def laws_FnExactPredMay.j0 : Nat → List (S42) → List (S47) → List (S52) → List (S57) → List (S61) → List (S66) → Bool → Option (Bool)
  | 0, _, _, _, _, _, _, _ => none
  | k + 1, x0, x1, x2, x10, x11, x12, x60 => if x60 = true then (some false) else ((laws_toColS.f k x0).bind fun t490 => ((laws_eqColS.f k x10 t490).bind fun t493 => (if t493 = true then ((laws_toPredS.f k x1).bind fun t494 => ((laws_eqPredS.f k x11 t494).bind fun t497 => (if t497 = true then ((laws_toKnownS.f k x2).bind fun t498 => ((laws_eqKnownS.f k x12 t498).bind fun t501 => (if t501 = true then (some true) else (some false)))) else (some false)))) else (some false))))
def laws_FnExactPredMay.f (k : Nat) (l0 : List (S42)) (l1 : List (S47)) (l2 : List (S52)) : Option (Bool) := (laws_szColS.f k l0 1048576).bind fun t465 => (if t465 < 0 then (some true) else ((laws_szPredS.f k l1 t465).bind fun t466 => (if t466 < 0 then (some true) else ((laws_szKnownS.f k l2 t466).bind fun t467 => (if t467 < 0 then (some true) else ((laws_toColS.f k l0).bind fun t468 => ((laws_toPredS.f k l1).bind fun t471 => ((laws_toKnownS.f k l2).bind fun t474 => ((spec_PredMay.f k t468 t471 t474).bind fun bt477 => ((laws_toColS.f k l0).bind fun t479 => ((laws_toPredS.f k l1).bind fun t482 => ((laws_toKnownS.f k l2).bind fun t485 => ((impl_PredMay.f k t479 t482 t485).bind fun bt488 => (if (bt488.1 != bt477.1) = true then (laws_FnExactPredMay.j0 k l0 l1 l2 t479 t482 t485 true) else (laws_FnExactPredMay.j0 k l0 l1 l2 t479 t482 t485 (bt488.2 != bt477.2))))))))))))))))
set_option maxHeartbeats 8000000 in
set_option maxRecDepth 100000 in
theorem laws_FnExactPredMay.calls (k : Nat) (A0 : Option Addr) (c0 : Nat) (l0 : List (S42)) (A1 : Option Addr) (c1 : Nat) (l1 : List (S47)) (A2 : Option Addr) (c2 : Nat) (l2 : List (S52)) (r : Bool) (w : World) (hr0 : Kd.C k42 w A0 l0.length l0) (hc0 : l0.length ≤ c0) (hr1 : Kd.C k47 w A1 l1.length l1) (hc1 : l1.length ≤ c1) (hr2 : Kd.C k52 w A2 l2.length l2) (hc2 : l2.length ≤ c2) (h : laws_FnExactPredMay.f k l0 l1 l2 = some true) :
    Calls Try.prog 3 #[.slice A0 l0.length c0, .slice A1 l1.length c1, .slice A2 l2.length c2] w fun e w' => e = .returned (.bool true) ∧ Below w.heap.size w w' := by
  have HR0 := Aside0.mk hr0
  have HC0 := Aside0.mk hc0
  clear hr0 hc0
  have HR1 := Aside0.mk hr1
  have HC1 := Aside0.mk hc1
  clear hr1 hc1
  have HR2 := Aside0.mk hr2
  have HC2 := Aside0.mk hc2
  clear hr2 hc2
  have HB := Aside0.mk (Below.refl w.heap.size w)
  have H : ((laws_szColS.f k l0 1048576).bind fun t465 => (if t465 < 0 then (some true) else ((laws_szPredS.f k l1 t465).bind fun t466 => (if t466 < 0 then (some true) else ((laws_szKnownS.f k l2 t466).bind fun t467 => (if t467 < 0 then (some true) else ((laws_toColS.f k l0).bind fun t468 => ((laws_toPredS.f k l1).bind fun t471 => ((laws_toKnownS.f k l2).bind fun t474 => ((spec_PredMay.f k t468 t471 t474).bind fun bt477 => ((laws_toColS.f k l0).bind fun t479 => ((laws_toPredS.f k l1).bind fun t482 => ((laws_toKnownS.f k l2).bind fun t485 => ((impl_PredMay.f k t479 t482 t485).bind fun bt488 => (if (bt488.1 != bt477.1) = true then (laws_FnExactPredMay.j0 k l0 l1 l2 t479 t482 t485 true) else (laws_FnExactPredMay.j0 k l0 l1 l2 t479 t482 t485 (bt488.2 != bt477.2))))))))))))))))) = some true := h
  clear h
  replace H := bnd H
  obtain ⟨t465, A4, H⟩ := H
  by_cases c5 : t465 < 0
  · rw [if_pos c5] at H
    have c5b0 := decide_eq_true c5
    clear c5
    clear H
    go_enter Try.func3, Try.ntmps3
    go_wp2_with (first | ((with_reducible refine gate_callee (f := 4) rfl ?_); refine gl_ (some 17) Try.func4 #[.slice A0 l0.length c0, .int .i64 1048576] rfl ?_; (with_reducible refine (laws_szColS.calls k _ _ l0 1048576 t465 _ ?side1 ?side2 A4.out).mono ?_); (case side1 => exact C_later HR0.out); (case side2 => exact HC0.out); rintro e w6 ⟨rfl, hb⟩; refine ⟨_, rfl, ?_⟩; replace HB := bst HB hb; (try clear hb)))
    go_ret
    exact fin_ (below_later HB.out)
  · rw [if_neg c5] at H
    have c5b0 := decide_eq_false c5
    clear c5
    replace H := bnd H
    obtain ⟨t466, A7, H⟩ := H
    by_cases c8 : t466 < 0
    · rw [if_pos c8] at H
      have c8b0 := decide_eq_true c8
      clear c8
      clear H
      go_enter Try.func3, Try.ntmps3
      go_wp2_with (first | ((with_reducible refine gate_callee (f := 4) rfl ?_); refine gl_ (some 17) Try.func4 #[.slice A0 l0.length c0, .int .i64 1048576] rfl ?_; (with_reducible refine (laws_szColS.calls k _ _ l0 1048576 t465 _ ?side1 ?side2 A4.out).mono ?_); (case side1 => exact C_later HR0.out); (case side2 => exact HC0.out); rintro e w9 ⟨rfl, hb⟩; refine ⟨_, rfl, ?_⟩; replace HB := bst HB hb; (try clear hb)) | ((with_reducible refine gate_callee (f := 5) rfl ?_); refine gl_ (some 22) Try.func5 #[.slice A1 l1.length c1, .int .i64 t465] rfl ?_; (with_reducible refine (laws_szPredS.calls k _ _ l1 t465 t466 _ ?side1 ?side2 A7.out).mono ?_); (case side1 => repeat (first | exact (Kd.C_below HR1.out HB.out) | (with_reducible refine Kd.C_alloc ?_ _) | (with_reducible refine Kd.C_drewN ?_ _) | (with_reducible refine Kd.C_drew ?_))); (case side2 => exact HC1.out); rintro e w10 ⟨rfl, hb⟩; refine ⟨_, rfl, ?_⟩; replace HB := bst HB hb; (try clear hb)))
      go_ret
      exact fin_ (below_later HB.out)
    · rw [if_neg c8] at H
      have c8b0 := decide_eq_false c8
      clear c8
      replace H := bnd H
      obtain ⟨t467, A11, H⟩ := H
      by_cases c12 : t467 < 0
      · rw [if_pos c12] at H
        have c12b0 := decide_eq_true c12
        clear c12
        clear H
        go_enter Try.func3, Try.ntmps3
        go_wp2_with (first | ((with_reducible refine gate_callee (f := 4) rfl ?_); refine gl_ (some 17) Try.func4 #[.slice A0 l0.length c0, .int .i64 1048576] rfl ?_; (with_reducible refine (laws_szColS.calls k _ _ l0 1048576 t465 _ ?side1 ?side2 A4.out).mono ?_); (case side1 => exact C_later HR0.out); (case side2 => exact HC0.out); rintro e w13 ⟨rfl, hb⟩; refine ⟨_, rfl, ?_⟩; replace HB := bst HB hb; (try clear hb)) | ((with_reducible refine gate_callee (f := 5) rfl ?_); refine gl_ (some 22) Try.func5 #[.slice A1 l1.length c1, .int .i64 t465] rfl ?_; (with_reducible refine (laws_szPredS.calls k _ _ l1 t465 t466 _ ?side1 ?side2 A7.out).mono ?_); (case side1 => repeat (first | exact (Kd.C_below HR1.out HB.out) | (with_reducible refine Kd.C_alloc ?_ _) | (with_reducible refine Kd.C_drewN ?_ _) | (with_reducible refine Kd.C_drew ?_))); (case side2 => exact HC1.out); rintro e w14 ⟨rfl, hb⟩; refine ⟨_, rfl, ?_⟩; replace HB := bst HB hb; (try clear hb)) | ((with_reducible refine gate_callee (f := 6) rfl ?_); refine gl_ (some 27) Try.func6 #[.slice A2 l2.length c2, .int .i64 t466] rfl ?_; (with_reducible refine (laws_szKnownS.calls k _ _ l2 t466 t467 _ ?side1 ?side2 A11.out).mono ?_); (case side1 => repeat (first | exact (Kd.C_below HR2.out HB.out) | (with_reducible refine Kd.C_alloc ?_ _) | (with_reducible refine Kd.C_drewN ?_ _) | (with_reducible refine Kd.C_drew ?_))); (case side2 => exact HC2.out); rintro e w15 ⟨rfl, hb⟩; refine ⟨_, rfl, ?_⟩; replace HB := bst HB hb; (try clear hb)))
        go_ret
        exact fin_ (below_later HB.out)
      · rw [if_neg c12] at H
        have c12b0 := decide_eq_false c12
        clear c12
        replace H := bnd H
        obtain ⟨t468, A16, H⟩ := H
        replace H := bnd H
        obtain ⟨t471, A17, H⟩ := H
        replace H := bnd H
        obtain ⟨t474, A18, H⟩ := H
        replace H := Option.bind_eq_some_iff.mp H
        obtain ⟨⟨t477, t478⟩, A190, H⟩ := H
        replace H : ((laws_toColS.f k l0).bind fun t479 => ((laws_toPredS.f k l1).bind fun t482 => ((laws_toKnownS.f k l2).bind fun t485 => ((impl_PredMay.f k t479 t482 t485).bind fun bt488 => (if (bt488.1 != t477) = true then (laws_FnExactPredMay.j0 k l0 l1 l2 t479 t482 t485 true) else (laws_FnExactPredMay.j0 k l0 l1 l2 t479 t482 t485 (bt488.2 != t478))))))) = some true := H
        have A19 := Aside0.mk A190
        clear A190
        replace H := bnd H
        obtain ⟨t479, A20, H⟩ := H
        replace H := bnd H
        obtain ⟨t482, A21, H⟩ := H
        replace H := bnd H
        obtain ⟨t485, A22, H⟩ := H
        replace H := Option.bind_eq_some_iff.mp H
        obtain ⟨⟨t488, t489⟩, A230, H⟩ := H
        replace H : (if (t488 != t477) = true then (laws_FnExactPredMay.j0 k l0 l1 l2 t479 t482 t485 true) else (laws_FnExactPredMay.j0 k l0 l1 l2 t479 t482 t485 (t489 != t478))) = some true := H
        have A23 := Aside0.mk A230
        clear A230
        have HC24 := Aside0.mk H
        clear H
        go_enter Try.func3, Try.ntmps3
        go_upto_region 16 with (first | ((with_reducible refine gate_callee (f := 4) rfl ?_); refine gl_ (some 17) Try.func4 #[.slice A0 l0.length c0, .int .i64 1048576] rfl ?_; (with_reducible refine (laws_szColS.calls k _ _ l0 1048576 t465 _ ?side1 ?side2 A4.out).mono ?_); (case side1 => exact C_later HR0.out); (case side2 => exact HC0.out); rintro e w25 ⟨rfl, hb⟩; refine ⟨_, rfl, ?_⟩; replace HB := bst HB hb; (try clear hb)) | ((with_reducible refine gate_callee (f := 5) rfl ?_); refine gl_ (some 22) Try.func5 #[.slice A1 l1.length c1, .int .i64 t465] rfl ?_; (with_reducible refine (laws_szPredS.calls k _ _ l1 t465 t466 _ ?side1 ?side2 A7.out).mono ?_); (case side1 => repeat (first | exact (Kd.C_below HR1.out HB.out) | (with_reducible refine Kd.C_alloc ?_ _) | (with_reducible refine Kd.C_drewN ?_ _) | (with_reducible refine Kd.C_drew ?_))); (case side2 => exact HC1.out); rintro e w26 ⟨rfl, hb⟩; refine ⟨_, rfl, ?_⟩; replace HB := bst HB hb; (try clear hb)) | ((with_reducible refine gate_callee (f := 6) rfl ?_); refine gl_ (some 27) Try.func6 #[.slice A2 l2.length c2, .int .i64 t466] rfl ?_; (with_reducible refine (laws_szKnownS.calls k _ _ l2 t466 t467 _ ?side1 ?side2 A11.out).mono ?_); (case side1 => repeat (first | exact (Kd.C_below HR2.out HB.out) | (with_reducible refine Kd.C_alloc ?_ _) | (with_reducible refine Kd.C_drewN ?_ _) | (with_reducible refine Kd.C_drew ?_))); (case side2 => exact HC2.out); rintro e w27 ⟨rfl, hb⟩; refine ⟨_, rfl, ?_⟩; replace HB := bst HB hb; (try clear hb)) | ((with_reducible refine gate_callee (f := 8) rfl ?_); refine gl_ (some 32) Try.func8 #[.slice A0 l0.length c0] rfl ?_; (with_reducible refine (laws_toColS.calls k _ _ l0 t468 _ ?side1 ?side2 A16.out).mono ?_); (case side1 => repeat (first | exact (Kd.C_below HR0.out HB.out) | (with_reducible refine Kd.C_alloc ?_ _) | (with_reducible refine Kd.C_drewN ?_ _) | (with_reducible refine Kd.C_drew ?_))); (case side2 => exact HC0.out); rintro e w28 ⟨v469, rfl, ho0, hb⟩; refine ⟨_, rfl, ?_⟩; have HO470 := Aside0.mk (Kd.R_lower ho0 (below_size (below_later HB.out))); replace HB := bst HB hb; (try clear hb); (try clear ho0)) | ((with_reducible refine gate_callee (f := 9) rfl ?_); refine gl_ (some 34) Try.func9 #[.slice A1 l1.length c1] rfl ?_; (with_reducible refine (laws_toPredS.calls k _ _ l1 t471 _ ?side1 ?side2 A17.out).mono ?_); (case side1 => repeat (first | exact (Kd.C_below HR1.out HB.out) | (with_reducible refine Kd.C_alloc ?_ _) | (with_reducible refine Kd.C_drewN ?_ _) | (with_reducible refine Kd.C_drew ?_))); (case side2 => exact HC1.out); rintro e w29 ⟨v472, rfl, ho0, hb⟩; refine ⟨_, rfl, ?_⟩; have HO473 := Aside0.mk (Kd.R_lower ho0 (below_size (below_later HB.out))); replace HO470 := Aside0.mk (Kd.R_below (R_later HO470.out) hb); replace HB := bst HB hb; (try clear hb); (try clear ho0)) | ((with_reducible refine gate_callee (f := 10) rfl ?_); refine gl_ (some 36) Try.func10 #[.slice A2 l2.length c2] rfl ?_; (with_reducible refine (laws_toKnownS.calls k _ _ l2 t474 _ ?side1 ?side2 A18.out).mono ?_); (case side1 => repeat (first | exact (Kd.C_below HR2.out HB.out) | (with_reducible refine Kd.C_alloc ?_ _) | (with_reducible refine Kd.C_drewN ?_ _) | (with_reducible refine Kd.C_drew ?_))); (case side2 => exact HC2.out); rintro e w30 ⟨v475, rfl, ho0, hb⟩; refine ⟨_, rfl, ?_⟩; have HO476 := Aside0.mk (Kd.R_lower ho0 (below_size (below_later HB.out))); replace HO470 := Aside0.mk (Kd.R_below (R_later HO470.out) hb); replace HO473 := Aside0.mk (Kd.R_below (R_later HO473.out) hb); replace HB := bst HB hb; (try clear hb); (try clear ho0); obtain ⟨Ao31, co31, eo31⟩ := Kd.R_slice HO470.out; subst eo31; obtain ⟨Ao32, co32, eo32⟩ := Kd.R_slice HO473.out; subst eo32; obtain ⟨Ao33, co33, eo33⟩ := Kd.R_slice HO476.out; subst eo33) | ((with_reducible refine gate_callee (f := 7) rfl ?_); refine gl_ (some 37) Try.func7 #[.slice Ao31 t468.length co31, .slice Ao32 t471.length co32, .slice Ao33 t474.length co33] rfl ?_; (with_reducible refine (spec_PredMay.calls k _ _ t468 _ _ t471 _ _ t474 t477 t478 _ ?side1 ?side2 ?side3 ?side4 ?side5 ?side6 A19.out).mono ?_); (case side1 => repeat (first | exact (Kd.R_reads' HO470.out).2.2 | (with_reducible refine Kd.C_alloc ?_ _) | (with_reducible refine Kd.C_drewN ?_ _) | (with_reducible refine Kd.C_drew ?_))); (case side2 => exact (Kd.R_reads' HO470.out).2.1); (case side3 => repeat (first | exact (Kd.R_reads' HO473.out).2.2 | (with_reducible refine Kd.C_alloc ?_ _) | (with_reducible refine Kd.C_drewN ?_ _) | (with_reducible refine Kd.C_drew ?_))); (case side4 => exact (Kd.R_reads' HO473.out).2.1); (case side5 => repeat (first | exact (Kd.R_reads' HO476.out).2.2 | (with_reducible refine Kd.C_alloc ?_ _) | (with_reducible refine Kd.C_drewN ?_ _) | (with_reducible refine Kd.C_drew ?_))); (case side6 => exact (Kd.R_reads' HO476.out).2.1); rintro e w34 ⟨rfl, hb⟩; refine ⟨_, rfl, ?_⟩; replace HO470 := Aside0.mk (Kd.R_below (R_later HO470.out) hb); replace HO473 := Aside0.mk (Kd.R_below (R_later HO473.out) hb); replace HO476 := Aside0.mk (Kd.R_below (R_later HO476.out) hb); replace HB := bst HB hb; (try clear hb)) | ((with_reducible refine gate_callee (f := 8) rfl ?_); refine gl_ (some 41) Try.func8 #[.slice A0 l0.length c0] rfl ?_; (with_reducible refine (laws_toColS.calls k _ _ l0 t479 _ ?side1 ?side2 A20.out).mono ?_); (case side1 => repeat (first | exact (Kd.C_below HR0.out HB.out) | (with_reducible refine Kd.C_alloc ?_ _) | (with_reducible refine Kd.C_drewN ?_ _) | (with_reducible refine Kd.C_drew ?_))); (case side2 => exact HC0.out); rintro e w35 ⟨v480, rfl, ho0, hb⟩; refine ⟨_, rfl, ?_⟩; have HO481 := Aside0.mk (Kd.R_lower (Kd.R_new' ho0 (Kd.R_lt (R_later HO470.out))) (below_size (below_later HB.out))); replace HO470 := Aside0.mk (Kd.R_elder' (R_later HO470.out) (Kd.R_base ho0) hb); replace HO473 := Aside0.mk (Kd.R_below (R_later HO473.out) hb); replace HO476 := Aside0.mk (Kd.R_below (R_later HO476.out) hb); replace HB := bst HB hb; (try clear hb); (try clear ho0)) | ((with_reducible refine gate_callee (f := 9) rfl ?_); refine gl_ (some 43) Try.func9 #[.slice A1 l1.length c1] rfl ?_; (with_reducible refine (laws_toPredS.calls k _ _ l1 t482 _ ?side1 ?side2 A21.out).mono ?_); (case side1 => repeat (first | exact (Kd.C_below HR1.out HB.out) | (with_reducible refine Kd.C_alloc ?_ _) | (with_reducible refine Kd.C_drewN ?_ _) | (with_reducible refine Kd.C_drew ?_))); (case side2 => exact HC1.out); rintro e w36 ⟨v483, rfl, ho0, hb⟩; refine ⟨_, rfl, ?_⟩; have HO484 := Aside0.mk (Kd.R_lower (Kd.R_new' ho0 (Kd.R_lt (R_later HO473.out))) (below_size (below_later HB.out))); replace HO470 := Aside0.mk (Kd.R_below (R_later HO470.out) hb); replace HO473 := Aside0.mk (Kd.R_elder' (R_later HO473.out) (Kd.R_base ho0) hb); replace HO476 := Aside0.mk (Kd.R_below (R_later HO476.out) hb); replace HO481 := Aside0.mk (Kd.R_below (R_later HO481.out) hb); replace HB := bst HB hb; (try clear hb); (try clear ho0)) | ((with_reducible refine gate_callee (f := 10) rfl ?_); refine gl_ (some 45) Try.func10 #[.slice A2 l2.length c2] rfl ?_; (with_reducible refine (laws_toKnownS.calls k _ _ l2 t485 _ ?side1 ?side2 A22.out).mono ?_); (case side1 => repeat (first | exact (Kd.C_below HR2.out HB.out) | (with_reducible refine Kd.C_alloc ?_ _) | (with_reducible refine Kd.C_drewN ?_ _) | (with_reducible refine Kd.C_drew ?_))); (case side2 => exact HC2.out); rintro e w37 ⟨v486, rfl, ho0, hb⟩; refine ⟨_, rfl, ?_⟩; have HO487 := Aside0.mk (Kd.R_lower (Kd.R_new' ho0 (Kd.R_lt (R_later HO476.out))) (below_size (below_later HB.out))); replace HO470 := Aside0.mk (Kd.R_below (R_later HO470.out) hb); replace HO473 := Aside0.mk (Kd.R_below (R_later HO473.out) hb); replace HO476 := Aside0.mk (Kd.R_elder' (R_later HO476.out) (Kd.R_base ho0) hb); replace HO481 := Aside0.mk (Kd.R_below (R_later HO481.out) hb); replace HO484 := Aside0.mk (Kd.R_below (R_later HO484.out) hb); replace HB := bst HB hb; (try clear hb); (try clear ho0); obtain ⟨Ao38, co38, eo38⟩ := Kd.R_slice HO481.out; subst eo38; obtain ⟨Ao39, co39, eo39⟩ := Kd.R_slice HO484.out; subst eo39; obtain ⟨Ao40, co40, eo40⟩ := Kd.R_slice HO487.out; subst eo40) | ((with_reducible refine gate_callee (f := 11) rfl ?_); refine gl_ (some 50) Try.func11 #[.slice Ao38 t479.length co38, .slice Ao39 t482.length co39, .slice Ao40 t485.length co40] rfl ?_; (with_reducible refine (impl_PredMay.calls k _ _ t479 _ _ t482 _ _ t485 t488 t489 _ ?side1 ?side2 ?side3 ?side4 ?side5 ?side6 A23.out).mono ?_); (case side1 => repeat (first | exact (Kd.R_reads' HO481.out).2.2 | (with_reducible refine Kd.C_alloc ?_ _) | (with_reducible refine Kd.C_drewN ?_ _) | (with_reducible refine Kd.C_drew ?_))); (case side2 => exact (Kd.R_reads' HO481.out).2.1); (case side3 => repeat (first | exact (Kd.R_reads' HO484.out).2.2 | (with_reducible refine Kd.C_alloc ?_ _) | (with_reducible refine Kd.C_drewN ?_ _) | (with_reducible refine Kd.C_drew ?_))); (case side4 => exact (Kd.R_reads' HO484.out).2.1); (case side5 => repeat (first | exact (Kd.R_reads' HO487.out).2.2 | (with_reducible refine Kd.C_alloc ?_ _) | (with_reducible refine Kd.C_drewN ?_ _) | (with_reducible refine Kd.C_drew ?_))); (case side6 => exact (Kd.R_reads' HO487.out).2.1); rintro e w41 ⟨rfl, hb⟩; refine ⟨_, rfl, ?_⟩; replace HO470 := Aside0.mk (Kd.R_below (R_later HO470.out) hb); replace HO473 := Aside0.mk (Kd.R_below (R_later HO473.out) hb); replace HO476 := Aside0.mk (Kd.R_below (R_later HO476.out) hb); replace HO481 := Aside0.mk (Kd.R_below (R_later HO481.out) hb); replace HO484 := Aside0.mk (Kd.R_below (R_later HO484.out) hb); replace HO487 := Aside0.mk (Kd.R_below (R_later HO487.out) hb); replace HB := bst HB hb; (try clear hb)))
        (try simp only [Act.put, List.setIfInBounds_toArray, List.set_cons_zero, List.set_cons_succ])
        go_cut [60] (fun v60 wc => ∃ (kq : Nat) (x60_23 : Bool), v60 = .bool x60_23 ∧ Aside0 (laws_FnExactPredMay.j0 kq l0 l1 l2 t479 t482 t485 x60_23 = some true) ∧ Aside0 (kq ≤ k) ∧ Aside0 (Kd.R k57 57 wc w.heap.size (fun _ => True) (.slice Ao38 t479.length co38) t479) ∧ Aside0 (Kd.R k61 61 wc w.heap.size (fun _ => True) (.slice Ao39 t482.length co39) t482) ∧ Aside0 (Kd.R k66 66 wc w.heap.size (fun _ => True) (.slice Ao40 t485.length co40) t485) ∧ Aside0 (Below w.heap.size w wc))
        case first =>
          have H := HC24.out
          clear HC24
          by_cases c42 : (t488 != t477) = true
          · rw [if_pos c42] at H
            have c42b0 : (t488 != t477) = true := c42
            (try (have c42b1 : decide (t488 = t477) = false := by simpa using c42))
            (try (have c42b2 : (t488 == t477) = false := by simpa using c42))
            (try (have c42b3 : ¬ (t488 = t477) := by simpa using c42))
            clear c42
            (first | rw [c42b0] | rw [c42b1] | (simp only [i64_w, i32_w]; rw [c42b0]) | skip)
            have H' := Aside0.mk H
            clear H
            go_wp2
            go_meet
            case rel => exact ⟨_, (true), sr, H', ⟨by first | omega | exact Nat.le_refl _⟩, ⟨R_later (Kd.R_mono HO481.out (fun _ hk => trivial))⟩, ⟨R_later (Kd.R_mono HO484.out (fun _ hk => trivial))⟩, ⟨R_later (Kd.R_mono HO487.out (fun _ hk => trivial))⟩, ⟨below_later HB.out⟩⟩
          · rw [if_neg c42] at H
            have c42b0 : (t488 != t477) = false := by simpa using c42
            (try (have c42b1 : decide (t488 = t477) = true := by simpa using c42))
            (try (have c42b2 : (t488 == t477) = true := by simpa using c42))
            clear c42
            (first | rw [c42b0] | rw [c42b1] | (simp only [i64_w, i32_w]; rw [c42b0]) | skip)
            have H' := Aside0.mk H
            clear H
            go_wp2
            go_meet
            case rel => exact ⟨_, ((t489 != t478)), sr, H', ⟨by first | omega | exact Nat.le_refl _⟩, ⟨R_later (Kd.R_mono HO481.out (fun _ hk => trivial))⟩, ⟨R_later (Kd.R_mono HO484.out (fun _ hk => trivial))⟩, ⟨R_later (Kd.R_mono HO487.out (fun _ hk => trivial))⟩, ⟨below_later HB.out⟩⟩
        case rest =>
          clear HC24
          try clear c1
          try clear c2
          try clear c5
          try clear c5b0
          try clear c8
          try clear c8b0
          try clear c12
          try clear c12b0
          obtain ⟨kq, x60_23, rfl, HA, HJ23, HO_10, HO_11, HO_12, HB⟩ := hcut
          cases kq with
          | zero => exact absurd HA.out (by simp [laws_FnExactPredMay.j0])
          | succ kj23 =>
            have H := HA.out
            clear HA
            simp only [laws_FnExactPredMay.j0] at H
            by_cases c43 : x60_23 = true
            · subst c43
              have H1 : (some false) = some true := by rw [if_pos rfl] at H; exact H
              cases H1
            · replace c43 := Bool.eq_false_iff.mpr c43
              subst c43
              replace H := ifn Bool.false_ne_true H
              replace H := bnd H
              obtain ⟨t490, A44, H⟩ := H
              replace H := bnd H
              obtain ⟨t493, A45, H⟩ := H
              by_cases c46 : t493 = true
              · subst c46
                replace H := ifp rfl H
                replace H := bnd H
                obtain ⟨t494, A47, H⟩ := H
                replace H := bnd H
                obtain ⟨t497, A48, H⟩ := H
                by_cases c49 : t497 = true
                · subst c49
                  replace H := ifp rfl H
                  replace H := bnd H
                  obtain ⟨t498, A50, H⟩ := H
                  replace H := bnd H
                  obtain ⟨t501, A51, H⟩ := H
                  by_cases c52 : t501 = true
                  · subst c52
                    replace H := ifp rfl H
                    clear H
                    go_wp2_with (first | ((with_reducible refine gate_callee (f := 8) rfl ?_); refine gl_ (some 63) Try.func8 #[.slice A0 l0.length c0] rfl ?_; (with_reducible refine (laws_toColS.calls kj23 _ _ l0 t490 _ ?side1 ?side2 A44.out).mono ?_); (case side1 => repeat (first | exact (Kd.C_below HR0.out HB.out) | (with_reducible refine Kd.C_alloc ?_ _) | (with_reducible refine Kd.C_drewN ?_ _) | (with_reducible refine Kd.C_drew ?_))); (case side2 => exact HC0.out); rintro e w53 ⟨v491, rfl, ho0, hb⟩; refine ⟨_, rfl, ?_⟩; have HO492 := Aside0.mk (Kd.R_lower (Kd.R_new' ho0 (Kd.R_lt (R_later HO_10.out))) (below_size (below_later HB.out))); replace HO_10 := Aside0.mk (Kd.R_elder' (R_later HO_10.out) (Kd.R_base ho0) hb); replace HO_11 := Aside0.mk (Kd.R_below (R_later HO_11.out) hb); replace HO_12 := Aside0.mk (Kd.R_below (R_later HO_12.out) hb); replace HB := bst HB hb; (try clear hb); (try clear ho0); obtain ⟨Ao54, co54, eo54⟩ := Kd.R_slice HO492.out; subst eo54) | ((with_reducible refine gate_callee (f := 12) rfl ?_); refine gl_ (some 64) Try.func12 #[.slice Ao38 t479.length co38, .slice Ao54 t490.length co54] rfl ?_; (with_reducible refine (laws_eqColS.calls kj23 _ _ t479 _ _ t490 true _ ?side1 ?side2 ?side3 ?side4 A45.out).mono ?_); (case side1 => repeat (first | exact (Kd.R_reads' HO_10.out).2.2 | (with_reducible refine Kd.C_alloc ?_ _) | (with_reducible refine Kd.C_drewN ?_ _) | (with_reducible refine Kd.C_drew ?_))); (case side2 => exact (Kd.R_reads' HO_10.out).2.1); (case side3 => repeat (first | exact (Kd.R_reads' HO492.out).2.2 | (with_reducible refine Kd.C_alloc ?_ _) | (with_reducible refine Kd.C_drewN ?_ _) | (with_reducible refine Kd.C_drew ?_))); (case side4 => exact (Kd.R_reads' HO492.out).2.1); rintro e w55 ⟨rfl, hb⟩; refine ⟨_, rfl, ?_⟩; replace HO_10 := Aside0.mk (Kd.R_below (R_later HO_10.out) hb); replace HO_11 := Aside0.mk (Kd.R_below (R_later HO_11.out) hb); replace HO_12 := Aside0.mk (Kd.R_below (R_later HO_12.out) hb); replace HO492 := Aside0.mk (Kd.R_below (R_later HO492.out) hb); replace HB := bst HB hb; (try clear hb)) | ((with_reducible refine gate_callee (f := 9) rfl ?_); refine gl_ (some 68) Try.func9 #[.slice A1 l1.length c1] rfl ?_; (with_reducible refine (laws_toPredS.calls kj23 _ _ l1 t494 _ ?side1 ?side2 A47.out).mono ?_); (case side1 => repeat (first | exact (Kd.C_below HR1.out HB.out) | (with_reducible refine Kd.C_alloc ?_ _) | (with_reducible refine Kd.C_drewN ?_ _) | (with_reducible refine Kd.C_drew ?_))); (case side2 => exact HC1.out); rintro e w56 ⟨v495, rfl, ho0, hb⟩; refine ⟨_, rfl, ?_⟩; have HO496 := Aside0.mk (Kd.R_lower (Kd.R_new' ho0 (Kd.R_lt (R_later HO_11.out))) (below_size (below_later HB.out))); replace HO_10 := Aside0.mk (Kd.R_below (R_later HO_10.out) hb); replace HO_11 := Aside0.mk (Kd.R_elder' (R_later HO_11.out) (Kd.R_base ho0) hb); replace HO_12 := Aside0.mk (Kd.R_below (R_later HO_12.out) hb); replace HO492 := Aside0.mk (Kd.R_below (R_later HO492.out) hb); replace HB := bst HB hb; (try clear hb); (try clear ho0); obtain ⟨Ao57, co57, eo57⟩ := Kd.R_slice HO496.out; subst eo57) | ((with_reducible refine gate_callee (f := 13) rfl ?_); refine gl_ (some 69) Try.func13 #[.slice Ao39 t482.length co39, .slice Ao57 t494.length co57] rfl ?_; (with_reducible refine (laws_eqPredS.calls kj23 _ _ t482 _ _ t494 true _ ?side1 ?side2 ?side3 ?side4 A48.out).mono ?_); (case side1 => repeat (first | exact (Kd.R_reads' HO_11.out).2.2 | (with_reducible refine Kd.C_alloc ?_ _) | (with_reducible refine Kd.C_drewN ?_ _) | (with_reducible refine Kd.C_drew ?_))); (case side2 => exact (Kd.R_reads' HO_11.out).2.1); (case side3 => repeat (first | exact (Kd.R_reads' HO496.out).2.2 | (with_reducible refine Kd.C_alloc ?_ _) | (with_reducible refine Kd.C_drewN ?_ _) | (with_reducible refine Kd.C_drew ?_))); (case side4 => exact (Kd.R_reads' HO496.out).2.1); rintro e w58 ⟨rfl, hb⟩; refine ⟨_, rfl, ?_⟩; replace HO_10 := Aside0.mk (Kd.R_below (R_later HO_10.out) hb); replace HO_11 := Aside0.mk (Kd.R_below (R_later HO_11.out) hb); replace HO_12 := Aside0.mk (Kd.R_below (R_later HO_12.out) hb); replace HO492 := Aside0.mk (Kd.R_below (R_later HO492.out) hb); replace HO496 := Aside0.mk (Kd.R_below (R_later HO496.out) hb); replace HB := bst HB hb; (try clear hb)) | ((with_reducible refine gate_callee (f := 10) rfl ?_); refine gl_ (some 73) Try.func10 #[.slice A2 l2.length c2] rfl ?_; (with_reducible refine (laws_toKnownS.calls kj23 _ _ l2 t498 _ ?side1 ?side2 A50.out).mono ?_); (case side1 => repeat (first | exact (Kd.C_below HR2.out HB.out) | (with_reducible refine Kd.C_alloc ?_ _) | (with_reducible refine Kd.C_drewN ?_ _) | (with_reducible refine Kd.C_drew ?_))); (case side2 => exact HC2.out); rintro e w59 ⟨v499, rfl, ho0, hb⟩; refine ⟨_, rfl, ?_⟩; have HO500 := Aside0.mk (Kd.R_lower (Kd.R_new' ho0 (Kd.R_lt (R_later HO_12.out))) (below_size (below_later HB.out))); replace HO_10 := Aside0.mk (Kd.R_below (R_later HO_10.out) hb); replace HO_11 := Aside0.mk (Kd.R_below (R_later HO_11.out) hb); replace HO_12 := Aside0.mk (Kd.R_elder' (R_later HO_12.out) (Kd.R_base ho0) hb); replace HO492 := Aside0.mk (Kd.R_below (R_later HO492.out) hb); replace HO496 := Aside0.mk (Kd.R_below (R_later HO496.out) hb); replace HB := bst HB hb; (try clear hb); (try clear ho0); obtain ⟨Ao60, co60, eo60⟩ := Kd.R_slice HO500.out; subst eo60) | ((with_reducible refine gate_callee (f := 14) rfl ?_); refine gl_ (some 74) Try.func14 #[.slice Ao40 t485.length co40, .slice Ao60 t498.length co60] rfl ?_; (with_reducible refine (laws_eqKnownS.calls kj23 _ _ t485 _ _ t498 true _ ?side1 ?side2 ?side3 ?side4 A51.out).mono ?_); (case side1 => repeat (first | exact (Kd.R_reads' HO_12.out).2.2 | (with_reducible refine Kd.C_alloc ?_ _) | (with_reducible refine Kd.C_drewN ?_ _) | (with_reducible refine Kd.C_drew ?_))); (case side2 => exact (Kd.R_reads' HO_12.out).2.1); (case side3 => repeat (first | exact (Kd.R_reads' HO500.out).2.2 | (with_reducible refine Kd.C_alloc ?_ _) | (with_reducible refine Kd.C_drewN ?_ _) | (with_reducible refine Kd.C_drew ?_))); (case side4 => exact (Kd.R_reads' HO500.out).2.1); rintro e w61 ⟨rfl, hb⟩; refine ⟨_, rfl, ?_⟩; replace HO_10 := Aside0.mk (Kd.R_below (R_later HO_10.out) hb); replace HO_11 := Aside0.mk (Kd.R_below (R_later HO_11.out) hb); replace HO_12 := Aside0.mk (Kd.R_below (R_later HO_12.out) hb); replace HO492 := Aside0.mk (Kd.R_below (R_later HO492.out) hb); replace HO496 := Aside0.mk (Kd.R_below (R_later HO496.out) hb); replace HO500 := Aside0.mk (Kd.R_below (R_later HO500.out) hb); replace HB := bst HB hb; (try clear hb)))
                    go_ret
                    exact fin_ (below_later HB.out)
                  · replace c52 := Bool.eq_false_iff.mpr c52
                    subst c52
                    have H1 : (some false) = some true := by rw [if_neg (show ¬ (false = true) by decide)] at H; exact H
                    cases H1
                · replace c49 := Bool.eq_false_iff.mpr c49
                  subst c49
                  have H1 : (some false) = some true := by rw [if_neg (show ¬ (false = true) by decide)] at H; exact H
                  cases H1
              · replace c46 := Bool.eq_false_iff.mpr c46
                subst c46
                have H1 : (some false) = some true := by rw [if_neg (show ¬ (false = true) by decide)] at H; exact H
                cases H1
end Go.Proofs.Ytlioghbcomdghaa.PFnExactPredMay
