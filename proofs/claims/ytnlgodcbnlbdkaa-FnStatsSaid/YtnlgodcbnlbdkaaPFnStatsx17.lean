/- The machine's side of FnStats: each Go function, and what its call comes to. No condition. -/
import Derived.Test.YtnlgodcbnlbdkaaPFnStatsx0
import Derived.Test.YtnlgodcbnlbdkaaPFnStatsx10
import Derived.Test.YtnlgodcbnlbdkaaPFnStatsx16
namespace Go.Proofs.Ytnlgodcbnlbdkaa.PFnStats
open Go.RowKit Go.Proofs.YtnlgodcbnlbdkaaW.PrintWords Go.Proofs.YtnlgodcbnlbdkaaW.PrintLast Go.Proofs.YtnlgodcbnlbdkaaW.PrintMore Go.Proofs.YtnlgodcbnlbdkaaW.PrintMore2
attribute [local go_sem] max2_int min2_int max_two min_two max_three min_three max_four min_four
set_option linter.unusedVariables false
set_option linter.unusedSimpArgs false
set_option maxHeartbeats 8000000
set_option maxRecDepth 100000

/-! ### impl_tree_find: function 44 -/
mutual
def impl_tree_find.j0 : Nat → Int → Int → Bool → List (S76) → List Int → Option (Int)
  | 0, _, _, _, _, _ => none
  | k + 1, x1, x2, x27, x1000, x1001 => if x27 = true then (some (-1)) else (if 0 ≤ x1 then (if x1 < (x1000.length : Int) then (impl_tree_find.l0 k x2 (wrap64 (x1 + 1)) ((rd_T76 x1000 x1).f4) 0 x1000 x1001) else (none)) else (none))
def impl_tree_find.l0 : Nat → Int → Int → Int → Int → List (S76) → List Int → Option (Int)
  | 0, _, _, _, _, _, _ => none
  | k + 1, x2, x7, x37, x38, x1000, x1001 => if x38 < x37 then (if 0 ≤ x7 then (if x7 < (x1000.length : Int) then (if ((rd_T76 x1000 x7).f1) = x2 then (some x7) else (if x7 < (x1001.length : Int) then (impl_tree_find.l0 k x2 (rd x1001 x7) x37 (wrap64 (x38 + 1)) x1000 x1001) else (none))) else (none)) else (none)) else (some (-1))
end
def impl_tree_find.f (k : Nat) (s0_0 : List (S76)) (s0_1 : List Int) (a1 : Int) (a2 : Int) : Option (Int) := (impl_within.f a1 0 (wrap64 ((s0_0.length : Int) - 1))).bind fun t709 => (if t709 = true then (if 0 ≤ a1 then (if a1 < (s0_0.length : Int) then (impl_tree_find.j0 k a1 a2 (((rd_T76 s0_0 a1).f0) != 12) s0_0 s0_1) else (none)) else (none)) else (impl_tree_find.j0 k a1 a2 true s0_0 s0_1))
theorem impl_tree_find.calls {k g : Nat} {s0_0 : List (S76)} {s0_1 : List Int} {a1 a2 r : Int} {w0 w : World} (hI : IsS83 w0 w g s0_0 s0_1) (hB : Below w0.heap.size w0 w) (h : impl_tree_find.f k s0_0 s0_1 a1 a2 = some r) :
    Calls Try.prog 44 #[.pointer (some ⟨g, 0, none⟩), .int .i64 a1, .int .i64 a2] w fun e w' => e = .returned (.int .i64 r) ∧ IsS83 w0 w' g s0_0 s0_1 ∧ Below w0.heap.size w0 w' ∧ KeepBut w w' g none := by
 have HI0 := am hI
 have HGE0 := am (IsS83.ge hI)
 have HK := am (KeepBut.refl w g none)
 have HL := am hB.size
 clear hI
 have HW0 := am hB.size
 have HB := am hB
 clear hB
 have H := h; clear h; unfold impl_tree_find.f at H
 have HC4 := am H
 clear H
 go_enter Try.func44, Try.ntmps44
 go_upto_region 1 with (fail)
 go_cut [27] (fun v27 wc => ∃ (kq : Nat) (x27_3 : Bool), v27 = .bool x27_3 ∧ Aside0 (impl_tree_find.j0 kq a1 a2 x27_3 s0_0 s0_1 = some r) ∧ Aside0 (kq ≤ k) ∧ Aside0 (IsS83 w0 wc g s0_0 s0_1) ∧ Aside0 (KeepBut w wc g none) ∧ Aside0 (Below w0.heap.size w0 wc))
 case first =>
  have H := HC4.out
  clear HC4
  replace H := bnd H; obtain ⟨t709, A5, H⟩ := H
  replace H := ibt H; obtain ⟨rfl, H⟩ | ⟨rfl, H⟩ := H
  rotate_left
  · have H' := am H; clear H
    obtain ⟨ASz10_0, cSz10_0, ASz10_1, cSz10_1, HGz10, hgz10, HSz10_0, HSz10_1⟩ := HI0.out
    have hcz10_0 := cellS83_0 HGz10
    have hcz10_1 := cellS83_1 HGz10
    clear HGz10 hgz10
    go_wp2_with (first | ((with_reducible refine gc 31 rfl ?_); refine gc1 (some 15) Try.func31 rfl (impl_within.calls A5.out) ?_; rintro w' ⟨nd, rfl⟩))
    go_meet
    case rel => exact ⟨_, (true), sr, H', ⟨by first | omega | exact Nat.le_refl _⟩, ⟨IsS83.l HI0⟩, ⟨pL HK⟩, ⟨bL HB⟩⟩
  replace H := ifd H; obtain ⟨c7b0, H⟩ := H
  (first | rw [c7b0] | (simp only [i64_w, i32_w]; rw [c7b0]) | skip)
  replace H := ifd H; obtain ⟨c8b0, H⟩ := H
  have H' := am H; clear H
  obtain ⟨ASz9_0, cSz9_0, ASz9_1, cSz9_1, HGz9, hgz9, HSz9_0, HSz9_1⟩ := HI0.out
  have hcz9_0 := cellS83_0 HGz9
  have hcz9_1 := cellS83_1 HGz9
  clear HGz9 hgz9
  go_wp2_with (first | ((with_reducible refine gc 31 rfl ?_); refine gc1 (some 15) Try.func31 rfl (impl_within.calls A5.out) ?_; rintro w' ⟨nd, rfl⟩; have p710 : 0 ≤ (a1 : Int) := dcd; have q710 : a1 < (s0_0.length : Int) := dcd; obtain ⟨ad710, e710, hx710_0, hx710_1, hx710_2, hx710_3, hx710_4⟩ := at_T76 HSz9_0 a1 p710 q710; cases e710; replace hx710_0 := pw_cell_below HB.out hx710_0; replace hx710_1 := pw_cell_below HB.out hx710_1; replace hx710_2 := pw_cell_below HB.out hx710_2; replace hx710_3 := pw_cell_below HB.out hx710_3; replace hx710_4 := pw_cell_below HB.out hx710_4; replace p710 := eq_true p710; replace q710 := eq_true q710))
  go_meet
  case rel => exact ⟨_, ((((rd_T76 s0_0 a1).f0) != 12)), sr, H', ⟨by first | omega | exact Nat.le_refl _⟩, ⟨IsS83.l HI0⟩, ⟨pL HK⟩, ⟨bL HB⟩⟩
 clear HC4
 obtain ⟨kq, x27_3, rfl, HA, HJ3, HI0, HK, HB⟩ := hcut
 cases kq with
 | zero => exact absurd HA.out (by simp [impl_tree_find.j0])
 | succ kj3 => ?_
 have H := HA.out
 clear HA
 simp only [impl_tree_find.j0] at H
 replace H := ibt H; obtain ⟨rfl, H⟩ | ⟨rfl, H⟩ := H
 · obtain rfl := Option.some.inj H
   go_wp2
   go_ret
   exact fin_ ⟨IsS83.l HI0, bL HB, pL HK⟩
 replace H := if_dd H; obtain ⟨c12b0, c13b0, H⟩ := H
 have H' := am H; clear H
 obtain ⟨ASz14_0, cSz14_0, ASz14_1, cSz14_1, HGz14, hgz14, HSz14_0, HSz14_1⟩ := HI0.out
 have hcz14_0 := cellS83_0 HGz14
 have hcz14_1 := cellS83_1 HGz14
 clear HGz14 hgz14
 have p711 : 0 ≤ (a1 : Int) := dcd
 have q711 : a1 < (s0_0.length : Int) := dcd
 obtain ⟨ad711, e711, hx711_0, hx711_1, hx711_2, hx711_3, hx711_4⟩ := at_T76 HSz14_0 a1 p711 q711
 cases e711
 replace hx711_0 := pw_cell_below HB.out hx711_0
 replace hx711_1 := pw_cell_below HB.out hx711_1
 replace hx711_2 := pw_cell_below HB.out hx711_2
 replace hx711_3 := pw_cell_below HB.out hx711_3
 replace hx711_4 := pw_cell_below HB.out hx711_4
 replace p711 := eq_true p711
 replace q711 := eq_true q711
 go_wp2
 go_loopg [7, 38] kj3 (fun kq v7 v38 w' => ∃ (x7_2 : Int) (x38_2 : Int), v7 = .int .i64 x7_2 ∧ v38 = .int .i64 x38_2 ∧ Aside0 (impl_tree_find.l0 kq a2 x7_2 ((rd_T76 s0_0 a1).f4) x38_2 s0_0 s0_1 = some r) ∧ Aside0 (kq ≤ kj3) ∧ Aside0 (IsS83 w0 w' g s0_0 s0_1) ∧ Aside0 (KeepBut w w' g none) ∧ Aside0 (Below w0.heap.size w0 w'))
 case atStart => exact ⟨(wrap64 (a1 + 1)), (0), sr, sr, H', ⟨Nat.le_refl _⟩, ⟨IsS83.l HI0⟩, ⟨pL HK⟩, ⟨bL HB⟩⟩
 clear H'
 try clear c11 c12b0 c13b0 hcz14_0 hcz14_1 hx711_0 hx711_1 hx711_2 hx711_3 hx711_4 p711 q711
 obtain ⟨x7_2, x38_2, rfl, rfl, HA, HK2, HI0, HK, HB⟩ := hrel
 cases gk with
 | zero => exact absurd HA.out (by simp [impl_tree_find.l0])
 | succ k2 => ?_
 have H := HA.out
 clear HA
 simp only [impl_tree_find.l0] at H
 replace H := idc H; obtain ⟨c15b0, H⟩ | ⟨c15b0, H⟩ := H
 rotate_left
 · obtain rfl := Option.some.inj H
   go_wp2
   go_ret
   exact fin_ ⟨IsS83.l HI0, bL HB, pL HK⟩
 replace H := if_dd H; obtain ⟨c16b0, c17b0, H⟩ := H
 replace H := ieq H; obtain ⟨c18b0, c18b1, H⟩ | ⟨c18, c18b0, c18b1, H⟩ := H
 · obtain rfl := Option.some.inj H
   obtain ⟨ASz19_0, cSz19_0, ASz19_1, cSz19_1, HGz19, hgz19, HSz19_0, HSz19_1⟩ := HI0.out
   have hcz19_0 := cellS83_0 HGz19
   have hcz19_1 := cellS83_1 HGz19
   clear HGz19 hgz19
   have p712 : 0 ≤ (x7_2 : Int) := dcd
   have q712 : x7_2 < (s0_0.length : Int) := dcd
   obtain ⟨ad712, e712, hx712_0, hx712_1, hx712_2, hx712_3, hx712_4⟩ := at_T76 HSz19_0 x7_2 p712 q712
   cases e712
   replace hx712_0 := pw_cell_below HB.out hx712_0
   replace hx712_1 := pw_cell_below HB.out hx712_1
   replace hx712_2 := pw_cell_below HB.out hx712_2
   replace hx712_3 := pw_cell_below HB.out hx712_3
   replace hx712_4 := pw_cell_below HB.out hx712_4
   replace p712 := eq_true p712
   replace q712 := eq_true q712
   go_wp2
   go_ret
   exact fin_ ⟨IsS83.l HI0, bL HB, pL HK⟩
 replace H := ifd H; obtain ⟨c20b0, H⟩ := H
 have H' := am H; clear H
 obtain ⟨ASz21_0, cSz21_0, ASz21_1, cSz21_1, HGz21, hgz21, HSz21_0, HSz21_1⟩ := HI0.out
 have hcz21_0 := cellS83_0 HGz21
 have hcz21_1 := cellS83_1 HGz21
 clear HGz21 hgz21
 have p712 : 0 ≤ (x7_2 : Int) := dcd
 have q712 : x7_2 < (s0_0.length : Int) := dcd
 obtain ⟨ad712, e712, hx712_0, hx712_1, hx712_2, hx712_3, hx712_4⟩ := at_T76 HSz21_0 x7_2 p712 q712
 cases e712
 replace hx712_0 := pw_cell_below HB.out hx712_0
 replace hx712_1 := pw_cell_below HB.out hx712_1
 replace hx712_2 := pw_cell_below HB.out hx712_2
 replace hx712_3 := pw_cell_below HB.out hx712_3
 replace hx712_4 := pw_cell_below HB.out hx712_4
 replace p712 := eq_true p712
 replace q712 := eq_true q712
 have p713 : 0 ≤ (x7_2 : Int) := dcd
 have q713 : x7_2 < (s0_1.length : Int) := dcd
 obtain ⟨ad713, e713, hx713_0⟩ := Kd.at_int HSz21_1 x7_2 p713 q713
 cases e713
 replace hx713_0 := pw_cell_below HB.out hx713_0
 replace p713 := eq_true p713
 replace q713 := eq_true q713
 go_wp2
 go_roundg k2
 case measure => have := HJ3.out; have := HK2.out; omega
 case rel => exact ⟨(rd s0_1 x7_2), (wrap64 (x38_2 + 1)), sr, sr, H', ⟨by have := HJ3.out; have := HK2.out; omega⟩, ⟨IsS83.l HI0⟩, ⟨pL HK⟩, ⟨bL HB⟩⟩
/-! ### impl_tree_num: function 43 -/
def impl_tree_num.f (k : Nat) (s0_0 : List (S76)) (s0_1 : List Int) (a1 : Int) (a2 : Int) : Option (Int × Bool) := (impl_tree_find.f k s0_0 s0_1 a1 a2).bind fun t714 => (if t714 < 0 then (some (0, false)) else (if 0 ≤ t714 then (if t714 < (s0_0.length : Int) then (if ((rd_T76 s0_0 t714).f0) = 5 then (some ((rd_T76 s0_0 t714).f2, true)) else (if ((rd_T76 s0_0 t714).f0) = 6 then (some ((rd_T76 s0_0 t714).f2, true)) else (some (0, false)))) else (none)) else (none)))
theorem impl_tree_num.calls {k g : Nat} {s0_0 : List (S76)} {s0_1 : List Int} {a1 a2 r1 : Int} {r2 : Bool} {w0 w : World} (hI : IsS83 w0 w g s0_0 s0_1) (hB : Below w0.heap.size w0 w) (h : impl_tree_num.f k s0_0 s0_1 a1 a2 = some (r1, r2)) :
    Calls Try.prog 43 #[.pointer (some ⟨g, 0, none⟩), .int .i64 a1, .int .i64 a2] w fun e w' => e = .returned (.tuple #[.int .i64 r1, .bool r2]) ∧ IsS83 w0 w' g s0_0 s0_1 ∧ Below w0.heap.size w0 w' ∧ KeepBut w w' g none := by
 have HI0 := am hI
 have HGE0 := am (IsS83.ge hI)
 have HK := am (KeepBut.refl w g none)
 have HL := am hB.size
 clear hI
 have HW0 := am hB.size
 have HB := am hB
 clear hB
 have H := h; clear h; unfold impl_tree_num.f at H
 replace H := bnd H; obtain ⟨t714, A4, H⟩ := H
 replace H := idc H; obtain ⟨c5b0, H⟩ | ⟨c5b0, H⟩ := H
 · replace H := sj2 H; obtain ⟨rfl, rfl⟩ := H
   go_enter Try.func43, Try.ntmps43
   go_wp2_with (first | ((with_reducible refine gc 44 rfl ?_); refine gcs (some 12) Try.func44 rfl (impl_tree_find.calls (IsS83.l HI0) (bL HB) A4.out) HK ?_; clear HK HB HI0; intro w6 HI0 HB HK hk; clear hk))
   go_ret2
   exact fin_ ⟨IsS83.l HI0, bL HB, pL HK⟩
 replace H := if_dd H; obtain ⟨c7b0, c8b0, H⟩ := H
 replace H := ieq H; obtain ⟨c9b0, c9b1, H⟩ | ⟨c9, c9b0, c9b1, H⟩ := H
 · replace H := sj2 H; obtain ⟨rfl, rfl⟩ := H
   go_enter Try.func43, Try.ntmps43
   go_wp2_with (first | ((with_reducible refine gc 44 rfl ?_); refine gc1 (some 12) Try.func44 rfl (impl_tree_find.calls (IsS83.l HI0) (bL HB) A4.out) ?_; rintro w10 ⟨hi, hb, hk⟩; replace HK := ktr HK hk; replace HB := am hb; replace HI0 := am hi; clear hb hk hi; obtain ⟨ASz11_0, cSz11_0, ASz11_1, cSz11_1, HGz11, hgz11, HSz11_0, HSz11_1⟩ := HI0.out; have hcz11_0 := cellS83_0 HGz11; have hcz11_1 := cellS83_1 HGz11; clear HGz11 hgz11; have p715 : 0 ≤ (t714 : Int) := dcd; have q715 : t714 < (s0_0.length : Int) := dcd; obtain ⟨ad715, e715, hx715_0, hx715_1, hx715_2, hx715_3, hx715_4⟩ := at_T76 HSz11_0 t714 p715 q715; cases e715; replace hx715_0 := pw_cell_below HB.out hx715_0; replace hx715_1 := pw_cell_below HB.out hx715_1; replace hx715_2 := pw_cell_below HB.out hx715_2; replace hx715_3 := pw_cell_below HB.out hx715_3; replace hx715_4 := pw_cell_below HB.out hx715_4; replace p715 := eq_true p715; replace q715 := eq_true q715; have p716 : 0 ≤ (t714 : Int) := dcd; have q716 : t714 < (s0_0.length : Int) := dcd; obtain ⟨ad716, e716, hx716_0, hx716_1, hx716_2, hx716_3, hx716_4⟩ := at_T76 HSz11_0 t714 p716 q716; obtain rfl : ad715 = ad716 := (by injection e716); replace hx716_0 := pw_cell_below HB.out hx716_0; replace hx716_1 := pw_cell_below HB.out hx716_1; replace hx716_2 := pw_cell_below HB.out hx716_2; replace hx716_3 := pw_cell_below HB.out hx716_3; replace hx716_4 := pw_cell_below HB.out hx716_4; replace p716 := eq_true p716; replace q716 := eq_true q716))
   go_ret2
   exact fin_ ⟨IsS83.l HI0, bL HB, pL HK⟩
 replace H := ieq H; obtain ⟨c12b0, c12b1, H⟩ | ⟨c12, c12b0, c12b1, H⟩ := H
 rotate_left
 · replace H := sj2 H; obtain ⟨rfl, rfl⟩ := H
   go_enter Try.func43, Try.ntmps43
   go_wp2_with (first | ((with_reducible refine gc 44 rfl ?_); refine gc1 (some 12) Try.func44 rfl (impl_tree_find.calls (IsS83.l HI0) (bL HB) A4.out) ?_; rintro w15 ⟨hi, hb, hk⟩; replace HK := ktr HK hk; replace HB := am hb; replace HI0 := am hi; clear hb hk hi; obtain ⟨ASz16_0, cSz16_0, ASz16_1, cSz16_1, HGz16, hgz16, HSz16_0, HSz16_1⟩ := HI0.out; have hcz16_0 := cellS83_0 HGz16; have hcz16_1 := cellS83_1 HGz16; clear HGz16 hgz16; have p715 : 0 ≤ (t714 : Int) := dcd; have q715 : t714 < (s0_0.length : Int) := dcd; obtain ⟨ad715, e715, hx715_0, hx715_1, hx715_2, hx715_3, hx715_4⟩ := at_T76 HSz16_0 t714 p715 q715; cases e715; replace hx715_0 := pw_cell_below HB.out hx715_0; replace hx715_1 := pw_cell_below HB.out hx715_1; replace hx715_2 := pw_cell_below HB.out hx715_2; replace hx715_3 := pw_cell_below HB.out hx715_3; replace hx715_4 := pw_cell_below HB.out hx715_4; replace p715 := eq_true p715; replace q715 := eq_true q715; have p717 : 0 ≤ (t714 : Int) := dcd; have q717 : t714 < (s0_0.length : Int) := dcd; obtain ⟨ad717, e717, hx717_0, hx717_1, hx717_2, hx717_3, hx717_4⟩ := at_T76 HSz16_0 t714 p717 q717; obtain rfl : ad715 = ad717 := (by injection e717); replace hx717_0 := pw_cell_below HB.out hx717_0; replace hx717_1 := pw_cell_below HB.out hx717_1; replace hx717_2 := pw_cell_below HB.out hx717_2; replace hx717_3 := pw_cell_below HB.out hx717_3; replace hx717_4 := pw_cell_below HB.out hx717_4; replace p717 := eq_true p717; replace q717 := eq_true q717))
   go_ret2
   exact fin_ ⟨IsS83.l HI0, bL HB, pL HK⟩
 replace H := sj2 H; obtain ⟨rfl, rfl⟩ := H
 go_enter Try.func43, Try.ntmps43
 go_wp2_with (first | ((with_reducible refine gc 44 rfl ?_); refine gc1 (some 12) Try.func44 rfl (impl_tree_find.calls (IsS83.l HI0) (bL HB) A4.out) ?_; rintro w13 ⟨hi, hb, hk⟩; replace HK := ktr HK hk; replace HB := am hb; replace HI0 := am hi; clear hb hk hi; obtain ⟨ASz14_0, cSz14_0, ASz14_1, cSz14_1, HGz14, hgz14, HSz14_0, HSz14_1⟩ := HI0.out; have hcz14_0 := cellS83_0 HGz14; have hcz14_1 := cellS83_1 HGz14; clear HGz14 hgz14; have p715 : 0 ≤ (t714 : Int) := dcd; have q715 : t714 < (s0_0.length : Int) := dcd; obtain ⟨ad715, e715, hx715_0, hx715_1, hx715_2, hx715_3, hx715_4⟩ := at_T76 HSz14_0 t714 p715 q715; cases e715; replace hx715_0 := pw_cell_below HB.out hx715_0; replace hx715_1 := pw_cell_below HB.out hx715_1; replace hx715_2 := pw_cell_below HB.out hx715_2; replace hx715_3 := pw_cell_below HB.out hx715_3; replace hx715_4 := pw_cell_below HB.out hx715_4; replace p715 := eq_true p715; replace q715 := eq_true q715; have p717 : 0 ≤ (t714 : Int) := dcd; have q717 : t714 < (s0_0.length : Int) := dcd; obtain ⟨ad717, e717, hx717_0, hx717_1, hx717_2, hx717_3, hx717_4⟩ := at_T76 HSz14_0 t714 p717 q717; obtain rfl : ad715 = ad717 := (by injection e717); replace hx717_0 := pw_cell_below HB.out hx717_0; replace hx717_1 := pw_cell_below HB.out hx717_1; replace hx717_2 := pw_cell_below HB.out hx717_2; replace hx717_3 := pw_cell_below HB.out hx717_3; replace hx717_4 := pw_cell_below HB.out hx717_4; replace p717 := eq_true p717; replace q717 := eq_true q717; have p718 : 0 ≤ (t714 : Int) := dcd; have q718 : t714 < (s0_0.length : Int) := dcd; obtain ⟨ad718, e718, hx718_0, hx718_1, hx718_2, hx718_3, hx718_4⟩ := at_T76 HSz14_0 t714 p718 q718; obtain rfl : ad715 = ad718 := (by injection e718); replace hx718_0 := pw_cell_below HB.out hx718_0; replace hx718_1 := pw_cell_below HB.out hx718_1; replace hx718_2 := pw_cell_below HB.out hx718_2; replace hx718_3 := pw_cell_below HB.out hx718_3; replace hx718_4 := pw_cell_below HB.out hx718_4; replace p718 := eq_true p718; replace q718 := eq_true q718))
 go_ret2
 exact fin_ ⟨IsS83.l HI0, bL HB, pL HK⟩
/-! ### impl_tree_part: function 45 -/
def impl_tree_part.f (k : Nat) (s0_0 : List (S76)) (s0_1 : List Int) (a1 : Int) (a2 : Int) (a3 : Int) : Option (Int × Int × Int × ByteArray × Int × Bool) := (impl_tree_find.f k s0_0 s0_1 a1 a2).bind fun t720 => (if t720 < 0 then (some (0, 0, 0, (⟨#[]⟩ : ByteArray), 0, false)) else (if 0 ≤ t720 then (if t720 < (s0_0.length : Int) then (if ((rd_T76 s0_0 t720).f0) = a3 then (some ((rd_T76 s0_0 t720).f0, (rd_T76 s0_0 t720).f1, (rd_T76 s0_0 t720).f2, (rd_T76 s0_0 t720).f3, (rd_T76 s0_0 t720).f4, true)) else (some (0, 0, 0, (⟨#[]⟩ : ByteArray), 0, false))) else (none)) else (none)))
theorem impl_tree_part.calls {k g : Nat} {s0_0 : List (S76)} {s0_1 : List Int} {a1 a2 a3 r1 r2 r3 : Int} {r4 : ByteArray} {r5 : Int} {r6 : Bool} {w0 w : World} (hI : IsS83 w0 w g s0_0 s0_1) (hB : Below w0.heap.size w0 w) (h : impl_tree_part.f k s0_0 s0_1 a1 a2 a3 = some (r1, r2, r3, r4, r5, r6)) :
    Calls Try.prog 45 #[.pointer (some ⟨g, 0, none⟩), .int .i64 a1, .int .i64 a2, .int .i64 a3] w fun e w' => e = .returned (.tuple #[.agg #[.int .i64 r1, .int .i64 r2, .int .i64 r3, .string r4, .int .i64 r5], .bool r6]) ∧ IsS83 w0 w' g s0_0 s0_1 ∧ Below w0.heap.size w0 w' ∧ KeepBut w w' g none := by
 have hu76 := Try.underlying76
 have HI0 := am hI
 have HGE0 := am (IsS83.ge hI)
 have HK := am (KeepBut.refl w g none)
 have HL := am hB.size
 clear hI
 have HW0 := am hB.size
 have HB := am hB
 clear hB
 have H := h; clear h; unfold impl_tree_part.f at H
 replace H := bnd H; obtain ⟨t720, A5, H⟩ := H
 replace H := idc H; obtain ⟨c6b0, H⟩ | ⟨c6b0, H⟩ := H
 · replace H := sj6 H; obtain ⟨rfl, rfl, rfl, rfl, rfl, rfl⟩ := H
   go_enter Try.func45, Try.ntmps45
   go_wp2_with (first | ((with_reducible refine gd 8 rfl ?_); refine IsS83.bx 8 rfl #[.int .i64 0, .int .i64 0, .int .i64 0, .string ⟨#[]⟩, .int .i64 0] 76 HI0 HK HB HW0 ?_; clear HI0 HK HB; intro gb719 w7 BK719 GW719 GE719 NB0_719 NB719_0 HI0 HK HB) | ((with_reducible refine gc 44 rfl ?_); refine gcs (some 14) Try.func44 rfl (impl_tree_find.calls (IsS83.l HI0) (bL HB) A5.out) HK ?_; clear HK HB HI0; intro w8 HI0 HB HK hk; replace BK719 := kbo (.cells #[.int .i64 0, .int .i64 0, .int .i64 0, .string ⟨#[]⟩, .int .i64 0] 76 (0, 0)) hk BK719 NB719_0; clear hk; obtain ⟨hnb9, hnc9⟩ := nbo NB719_0; obtain ⟨_, _, _, _, _, _, _, _, _, _⟩ := cl5 BK719))
   refine bodyPost_ret (results_ct rfl _ _ gb719 76 #[.int .i64 0, .int .i64 0, .int .i64 0, .string ⟨#[]⟩, .int .i64 0] (0, 0) _ rfl (kL BK719) Try.underlying76 rfl (by kernel_rfl)) rfl ?_
   exact fin_ ⟨IsS83.l HI0, bL HB, pL HK⟩
 replace H := if_dd H; obtain ⟨c11b0, c12b0, H⟩ := H
 replace H := ieq H; obtain ⟨c13b0, c13b1, H⟩ | ⟨c13, c13b0, c13b1, H⟩ := H
 rotate_left
 · replace H := sj6 H; obtain ⟨rfl, rfl, rfl, rfl, rfl, rfl⟩ := H
   go_enter Try.func45, Try.ntmps45
   go_wp2_with (first | ((with_reducible refine gd 8 rfl ?_); refine IsS83.bx 8 rfl #[.int .i64 0, .int .i64 0, .int .i64 0, .string ⟨#[]⟩, .int .i64 0] 76 HI0 HK HB HW0 ?_; clear HI0 HK HB; intro gb719 w19 BK719 GW719 GE719 NB0_719 NB719_0 HI0 HK HB) | ((with_reducible refine gc 44 rfl ?_); refine gc1 (some 14) Try.func44 rfl (impl_tree_find.calls (IsS83.l HI0) (bL HB) A5.out) ?_; rintro w20 ⟨hi, hb, hk⟩; replace BK719 := kbo (.cells #[.int .i64 0, .int .i64 0, .int .i64 0, .string ⟨#[]⟩, .int .i64 0] 76 (0, 0)) hk BK719 NB719_0; replace HK := ktr HK hk; replace HB := am hb; replace HI0 := am hi; clear hb hk hi; obtain ⟨ASz21_0, cSz21_0, ASz21_1, cSz21_1, HGz21, hgz21, HSz21_0, HSz21_1⟩ := HI0.out; have hcz21_0 := cellS83_0 HGz21; have hcz21_1 := cellS83_1 HGz21; clear HGz21 hgz21; have p721 : 0 ≤ (t720 : Int) := dcd; have q721 : t720 < (s0_0.length : Int) := dcd; obtain ⟨ad721, e721, hx721_0, hx721_1, hx721_2, hx721_3, hx721_4⟩ := at_T76 HSz21_0 t720 p721 q721; cases e721; replace hx721_0 := pw_cell_below HB.out hx721_0; replace hx721_1 := pw_cell_below HB.out hx721_1; replace hx721_2 := pw_cell_below HB.out hx721_2; replace hx721_3 := pw_cell_below HB.out hx721_3; replace hx721_4 := pw_cell_below HB.out hx721_4; replace p721 := eq_true p721; replace q721 := eq_true q721; obtain ⟨hnb22, hnc22⟩ := nbo NB719_0; obtain ⟨_, _, _, _, _, _, _, _, _, _⟩ := cl5 BK719))
   refine bodyPost_ret (results_ct rfl _ _ gb719 76 #[.int .i64 0, .int .i64 0, .int .i64 0, .string ⟨#[]⟩, .int .i64 0] (0, 0) _ rfl (kL BK719) Try.underlying76 rfl (by kernel_rfl)) rfl ?_
   exact fin_ ⟨IsS83.l HI0, bL HB, pL HK⟩
 replace H := sj6 H; obtain ⟨rfl, rfl, rfl, rfl, rfl, rfl⟩ := H
 go_enter Try.func45, Try.ntmps45
 go_wp2_with (first | ((with_reducible refine gd 8 rfl ?_); refine IsS83.bx 8 rfl #[.int .i64 0, .int .i64 0, .int .i64 0, .string ⟨#[]⟩, .int .i64 0] 76 HI0 HK HB HW0 ?_; clear HI0 HK HB; intro gb719 w14 BK719 GW719 GE719 NB0_719 NB719_0 HI0 HK HB) | ((with_reducible refine gc 44 rfl ?_); refine gc1 (some 14) Try.func44 rfl (impl_tree_find.calls (IsS83.l HI0) (bL HB) A5.out) ?_; rintro w15 ⟨hi, hb, hk⟩; replace BK719 := kbo (.cells #[.int .i64 0, .int .i64 0, .int .i64 0, .string ⟨#[]⟩, .int .i64 0] 76 (0, 0)) hk BK719 NB719_0; replace HK := ktr HK hk; replace HB := am hb; replace HI0 := am hi; clear hb hk hi; obtain ⟨ASz16_0, cSz16_0, ASz16_1, cSz16_1, HGz16, hgz16, HSz16_0, HSz16_1⟩ := HI0.out; have hcz16_0 := cellS83_0 HGz16; have hcz16_1 := cellS83_1 HGz16; clear HGz16 hgz16; have p721 : 0 ≤ (t720 : Int) := dcd; have q721 : t720 < (s0_0.length : Int) := dcd; obtain ⟨ad721, e721, hx721_0, hx721_1, hx721_2, hx721_3, hx721_4⟩ := at_T76 HSz16_0 t720 p721 q721; cases e721; replace hx721_0 := pw_cell_below HB.out hx721_0; replace hx721_1 := pw_cell_below HB.out hx721_1; replace hx721_2 := pw_cell_below HB.out hx721_2; replace hx721_3 := pw_cell_below HB.out hx721_3; replace hx721_4 := pw_cell_below HB.out hx721_4; replace p721 := eq_true p721; replace q721 := eq_true q721; have p722 : 0 ≤ (t720 : Int) := dcd; have q722 : t720 < (s0_0.length : Int) := dcd; obtain ⟨ad722, e722, hx722_0, hx722_1, hx722_2, hx722_3, hx722_4⟩ := at_T76 HSz16_0 t720 p722 q722; obtain rfl : ad721 = ad722 := (by injection e722); replace hx722_0 := pw_cell_below HB.out hx722_0; replace hx722_1 := pw_cell_below HB.out hx722_1; replace hx722_2 := pw_cell_below HB.out hx722_2; replace hx722_3 := pw_cell_below HB.out hx722_3; replace hx722_4 := pw_cell_below HB.out hx722_4; replace p722 := eq_true p722; replace q722 := eq_true q722; obtain ⟨hnb17, hnc17⟩ := nbo NB719_0; obtain ⟨_, _, _, _, _, _, _, _, _, _⟩ := cl5 BK719))
 refine bodyPost_ret (results_ct rfl _ _ gb719 76 #[.int .i64 ((rd_T76 s0_0 t720).f0), .int .i64 ((rd_T76 s0_0 t720).f1), .int .i64 ((rd_T76 s0_0 t720).f2), .string ((rd_T76 s0_0 t720).f3), .int .i64 ((rd_T76 s0_0 t720).f4)] (0, 0) _ rfl (kL BK719) Try.underlying76 rfl (by kernel_rfl)) rfl ?_
 exact fin_ ⟨IsS83.l HI0, bL HB, pL HK⟩
/-! ### impl_BitsSize: function 85 -/
def impl_BitsSize.f (a0 : Int) (a1 : Int) : Option (Int) := (impl_within.f a0 0 2000).bind fun t723 => (if t723 = true then ((impl_within.f a1 0 62).bind fun t724 => (if t724 = true then (some (wrap64 (Int.tdiv (wrap64 ((wrap64 (a0 * a1)) + 7)) 8))) else (some (-1)))) else (some (-1)))
theorem impl_BitsSize.calls {a0 a1 r : Int} {w : World} (h : impl_BitsSize.f a0 a1 = some r) :
    Calls Try.prog 85 #[.int .i64 a0, .int .i64 a1] w fun e w' => e = .returned (.int .i64 r) ∧ Drawn0 w w' := by
 have H := h; clear h; unfold impl_BitsSize.f at H
 replace H := bnd H; obtain ⟨t723, A3, H⟩ := H
 replace H := ibt H; obtain ⟨rfl, H⟩ | ⟨rfl, H⟩ := H
 rotate_left
 · obtain rfl := Option.some.inj H
   go_enter Try.func85, Try.ntmps85
   go_wp2_with (first | ((with_reducible refine gc 31 rfl ?_); refine gc1 (some 6) Try.func31 rfl (impl_within.calls A3.out) ?_; rintro w' ⟨nd, rfl⟩))
   go_ret
   exact ⟨sr, drl⟩
 replace H := bnd H; obtain ⟨t724, A5, H⟩ := H
 replace H := ibt H; obtain ⟨rfl, H⟩ | ⟨rfl, H⟩ := H
 · obtain rfl := Option.some.inj H
   go_enter Try.func85, Try.ntmps85
   go_wp2_with (first | ((with_reducible refine gc 31 rfl ?_); refine gc1 (some 6) Try.func31 rfl (impl_within.calls A3.out) ?_; rintro w' ⟨nd, rfl⟩) | (go_at_call 31; (with_reducible refine (impl_within.calls A5.out).mono ?_); rintro e w' ⟨rfl, ⟨nd, rfl⟩⟩))
   go_ret
   exact ⟨sr, drl⟩
 obtain rfl := Option.some.inj H
 go_enter Try.func85, Try.ntmps85
 go_wp2_with (first | ((with_reducible refine gc 31 rfl ?_); refine gc1 (some 6) Try.func31 rfl (impl_within.calls A3.out) ?_; rintro w' ⟨nd, rfl⟩) | (go_at_call 31; (with_reducible refine (impl_within.calls A5.out).mono ?_); rintro e w' ⟨rfl, ⟨nd, rfl⟩⟩))
 go_ret
 exact ⟨sr, drl⟩
/-! ### impl_BitAt: function 93 -/
def impl_BitAt.f (l0 : List Int) (a1 : Int) : Option (Int) := if a1 < 0 then (some (-1)) else (if (wrap64 (Int.tdiv a1 8)) ≥ (l0.length : Int) then (some (-1)) else (if 0 ≤ (wrap64 (Int.tdiv a1 8)) then (if (wrap64 (Int.tdiv a1 8)) < (l0.length : Int) then (if 0 ≤ (Int.tmod a1 8) then (some (wrap64 (Go.bits .and .u8 (shr .u8 (rd l0 (wrap64 (Int.tdiv a1 8))) (Int.tmod a1 8)) 1))) else (none)) else (none)) else (none)))
theorem impl_BitAt.calls {A0 : Option Addr} {c0 : Nat} {l0 : List Int} {a1 r : Int} {w : World} (hr0 : Kd.C (Kd.int .u8) w A0 l0.length l0) (hc0 : l0.length ≤ c0) (h : impl_BitAt.f l0 a1 = some r) :
    Calls Try.prog 93 #[.slice A0 l0.length c0, .int .i64 a1] w fun e w' => e = .returned (.int .i64 r) ∧ Drawn0 w w' := by
 have HR0 := am hr0
 have HC0 := am hc0
 clear hr0 hc0
 have H := h; clear h; unfold impl_BitAt.f at H
 replace H := idc H; obtain ⟨c3b0, H⟩ | ⟨c3b0, H⟩ := H
 · obtain rfl := Option.some.inj H
   go_enter Try.func93, Try.ntmps93
   go_wp2
   go_ret
   exact ⟨sr, drl⟩
 replace H := ige H; obtain ⟨c4b0, H⟩ | ⟨c4b0, H⟩ := H
 · obtain rfl := Option.some.inj H
   go_enter Try.func93, Try.ntmps93
   go_wp2
   go_ret
   exact ⟨sr, drl⟩
 obtain ⟨ji5, hji5⟩ : ∃ j_ : Int, (wrap64 (Int.tdiv a1 8)) = j_ := ⟨_, rfl⟩
 replace H : (if 0 ≤ (ji5) then (if (ji5) < (l0.length : Int) then (if 0 ≤ (Int.tmod a1 8) then (some (wrap64 (Go.bits .and .u8 (shr .u8 (rd l0 (ji5)) (Int.tmod a1 8)) 1))) else (none)) else (none)) else (none)) = some r := by first | (rw [hji5] at H; exact H) | (simp only [hji5] at H ⊢; exact H)
 (try rw [hji5] at c4b0)
 have hji5w : (IntKind.i64.wrap (Int.tdiv a1 8)) = ji5 := (i64_w _).trans hji5
 replace H := if_dd H; obtain ⟨c6b0, c7b0, H⟩ := H
 obtain ⟨ji8, hji8⟩ : ∃ j_ : Int, (Int.tmod a1 8) = j_ := ⟨_, rfl⟩
 replace H : (if 0 ≤ (ji8) then (some (wrap64 (Go.bits .and .u8 (shr .u8 (rd l0 (ji5)) (ji8)) 1))) else (none)) = some r := by first | (rw [hji8] at H; exact H) | (simp only [hji8] at H ⊢; exact H)
 replace H := ifs H; obtain ⟨c9, H⟩ := H
 have c9b0 := eq_true c9
 have c9b1 := decide_eq_true c9
 clear c9
 obtain ⟨ji10, hji10⟩ : ∃ j_ : Int, (shr .u8 (rd l0 (ji5)) (ji8)) = j_ := ⟨_, rfl⟩
 replace H : (some (wrap64 (Go.bits .and .u8 (ji10) 1))) = some r := by first | (rw [hji10] at H; exact H) | (simp only [hji10] at H ⊢; exact H)
 have hji10_ : ((rd l0 (ji5)) / 2 ^ min (ji8).toNat 8) = ji10 := hji10
 have hji10z : (ji8) ≤ 8 → ((rd l0 (ji5)) / 2 ^ (ji8).toNat) = ji10 := shr_small hji10
 obtain rfl := Option.some.inj H
 have p725 : 0 ≤ ((ji5) : Int) := dcd
 have q725 : (ji5) < (l0.length : Int) := dcd
 obtain ⟨ad725, e725, hx725_0⟩ := Kd.at_int HR0.out (ji5) p725 q725
 cases e725
 replace p725 := eq_true p725
 replace q725 := eq_true q725
 go_enter Try.func93, Try.ntmps93
 go_wp2
 go_ret
 exact ⟨by first | rfl | (simp; done) | (simp only [← hji5, ← hji8, ← hji10] <;> (first | rfl | simp)) | (simp [*]; done), by repeat (first | exact Drawn0.refl _ | apply Drawn0.step)⟩
/-! ### impl_unpacked: function 86 -/
mutual
def impl_unpacked.l0 : Nat → List Int → Int → Int → List Int → Int → Int → Option (List Int)
  | 0, _, _, _, _, _, _ => none
  | k + 1, x0, x1, x3, x9, x14, x15 => if x15 < x14 then (impl_unpacked.l1 k x0 x1 x3 x9 x15 0 x14 x15 x3 0) else (some x9)
def impl_unpacked.l1 : Nat → List Int → Int → Int → List Int → Int → Int → Int → Int → Int → Int → Option (List Int)
  | 0, _, _, _, _, _, _, _, _, _, _ => none
  | k + 1, x0, x1, x3, x9, x10, x11, x14, x15, x18, x19 => if x19 < x18 then ((impl_BitAt.f x0 (wrap64 ((wrap64 ((wrap64 (8 * x1)) + (wrap64 (x10 * x3)))) + x19))).bind fun t729 => (if 0 ≤ x19 then (impl_unpacked.l1 k x0 x1 x3 x9 x10 (Go.bits .or .i64 x11 (shl .i64 t729 x19)) x14 x15 x18 (wrap64 (x19 + 1))) else (none))) else (if x9.length < 17592186044416 then (impl_unpacked.l0 k x0 x1 x3 (x9 ++ [x11]) x14 (wrap64 (x15 + 1))) else (none))
end
def impl_unpacked.f (k : Nat) (l0 : List Int) (a1 : Int) (a2 : Int) (a3 : Int) : Option (List Int) := impl_unpacked.l0 k l0 a1 a3 (([] : List Int)) a2 0
theorem impl_unpacked.calls {k : Nat} {A0 : Option Addr} {c0 : Nat} {l0 : List Int} {a1 a2 a3 : Int} {r : List Int} {w : World} (hr0 : Kd.C (Kd.int .u8) w A0 l0.length l0) (hc0 : l0.length ≤ c0) (h : impl_unpacked.f k l0 a1 a2 a3 = some r) :
    Calls Try.prog 86 #[.slice A0 l0.length c0, .int .i64 a1, .int .i64 a2, .int .i64 a3] w fun e w' => ∃ v0_ : Value, e = .returned (v0_) ∧ Kd.R (Kd.int .i64) 3 w' w.heap.size (fun _ => True) v0_ r ∧ Below w.heap.size w w' := by
 have HR0 := am hr0
 have HC0 := am hc0
 clear hr0 hc0
 have HB := am (Below.refl w.heap.size w)
 have H := h; clear h; unfold impl_unpacked.f at H
 obtain ⟨y726, hy726⟩ : ∃ y_ : List Int, y_ = (([] : List Int)) := ⟨_, rfl⟩
 replace H : (impl_unpacked.l0 k l0 a1 a3 y726 a2 0) = some r := by first | (rw [hy726]; with_reducible exact H) | (rw [hy726]; exact H) | exact H
 have Ny726 := am hy726
 clear hy726
 have H' := am H; clear H
 go_enter Try.func86, Try.ntmps86
 go_wp2_with (first | ((with_reducible refine gd 13 rfl ?_); refine Kd.R_lit (Kd.int .i64) _ 3 ?hg (N := 13) ?hd (xs := ([] : List Int)) (inner := []) (ok := fun _ => True) (okp := fun _ => True) ?hr ?hp (fun _ hk => hk) trivial (Below.refl _ _) (Nat.le_refl _) (by simp) ?_; (case hd => rfl); (case hg => rfl); (case hr => first | (go_simp; done) | (go_simp; rfl)); (case hp => exact (Reps.none _ _)); intro v727 w5 ho6 hb hg_ hnew_; clear hg_ hnew_; (first | rw [← Ny726.out] at ho6 | (simp only [Int.reduceToNat] at ho6; rw [← Ny726.out] at ho6)); have HO728 := rlb ho6 HB; replace HB := bst HB hb; clear hb ho6))
 go_loopg [9, 15] k (fun kq v9 v15 w' => ∃ (x9_1 : List Int) (x15_1 : Int), v15 = .int .i64 x15_1 ∧ Aside0 (impl_unpacked.l0 kq l0 a1 a3 x9_1 a2 x15_1 = some r) ∧ Aside0 (kq ≤ k) ∧ Aside0 (Kd.R (Kd.int .i64) 3 w' w.heap.size (fun _ => True) v9 x9_1) ∧ Aside0 (Below w.heap.size w w'))
 case atStart => exact ⟨(y726), (0), sr, H', ⟨Nat.le_refl _⟩, ⟨rL HO728⟩, ⟨bL HB⟩⟩
 clear H'
 obtain ⟨x9_1, x15_1, rfl, HA, HK1, HO_9, HB⟩ := hrel
 cases gk with
 | zero => exact absurd HA.out (by simp [impl_unpacked.l0])
 | succ k1 => ?_
 have H := HA.out
 clear HA
 simp only [impl_unpacked.l0] at H
 replace H := idc H; obtain ⟨c7b0, H⟩ | ⟨c7b0, H⟩ := H
 rotate_left
 · obtain rfl := Option.some.inj H
   go_wp2
   go_ret
   exact ⟨_, fin_ ⟨by (with_reducible repeat (first | apply Kd.R_alloc | apply Kd.R_drewN | apply Kd.R_drew)); exact HO_9.out, bL HB⟩⟩
 have H' := am H; clear H
 go_wp2
 go_loopg [11, 19] k1 (fun kq v11 v19 w' => ∃ (x11_2 : Int) (x19_2 : Int), v11 = .int .i64 x11_2 ∧ v19 = .int .i64 x19_2 ∧ Aside0 (impl_unpacked.l1 kq l0 a1 a3 x9_1 x15_1 x11_2 a2 x15_1 a3 x19_2 = some r) ∧ Aside0 (kq ≤ k1) ∧ Aside0 (Kd.R (Kd.int .i64) 3 w' w.heap.size (fun _ => True) u9 x9_1) ∧ Aside0 (Below w.heap.size w w'))
 case atStart => exact ⟨(0), (0), sr, sr, H', ⟨Nat.le_refl _⟩, ⟨rL HO_9⟩, ⟨bL HB⟩⟩
 clear H'
 try clear c7 c7b0
 obtain ⟨x11_2, x19_2, rfl, rfl, HA, HK2, HO_9, HB⟩ := hrel
 cases gk with
 | zero => exact absurd HA.out (by simp [impl_unpacked.l1])
 | succ k2 => ?_
 have H := HA.out
 clear HA
 simp only [impl_unpacked.l1] at H
 replace H := idc H; obtain ⟨c8b0, H⟩ | ⟨c8b0, H⟩ := H
 rotate_left
 · replace H := ifs H; obtain ⟨c12, H⟩ := H
   have LMc12 := am c12
   clear c12
   obtain ⟨y730, hy730⟩ : ∃ y_ : List Int, y_ = (x9_1 ++ [x11_2]) := ⟨_, rfl⟩
   replace H : (impl_unpacked.l0 k2 l0 a1 a3 y730 a2 (wrap64 (x15_1 + 1))) = some r := by first | (rw [hy730]; with_reducible exact H) | (rw [hy730]; exact H) | exact H
   have Ny730 := am hy730
   clear hy730
   have H' := am H; clear H
   go_wp2_with (first | ((with_reducible refine gate_builtin (b := .append) (xs := #[.tmp 37, .tmp 39]) rfl ?_); at_builtin; refine Kd.R_append (Kd.int .i64) (w0 := w) w.heap.size rfl (.tmp 37) (.tmp 39) 71 3 (.int .i64 0) 8 rfl Try.underlying71 info3 rfl (by decide) (by omega) u9 x9_1 x11_2 [.int .i64 x11_2] (fun _ => True) (fun _ => False) rfl rfl ?aP (fun _ hk => hk.elim) ?aF ?aO ?aB ?aS ?aL ?_; (case aP => exact rfl); (case aB => exact (bL HB)); (case aF => exact (fun _ _ => trivial)); (case aO => exact (rL HO_9)); (case aS => exact (below_size (bL HB))); (case aL => have := LMc12.out; omega); intro v731 w13 ho hb hg hat; rw [← Ny730.out] at ho; have HO732 := am ho; replace HB := am hb; clear HO_9; clear ho hb hg hat))
   go_roundg k2
   case measure => have := HK1.out; have := HK2.out; omega
   case rel => exact ⟨(y730), (wrap64 (x15_1 + 1)), sr, H', ⟨by have := HK1.out; have := HK2.out; omega⟩, ⟨rL HO732⟩, ⟨bL HB⟩⟩
 replace H := bnd H; obtain ⟨t729, A9, H⟩ := H
 replace H := ifs H; obtain ⟨c10, H⟩ := H
 have c10b0 := eq_true c10
 have c10b1 := decide_eq_true c10
 clear c10
 obtain ⟨ji11, hji11⟩ : ∃ j_ : Int, (shl .i64 t729 x19_2) = j_ := ⟨_, rfl⟩
 replace H : (impl_unpacked.l1 k2 l0 a1 a3 x9_1 x15_1 (Go.bits .or .i64 x11_2 (ji11)) a2 x15_1 a3 (wrap64 (x19_2 + 1))) = some r := by first | (rw [hji11] at H; exact H) | (simp only [hji11] at H ⊢; exact H)
 (try rw [hji11] at A9)
 have hji11_ : (IntKind.i64.wrap (t729 * 2 ^ min x19_2.toNat 64)) = ji11 := hji11
 have hji11z : x19_2 ≤ 64 → (IntKind.i64.wrap (t729 * 2 ^ x19_2.toNat)) = ji11 := shl_small hji11
 have hji11y : (wrap64 (t729 * 2 ^ min x19_2.toNat 64)) = ji11 := (i64_w _).symm.trans hji11_
 have hji11x : x19_2 ≤ 64 → (wrap64 (t729 * 2 ^ x19_2.toNat)) = ji11 := fun h_ => (i64_w _).symm.trans (hji11z h_)
 have H' := am H; clear H
 go_wp2_with (first | ((with_reducible refine gc 93 rfl ?_); refine gl_ (some 32) Try.func93 #[.slice A0 l0.length c0, .int .i64 (wrap64 ((wrap64 ((wrap64 (8 * a1)) + (wrap64 (x15_1 * a3)))) + x19_2))] rfl ?_; (with_reducible refine (impl_BitAt.calls ?side1 ?side2 A9.out).mono ?_); (case side1 => repeat (first | exact (Kd.C_below HR0.out HB.out) | (with_reducible refine Kd.C_alloc ?_ _) | (with_reducible refine Kd.C_drewN ?_ _) | (with_reducible refine Kd.C_drew ?_))); (case side2 => exact HC0.out); rintro e w' ⟨rfl, ⟨nd, rfl⟩⟩; refine ⟨_, rfl, ?_⟩))
 go_roundg k2
 case measure => have := HK1.out; have := HK2.out; omega
 case rel => exact ⟨(Go.bits .or .i64 x11_2 (ji11)), (wrap64 (x19_2 + 1)), (by first | rfl | (simp; done) | (simp only [← hji11] <;> (first | rfl | simp)) | (simp [*]; done)), sr, H', ⟨by have := HK1.out; have := HK2.out; omega⟩, ⟨rL HO_9⟩, ⟨bL HB⟩⟩
/-! ### impl_BitsRead: function 77 -/
def impl_BitsRead.f (k : Nat) (l0 : List Int) (a1 : Int) (a2 : Int) (a3 : Int) : Option (List Int × Int × Bool) := (impl_BitsSize.f a2 a3).bind fun t733 => (if t733 < 0 then (some (([] : List Int), 0, false)) else ((impl_within.f a1 0 (l0.length : Int)).bind fun t734 => (if t734 = true then (if t733 > (wrap64 ((l0.length : Int) - a1)) then (some (([] : List Int), 0, false)) else ((impl_unpacked.f k l0 a1 a2 a3).bind fun t735 => (some (t735, wrap64 (a1 + t733), true)))) else (some (([] : List Int), 0, false)))))
theorem impl_BitsRead.calls {k : Nat} {A0 : Option Addr} {c0 : Nat} {l0 : List Int} {a1 a2 a3 : Int} {r1 : List Int} {r2 : Int} {r3 : Bool} {w : World} (hr0 : Kd.C (Kd.int .u8) w A0 l0.length l0) (hc0 : l0.length ≤ c0) (h : impl_BitsRead.f k l0 a1 a2 a3 = some (r1, r2, r3)) :
    Calls Try.prog 77 #[.slice A0 l0.length c0, .int .i64 a1, .int .i64 a2, .int .i64 a3] w fun e w' => ∃ v0_ : Value, e = .returned (.tuple #[v0_, .int .i64 r2, .bool r3]) ∧ Kd.R (Kd.int .i64) 3 w' w.heap.size (fun _ => True) v0_ r1 ∧ Below w.heap.size w w' := by
 have HR0 := am hr0
 have HC0 := am hc0
 clear hr0 hc0
 have HB := am (Below.refl w.heap.size w)
 have H := h; clear h; unfold impl_BitsRead.f at H
 replace H := bnd H; obtain ⟨t733, A5, H⟩ := H
 replace H := idc H; obtain ⟨c6b0, H⟩ | ⟨c6b0, H⟩ := H
 · replace H := sj3 H; obtain ⟨rfl, rfl, rfl⟩ := H
   go_enter Try.func77, Try.ntmps77
   go_wp2_with (first | ((with_reducible refine gc 85 rfl ?_); refine gc1 (some 14) Try.func85 rfl (impl_BitsSize.calls A5.out) ?_; rintro w' ⟨nd, rfl⟩))
   go_ret3
   exact ⟨_, fin_ ⟨by first | exact Kd.R_nil _ _ _ _ _ | exact Kd.N_nil _ _ _ _ _ | exact Kd.V_nil _ _ _ _ _ | exact Kd.Q_nil _ _ _ _ _ | exact Kd.S_nil _ _ _ _ _, bL HB⟩⟩
 replace H := bnd H; obtain ⟨t734, A7, H⟩ := H
 replace H := ibt H; obtain ⟨rfl, H⟩ | ⟨rfl, H⟩ := H
 rotate_left
 · replace H := sj3 H; obtain ⟨rfl, rfl, rfl⟩ := H
   go_enter Try.func77, Try.ntmps77
   go_wp2_with (first | ((with_reducible refine gc 85 rfl ?_); refine gc1 (some 14) Try.func85 rfl (impl_BitsSize.calls A5.out) ?_; rintro w' ⟨nd, rfl⟩) | (go_at_call 31; (with_reducible refine (impl_within.calls A7.out).mono ?_); rintro e w' ⟨rfl, ⟨nd, rfl⟩⟩))
   go_ret3
   exact ⟨_, fin_ ⟨by first | exact Kd.R_nil _ _ _ _ _ | exact Kd.N_nil _ _ _ _ _ | exact Kd.V_nil _ _ _ _ _ | exact Kd.Q_nil _ _ _ _ _ | exact Kd.S_nil _ _ _ _ _, bL HB⟩⟩
 replace H := igt H; obtain ⟨c9b0, H⟩ | ⟨c9b0, H⟩ := H
 · replace H := sj3 H; obtain ⟨rfl, rfl, rfl⟩ := H
   go_enter Try.func77, Try.ntmps77
   go_wp2_with (first | ((with_reducible refine gc 85 rfl ?_); refine gc1 (some 14) Try.func85 rfl (impl_BitsSize.calls A5.out) ?_; rintro w' ⟨nd, rfl⟩) | (go_at_call 31; (with_reducible refine (impl_within.calls A7.out).mono ?_); rintro e w' ⟨rfl, ⟨nd, rfl⟩⟩))
   go_ret3
   exact ⟨_, fin_ ⟨by first | exact Kd.R_nil _ _ _ _ _ | exact Kd.N_nil _ _ _ _ _ | exact Kd.V_nil _ _ _ _ _ | exact Kd.Q_nil _ _ _ _ _ | exact Kd.S_nil _ _ _ _ _, bL HB⟩⟩
 replace H := bnd H; obtain ⟨t735, A10, H⟩ := H
 replace H := sj3 H; obtain ⟨rfl, rfl, rfl⟩ := H
 go_enter Try.func77, Try.ntmps77
 go_wp2_with (first | ((with_reducible refine gc 85 rfl ?_); refine gc1 (some 14) Try.func85 rfl (impl_BitsSize.calls A5.out) ?_; rintro w' ⟨nd, rfl⟩) | (go_at_call 31; (with_reducible refine (impl_within.calls A7.out).mono ?_); rintro e w' ⟨rfl, ⟨nd, rfl⟩⟩) | ((with_reducible refine gc 86 rfl ?_); refine gc2 (some 36) Try.func86 rfl (impl_unpacked.calls (C_later HR0.out) HC0.out A10.out) ?_; rintro v736 w11 ⟨ho0, hb⟩; have HO737 := rlb ho0 HB; replace HB := bst HB hb; clear hb ho0))
 go_ret3
 exact ⟨_, fin_ ⟨by (with_reducible repeat (first | apply Kd.R_alloc | apply Kd.R_drewN | apply Kd.R_drew)); exact HO737.out, bL HB⟩⟩
/-! ### impl_valsOf: function 78 -/
def impl_valsOf.l0 : Nat → List (S30) → List Int → Int → Int → Option ((List (S30)))
  | 0, _, _, _, _ => none
  | k + 1, x3, x7, x8, x9 => if x9 < x8 then (if 0 ≤ x9 then (if x9 < (x7.length : Int) then (if x3.length < 5864062014805 then (impl_valsOf.l0 k (x3 ++ [(⟨rd x7 x9, (⟨#[]⟩ : ByteArray)⟩ : S30)]) x7 x8 (wrap64 (x9 + 1))) else (none)) else (none)) else (none)) else (some x3)
def impl_valsOf.f (k : Nat) (l0 : List Int) : Option ((List (S30))) := impl_valsOf.l0 k (([] : List (S30))) l0 (l0.length : Int) 0
theorem impl_valsOf.calls {k : Nat} {A0 : Option Addr} {c0 : Nat} {l0 : List Int} {r : List (S30)} {w : World} (hr0 : Kd.C (Kd.int .i64) w A0 l0.length l0) (hc0 : l0.length ≤ c0) (h : impl_valsOf.f k l0 = some r) :
    Calls Try.prog 78 #[.slice A0 l0.length c0] w fun e w' => ∃ v0_ : Value, e = .returned (v0_) ∧ Kd.R k30 30 w' w.heap.size (fun _ => True) v0_ r ∧ Below w.heap.size w w' := by
 have hu30 := Try.underlying30
 have HR0 := am hr0
 have HC0 := am hc0
 clear hr0 hc0
 have HB := am (Below.refl w.heap.size w)
 have H := h; clear h; unfold impl_valsOf.f at H
 obtain ⟨y738, hy738⟩ : ∃ y_ : List (S30), y_ = (([] : List (S30))) := ⟨_, rfl⟩
 replace H : (impl_valsOf.l0 k y738 l0 (l0.length : Int) 0) = some r := by first | (rw [hy738]; with_reducible exact H) | (rw [hy738]; exact H) | exact H
 have Ny738 := am hy738
 clear hy738
 have H' := am H; clear H
 go_enter Try.func78, Try.ntmps78
 go_wp2_with (first | ((with_reducible refine gd 6 rfl ?_); refine Kd.R_lit k30 _ 30 ?hg (N := 6) ?hd (xs := ([] : List (S30))) (inner := []) (ok := fun _ => True) (okp := fun _ => True) ?hr ?hp (fun _ hk => hk) trivial (Below.refl _ _) (Nat.le_refl _) (by simp) ?_; (case hd => rfl); (case hg => rfl); (case hr => first | (go_simp; done) | (go_simp; rfl)); (case hp => exact (Reps.none _ _)); intro v739 w2 ho3 hb hg_ hnew_; clear hg_ hnew_; (first | rw [← Ny738.out] at ho3 | (simp only [Int.reduceToNat] at ho3; rw [← Ny738.out] at ho3)); have HO740 := rlb ho3 HB; replace HB := bst HB hb; clear hb ho3))
 go_loopg [3, 9] k (fun kq v3 v9 w' => ∃ (x3_1 : List (S30)) (x9_1 : Int), v9 = .int .i64 x9_1 ∧ Aside0 (impl_valsOf.l0 kq x3_1 l0 (l0.length : Int) x9_1 = some r) ∧ Aside0 (kq ≤ k) ∧ Aside0 (Kd.R k30 30 w' w.heap.size (fun _ => True) v3 x3_1) ∧ Aside0 (Below w.heap.size w w'))
 case atStart => exact ⟨(y738), (0), sr, H', ⟨Nat.le_refl _⟩, ⟨rL HO740⟩, ⟨bL HB⟩⟩
 clear H'
 obtain ⟨x3_1, x9_1, rfl, HA, HK1, HO_3, HB⟩ := hrel
 cases gk with
 | zero => exact absurd HA.out (by simp [impl_valsOf.l0])
 | succ k1 => ?_
 have H := HA.out
 clear HA
 simp only [impl_valsOf.l0] at H
 replace H := idc H; obtain ⟨c4b0, H⟩ | ⟨c4b0, H⟩ := H
 rotate_left
 · obtain rfl := Option.some.inj H
   go_wp2
   go_ret
   exact ⟨_, fin_ ⟨by (with_reducible repeat (first | apply Kd.R_alloc | apply Kd.R_drewN | apply Kd.R_drew)); exact HO_3.out, bL HB⟩⟩
 replace H := if_dds H; obtain ⟨c5b0, c6b0, c7, H⟩ := H
 have LMc7 := am c7
 clear c7
 obtain ⟨y742, hy742⟩ : ∃ y_ : List (S30), y_ = (x3_1 ++ [(⟨rd l0 x9_1, (⟨#[]⟩ : ByteArray)⟩ : S30)]) := ⟨_, rfl⟩
 replace H : (impl_valsOf.l0 k1 y742 l0 (l0.length : Int) (wrap64 (x9_1 + 1))) = some r := by first | (rw [hy742]; with_reducible exact H) | (rw [hy742]; exact H) | exact H
 have Ny742 := am hy742
 clear hy742
 have H' := am H; clear H
 have p741 : 0 ≤ (x9_1 : Int) := dcd
 have q741 : x9_1 < (l0.length : Int) := dcd
 obtain ⟨ad741, e741, hx741_0⟩ := Kd.at_int HR0.out x9_1 p741 q741
 cases e741
 replace hx741_0 := crd HB hx741_0
 replace p741 := eq_true p741
 replace q741 := eq_true q741
 go_wp2_with (first | ((with_reducible refine gate_builtin (b := .append) (xs := #[.tmp 13, .tmp 16]) rfl ?_); at_builtin; refine Kd.R_append k30 (w0 := w) w.heap.size rfl (.tmp 13) (.tmp 16) 98 30 (.agg #[(.int .i64 0), (.string ⟨#[]⟩)]) 24 rfl Try.underlying98 info30 rfl (by decide) (by omega) u3 x3_1 (⟨rd l0 x9_1, (⟨#[]⟩ : ByteArray)⟩ : S30) [.int .i64 (rd l0 x9_1), .string ⟨#[]⟩] (fun _ => True) (fun _ => False) rfl rfl ?aP (fun _ hk => hk.elim) ?aF ?aO ?aB ?aS ?aL ?_; (case aP => exact k30_mkM _ _ _ (⟨rd l0 x9_1, (⟨#[]⟩ : ByteArray)⟩ : S30)); (case aB => exact (bL HB)); (case aF => exact (fun _ _ => trivial)); (case aO => exact (rL HO_3)); (case aS => exact (below_size (bL HB))); (case aL => have := LMc7.out; omega); intro v743 w8 ho hb hg hat; rw [← Ny742.out] at ho; have HO744 := am ho; replace HB := am hb; clear HO_3; clear ho hb hg hat))
 go_roundg k1
 case measure => have := HK1.out; omega
 case rel => exact ⟨(y742), (wrap64 (x9_1 + 1)), sr, H', ⟨by have := HK1.out; omega⟩, ⟨rL HO744⟩, ⟨bL HB⟩⟩
/-! ### impl_WordGet: function 87 -/
mutual
def impl_WordGet.j0 : Nat → List Int → Int → Int → Bool → Option (Int × Int × Bool)
  | 0, _, _, _, _ => none
  | k + 1, x0, x1, x2, x25 => if x25 = true then (some (0, 0, false)) else (impl_WordGet.l0 k x0 x1 x2 0 x2 0)
def impl_WordGet.l0 : Nat → List Int → Int → Int → Int → Int → Int → Option (Int × Int × Bool)
  | 0, _, _, _, _, _, _ => none
  | k + 1, x0, x1, x2, x9, x26, x27 => if x27 < x26 then (if 0 ≤ (wrap64 (x1 + x27)) then (if (wrap64 (x1 + x27)) < (x0.length : Int) then (if 0 ≤ (wrap64 (8 * x27)) then (impl_WordGet.l0 k x0 x1 x2 (Go.bits .or .i64 x9 (shl .i64 (wrap64 (rd x0 (wrap64 (x1 + x27)))) (wrap64 (8 * x27)))) x26 (wrap64 (x27 + 1))) else (none)) else (none)) else (none)) else (some (x9, wrap64 (x1 + x2), true))
end
def impl_WordGet.f (k : Nat) (l0 : List Int) (a1 : Int) (a2 : Int) : Option (Int × Int × Bool) := (impl_within.f a2 1 8).bind fun t745 => (if t745 = true then (if a1 < 0 then (impl_WordGet.j0 k l0 a1 a2 true) else (impl_WordGet.j0 k l0 a1 a2 (decide (a1 > (wrap64 ((l0.length : Int) - a2)))))) else (impl_WordGet.j0 k l0 a1 a2 true))
theorem impl_WordGet.calls {k : Nat} {A0 : Option Addr} {c0 : Nat} {l0 : List Int} {a1 a2 r1 r2 : Int} {r3 : Bool} {w : World} (hr0 : Kd.C (Kd.int .u8) w A0 l0.length l0) (hc0 : l0.length ≤ c0) (h : impl_WordGet.f k l0 a1 a2 = some (r1, r2, r3)) :
    Calls Try.prog 87 #[.slice A0 l0.length c0, .int .i64 a1, .int .i64 a2] w fun e w' => e = .returned (.tuple #[.int .i64 r1, .int .i64 r2, .bool r3]) ∧ Drawn0 w w' := by
 have HR0 := am hr0
 have HC0 := am hc0
 clear hr0 hc0
 have H := h; clear h; unfold impl_WordGet.f at H
 have HC4 := am H
 clear H
 go_enter Try.func87, Try.ntmps87
 go_upto_region 1 with (fail)
 go_cut [25] (fun v25 wc => ∃ (kq : Nat) (x25_3 : Bool), v25 = .bool x25_3 ∧ Aside0 (impl_WordGet.j0 kq l0 a1 a2 x25_3 = some (r1, r2, r3)) ∧ Aside0 (kq ≤ k) ∧ Drawn0 w wc)
 case first =>
  have H := HC4.out
  clear HC4
  replace H := bnd H; obtain ⟨t745, A5, H⟩ := H
  replace H := ibt H; obtain ⟨rfl, H⟩ | ⟨rfl, H⟩ := H
  rotate_left
  · have H' := am H; clear H
    go_wp2_with (first | ((with_reducible refine gc 31 rfl ?_); refine gc1 (some 12) Try.func31 rfl (impl_within.calls A5.out) ?_; rintro w' ⟨nd, rfl⟩))
    go_meet
    case rel => exact ⟨_, (true), sr, H', ⟨by first | omega | exact Nat.le_refl _⟩, by repeat (first | exact Drawn0.refl _ | apply Drawn0.step)⟩
  replace H := idc H; obtain ⟨c7b0, H⟩ | ⟨c7b0, H⟩ := H
  · (first | rw [c7b0] | (simp only [i64_w, i32_w]; rw [c7b0]) | skip)
    have H' := am H; clear H
    go_wp2_with (first | ((with_reducible refine gc 31 rfl ?_); refine gc1 (some 12) Try.func31 rfl (impl_within.calls A5.out) ?_; rintro w' ⟨nd, rfl⟩))
    go_meet
    case rel => exact ⟨_, (true), sr, H', ⟨by first | omega | exact Nat.le_refl _⟩, by repeat (first | exact Drawn0.refl _ | apply Drawn0.step)⟩
  (first | rw [c7b0] | (simp only [i64_w, i32_w]; rw [c7b0]) | skip)
  have H' := am H; clear H
  go_wp2_with (first | ((with_reducible refine gc 31 rfl ?_); refine gc1 (some 12) Try.func31 rfl (impl_within.calls A5.out) ?_; rintro w' ⟨nd, rfl⟩))
  go_meet
  case rel => exact ⟨_, (decide (a1 > (wrap64 ((l0.length : Int) - a2)))), sr, H', ⟨by first | omega | exact Nat.le_refl _⟩, by repeat (first | exact Drawn0.refl _ | apply Drawn0.step)⟩
 clear HC4
 obtain ⟨kq, x25_3, rfl, HA, HJ3, ⟨mc3, rfl⟩⟩ := hcut
 cases kq with
 | zero => exact absurd HA.out (by simp [impl_WordGet.j0])
 | succ kj3 => ?_
 have H := HA.out
 clear HA
 simp only [impl_WordGet.j0] at H
 replace H := ibt H; obtain ⟨rfl, H⟩ | ⟨rfl, H⟩ := H
 · replace H := sj3 H; obtain ⟨rfl, rfl, rfl⟩ := H
   go_wp2
   go_ret3
   exact ⟨sr, drl⟩
 have H' := am H; clear H
 go_wp2
 go_loopg [9, 27] kj3 (fun kq v9 v27 w' => ∃ (x9_2 : Int) (x27_2 : Int), v9 = .int .i64 x9_2 ∧ v27 = .int .i64 x27_2 ∧ Aside0 (impl_WordGet.l0 kq l0 a1 a2 x9_2 a2 x27_2 = some (r1, r2, r3)) ∧ Aside0 (kq ≤ kj3) ∧ Drawn0 w w')
 case atStart => exact ⟨(0), (0), sr, sr, H', ⟨Nat.le_refl _⟩, by repeat (first | exact Drawn0.refl _ | apply Drawn0.step)⟩
 clear H'
 try clear c8
 obtain ⟨x9_2, x27_2, rfl, rfl, HA, HK2, ⟨m2, rfl⟩⟩ := hrel
 cases gk with
 | zero => exact absurd HA.out (by simp [impl_WordGet.l0])
 | succ k2 => ?_
 have H := HA.out
 clear HA
 simp only [impl_WordGet.l0] at H
 replace H := idc H; obtain ⟨c9b0, H⟩ | ⟨c9b0, H⟩ := H
 rotate_left
 · replace H := sj3 H; obtain ⟨rfl, rfl, rfl⟩ := H
   go_wp2
   go_ret3
   exact ⟨sr, drl⟩
 obtain ⟨ji10, hji10⟩ : ∃ j_ : Int, (wrap64 (a1 + x27_2)) = j_ := ⟨_, rfl⟩
 replace H : (if 0 ≤ (ji10) then (if (ji10) < (l0.length : Int) then (if 0 ≤ (wrap64 (8 * x27_2)) then (impl_WordGet.l0 k2 l0 a1 a2 (Go.bits .or .i64 x9_2 (shl .i64 (wrap64 (rd l0 (ji10))) (wrap64 (8 * x27_2)))) a2 (wrap64 (x27_2 + 1))) else (none)) else (none)) else (none)) = some (r1, r2, r3) := by first | (rw [hji10] at H; exact H) | (simp only [hji10] at H ⊢; exact H)
 have hji10w : (IntKind.i64.wrap (a1 + x27_2)) = ji10 := (i64_w _).trans hji10
 replace H := if_dd H; obtain ⟨c11b0, c12b0, H⟩ := H
 obtain ⟨ji13, hji13⟩ : ∃ j_ : Int, (wrap64 (8 * x27_2)) = j_ := ⟨_, rfl⟩
 replace H : (if 0 ≤ (ji13) then (impl_WordGet.l0 k2 l0 a1 a2 (Go.bits .or .i64 x9_2 (shl .i64 (wrap64 (rd l0 (ji10))) (ji13))) a2 (wrap64 (x27_2 + 1))) else (none)) = some (r1, r2, r3) := by first | (rw [hji13] at H; exact H) | (simp only [hji13] at H ⊢; exact H)
 have hji13w : (IntKind.i64.wrap (8 * x27_2)) = ji13 := (i64_w _).trans hji13
 replace H := ifs H; obtain ⟨c14, H⟩ := H
 have c14b0 := eq_true c14
 have c14b1 := decide_eq_true c14
 clear c14
 obtain ⟨ji15, hji15⟩ : ∃ j_ : Int, (shl .i64 (wrap64 (rd l0 (ji10))) (ji13)) = j_ := ⟨_, rfl⟩
 replace H : (impl_WordGet.l0 k2 l0 a1 a2 (Go.bits .or .i64 x9_2 (ji15)) a2 (wrap64 (x27_2 + 1))) = some (r1, r2, r3) := by first | (rw [hji15] at H; exact H) | (simp only [hji15] at H ⊢; exact H)
 have hji15_ : (IntKind.i64.wrap ((wrap64 (rd l0 (ji10))) * 2 ^ min (ji13).toNat 64)) = ji15 := hji15
 have hji15z : (ji13) ≤ 64 → (IntKind.i64.wrap ((wrap64 (rd l0 (ji10))) * 2 ^ (ji13).toNat)) = ji15 := shl_small hji15
 have hji15y : (wrap64 ((wrap64 (rd l0 (ji10))) * 2 ^ min (ji13).toNat 64)) = ji15 := (i64_w _).symm.trans hji15_
 have hji15x : (ji13) ≤ 64 → (wrap64 ((wrap64 (rd l0 (ji10))) * 2 ^ (ji13).toNat)) = ji15 := fun h_ => (i64_w _).symm.trans (hji15z h_)
 have H' := am H; clear H
 have p746 : 0 ≤ ((ji10) : Int) := dcd
 have q746 : (ji10) < (l0.length : Int) := dcd
 obtain ⟨ad746, e746, hx746_0⟩ := Kd.at_int HR0.out (ji10) p746 q746
 cases e746
 replace p746 := eq_true p746
 replace q746 := eq_true q746
 go_wp2
 go_roundg k2
 case measure => have := HJ3.out; have := HK2.out; omega
 case rel => exact ⟨(Go.bits .or .i64 x9_2 (ji15)), (wrap64 (x27_2 + 1)), (by first | rfl | (simp; done) | (simp only [← hji15] <;> (first | rfl | simp)) | (simp [*]; done)), sr, H', ⟨by have := HJ3.out; have := HK2.out; omega⟩, by repeat (first | exact Drawn0.refl _ | apply Drawn0.step)⟩
/-! ### impl_signed: function 88 -/
def impl_signed.f (a0 : Int) (a1 : Int) : Option (Int) := if a1 = 4 then (some (wrap64 (wrap32 (a0)))) else (some a0)
theorem impl_signed.calls {a0 a1 r : Int} {w : World} (h : impl_signed.f a0 a1 = some r) :
    Calls Try.prog 88 #[.int .i64 a0, .int .i64 a1] w fun e w' => e = .returned (.int .i64 r) ∧ Drawn0 w w' := by
 have H := h; clear h; unfold impl_signed.f at H
 replace H := ieq H; obtain ⟨c3b0, c3b1, H⟩ | ⟨c3, c3b0, c3b1, H⟩ := H
 · obtain rfl := Option.some.inj H
   go_enter Try.func88, Try.ntmps88
   go_wp2
   go_ret
   exact ⟨sr, drl⟩
 obtain rfl := Option.some.inj H
 go_enter Try.func88, Try.ntmps88
 go_wp2
 go_ret
 exact ⟨sr, drl⟩
end Go.Proofs.Ytnlgodcbnlbdkaa.PFnStats
