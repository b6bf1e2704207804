/- The machine's side of FnExactStatsFrom, written by wip/tools/hyb.py of this repo: each Go function as a plain Lean function, and the proof that the call comes to just its answer. No condition. -/
import Derived.Test.YtgiljoeekpfpmaaPFnExactStatsFromx0
import Derived.Test.YtgiljoeekpfpmaaPFnExactStatsFromx2
import Derived.Test.YtgiljoeekpfpmaaPFnExactStatsFromx7
import Derived.Test.YtgiljoeekpfpmaaPFnExactStatsFromx8
import Derived.Test.YtgiljoeekpfpmaaPFnExactStatsFromx14
namespace Go.Proofs.Ytgiljoeekpfpmaa.PFnExactStatsFrom
open Go.RowKit Go.Proofs.YtgiljoeekpfpmaaW.PrintWords Go.Proofs.YtgiljoeekpfpmaaW.PrintLast Go.Proofs.YtgiljoeekpfpmaaW.PrintMore Go.Proofs.YtgiljoeekpfpmaaW.PrintMore2
attribute [local go_sem] max2_int min2_int max_two min_two max_three min_three max_four min_four   -- for this text's walks alone
set_option linter.unusedVariables false
set_option linter.unusedSimpArgs false

/-! ### laws_eqNode: function 30 -/
def laws_eqNode.f (a0_0 : Int) (a0_1 : Int) (a0_2 : Int) (a0_3 : ByteArray) (a0_4 : Int) (a1_0 : Int) (a1_1 : Int) (a1_2 : Int) (a1_3 : ByteArray) (a1_4 : Int) : Option (Bool) := if a0_0 = a1_0 then (if a0_1 = a1_1 then (if a0_2 = a1_2 then (if a0_3.toList = a1_3.toList then (if a0_4 = a1_4 then (some true) else (some false)) else (some false)) else (some false)) else (some false)) else (some false)
set_option maxHeartbeats 8000000 in
set_option maxRecDepth 100000 in
theorem laws_eqNode.calls (a0_0 : Int) (a0_1 : Int) (a0_2 : Int) (a0_3 : ByteArray) (a0_4 : Int) (a1_0 : Int) (a1_1 : Int) (a1_2 : Int) (a1_3 : ByteArray) (a1_4 : Int) (r : Bool) (w : World) (h : laws_eqNode.f a0_0 a0_1 a0_2 a0_3 a0_4 a1_0 a1_1 a1_2 a1_3 a1_4 = some true) :
    Calls Try.prog 30 #[.agg #[.int .i64 a0_0, .int .i64 a0_1, .int .i64 a0_2, .string a0_3, .int .i64 a0_4], .agg #[.int .i64 a1_0, .int .i64 a1_1, .int .i64 a1_2, .string a1_3, .int .i64 a1_4]] w fun e w' => e = .returned (.bool true) ∧ Below w.heap.size w w' := by
  have hu57 := Try.underlying57
  have HB := Aside0.mk (Below.refl w.heap.size w)
  have H : (if a0_0 = a1_0 then (if a0_1 = a1_1 then (if a0_2 = a1_2 then (if a0_3.toList = a1_3.toList then (if a0_4 = a1_4 then (some true) else (some false)) else (some false)) else (some false)) else (some false)) else (some false)) = some true := h
  clear h
  by_cases c3 : a0_0 = a1_0
  · rw [if_pos c3] at H
    have c3b0 : (a0_0 == a1_0) = true := beq_iff_eq.mpr c3
    have c3b1 : (a0_0 != a1_0) = false := bne_eq_false_iff_eq.mpr c3
    clear c3
    by_cases c4 : a0_1 = a1_1
    · rw [if_pos c4] at H
      have c4b0 : (a0_1 == a1_1) = true := beq_iff_eq.mpr c4
      have c4b1 : (a0_1 != a1_1) = false := bne_eq_false_iff_eq.mpr c4
      clear c4
      by_cases c5 : a0_2 = a1_2
      · rw [if_pos c5] at H
        have c5b0 : (a0_2 == a1_2) = true := beq_iff_eq.mpr c5
        have c5b1 : (a0_2 != a1_2) = false := bne_eq_false_iff_eq.mpr c5
        clear c5
        by_cases c6 : a0_3.toList = a1_3.toList
        · rw [if_pos c6] at H
          have c6b0 : (a0_3.toList == a1_3.toList) = true := beq_iff_eq.mpr c6
          have c6b1 : (a0_3.toList != a1_3.toList) = false := bne_eq_false_iff_eq.mpr c6
          clear c6
          by_cases c7 : a0_4 = a1_4
          · rw [if_pos c7] at H
            have c7b0 : (a0_4 == a1_4) = true := beq_iff_eq.mpr c7
            have c7b1 : (a0_4 != a1_4) = false := bne_eq_false_iff_eq.mpr c7
            clear c7
            clear H
            go_enter Try.func30, Try.ntmps30
            go_wp2_with (first | ((with_reducible refine gate_dst (N := 2) rfl ?_); refine bx_ 2 #[.int .i64 a0_0, .int .i64 a0_1, .int .i64 a0_2, .string a0_3, .int .i64 a0_4] 57 ?_; intro gb571 hg w8 hbox hb; have BK571 := Aside0.mk (hbox); have GW571 := gwe HB hg; have GE571 := GW571; replace HB := bst HB hb; clear hb hbox hg) | ((with_reducible refine gate_dst (N := 3) rfl ?_); refine bx_ 3 #[.int .i64 a1_0, .int .i64 a1_1, .int .i64 a1_2, .string a1_3, .int .i64 a1_4] 57 ?_; intro gb572 hg w9 hbox hb; have BK572 := Aside0.mk (hbox); have GW572 := gwe HB hg; have GE572 := GW572; have NB571_572 := nbl BK571 hg; have NB572_571 := nbr (nbl BK571 hg); replace BK571 := bkb BK571 hb; replace HB := bst HB hb; clear hb hbox hg; have hnb10 := NB571_572.out; have hnc10 := NB572_571.out; obtain ⟨hcz11_0, hcz11_1, hcz11_2, hcz11_3, hcz11_4, hfz11_0, hfz11_1, hfz11_2, hfz11_3, hfz11_4⟩ := cl5 BK571; obtain ⟨hcz12_0, hcz12_1, hcz12_2, hcz12_3, hcz12_4, hfz12_0, hfz12_1, hfz12_2, hfz12_3, hfz12_4⟩ := cl5 BK572))
            go_ret
            exact fin_ (below_later HB.out)
          · rw [if_neg c7] at H
            cases H
        · rw [if_neg c6] at H
          cases H
      · rw [if_neg c5] at H
        cases H
    · rw [if_neg c4] at H
      cases H
  · rw [if_neg c3] at H
    cases H
/-! ### laws_eqNodeS: function 11 -/
def laws_eqNodeS.l0 : Nat → List (S57) → List (S57) → Int → Option (Bool)
  | 0, _, _, _ => none
  | k + 1, x0, x1, x5 => if x5 < (x0.length : Int) then (if 0 ≤ x5 then (if x5 < (x1.length : Int) then ((laws_eqNode.f ((rd_T57 x0 x5).f0) ((rd_T57 x0 x5).f1) ((rd_T57 x0 x5).f2) ((rd_T57 x0 x5).f3) ((rd_T57 x0 x5).f4) ((rd_T57 x1 x5).f0) ((rd_T57 x1 x5).f1) ((rd_T57 x1 x5).f2) ((rd_T57 x1 x5).f3) ((rd_T57 x1 x5).f4)).bind fun t575 => (if t575 = true then (laws_eqNodeS.l0 k x0 x1 (wrap64 (x5 + 1))) else (some false))) else (none)) else (none)) else (some true)
def laws_eqNodeS.f (k : Nat) (l0 : List (S57)) (l1 : List (S57)) : Option (Bool) := if (l0.length : Int) = (l1.length : Int) then (laws_eqNodeS.l0 k l0 l1 0) else (some false)
def laws_eqNodeS.T6 : Bool × List (List Nat × List Nat) := (true, [([], []), ([], []), ([0, 1], [0, 1]), ([2], [2]), ([], []), ([], []), ([4, 5], [4, 5]), ([6], [6]), ([3, 7], [3, 7]), ([8], [8])])
def laws_eqNodeS.B6 : List Nat := [0, 0, 3, 7, 0, 0, 48, 112, 255, 511]
theorem laws_eqNodeS.tab6 : rtab .any (opsOf Try.f11 6) = laws_eqNodeS.T6 := by kernel_rfl
theorem laws_eqNodeS.bits6 : waitsOk laws_eqNodeS.T6.2 laws_eqNodeS.B6 = true := by kernel_rfl
set_option maxHeartbeats 8000000 in
set_option maxRecDepth 100000 in
theorem laws_eqNodeS.calls (k : Nat) (A0 : Option Addr) (c0 : Nat) (l0 : List (S57)) (A1 : Option Addr) (c1 : Nat) (l1 : List (S57)) (r : Bool) (w : World) (hr0 : Kd.C k57 w A0 l0.length l0) (hc0 : l0.length ≤ c0) (hr1 : Kd.C k57 w A1 l1.length l1) (hc1 : l1.length ≤ c1) (h : laws_eqNodeS.f k l0 l1 = some true) :
    Calls Try.prog 11 #[.slice A0 l0.length c0, .slice A1 l1.length c1] w fun e w' => e = .returned (.bool true) ∧ Below w.heap.size w w' := by
  have hu57 := Try.underlying57
  have HR0 := Aside0.mk hr0
  have HC0 := Aside0.mk hc0
  clear hr0 hc0
  have HR1 := Aside0.mk hr1
  have HC1 := Aside0.mk hc1
  clear hr1 hc1
  have HB := Aside0.mk (Below.refl w.heap.size w)
  have H : (if (l0.length : Int) = (l1.length : Int) then (laws_eqNodeS.l0 k l0 l1 0) else (some false)) = some true := h
  clear h
  by_cases c3 : (l0.length : Int) = (l1.length : Int)
  · rw [if_pos c3] at H
    have c3b0 : ((l0.length : Int) == (l1.length : Int)) = true := beq_iff_eq.mpr c3
    have c3b1 : ((l0.length : Int) != (l1.length : Int)) = false := bne_eq_false_iff_eq.mpr c3
    have c3b2 : (l0.length == l1.length) = true := by first | simpa using c3 | (simp at c3 ⊢; omega)
    clear c3
    have H' := Aside0.mk H
    clear H
    go_enter Try.func11, Try.ntmps11
    go_wp2
    go_loopg [5] k (fun kq v5 w' => ∃ (x5_1 : Int), v5 = .int .i64 x5_1 ∧ Aside0 (laws_eqNodeS.l0 kq l0 l1 x5_1 = some true) ∧ Aside0 (kq ≤ k) ∧ Aside0 (Below w.heap.size w w'))
    case atStart => exact ⟨(0), sr, H', ⟨Nat.le_refl _⟩, ⟨below_later HB.out⟩⟩
    case round =>
      clear H'
      try clear c1
      try clear c3
      try clear c3b0
      try clear c3b1
      try clear c3b2
      obtain ⟨x5_1, rfl, HA, HK1, HB⟩ := hrel
      cases gk with
      | zero => exact absurd HA.out (by simp [laws_eqNodeS.l0])
      | succ k1 =>
        have H := HA.out
        clear HA
        simp only [laws_eqNodeS.l0] at H
        by_cases c4 : x5_1 < (l0.length : Int)
        · rw [if_pos c4] at H
          have c4b0 := decide_eq_true c4
          clear c4
          replace H := ifd H
          obtain ⟨c5b0, H⟩ := H
          replace H := ifd H
          obtain ⟨c6b0, H⟩ := H
          replace H := bnd H
          obtain ⟨t575, A7, H⟩ := H
          by_cases c8 : t575 = true
          · subst c8
            replace H := ifp rfl H
            have H' := Aside0.mk H
            clear H
            try go_wp2
            have n0_ := Aside0.mk (below_drew1 HB.out)
            clear HB
            have HB := n0_
            clear n0_
            have p573 : 0 ≤ (x5_1 : Int) := dcd
            have q573 : x5_1 < (l0.length : Int) := dcd
            obtain ⟨ad573, e573, hx573_0, hx573_1, hx573_2, hx573_3, hx573_4⟩ := at_T57 HR0.out x5_1 p573 q573
            have hw573_4 := hx573_4
            have hw573_3 := hx573_3
            have hw573_2 := hx573_2
            have hw573_1 := hx573_1
            have hw573_0 := hx573_0
            cases e573
            replace hx573_0 := crd HB hx573_0
            replace hx573_1 := crd HB hx573_1
            replace hx573_2 := crd HB hx573_2
            replace hx573_3 := crd HB hx573_3
            replace hx573_4 := crd HB hx573_4
            replace p573 := eq_true p573
            replace q573 := eq_true q573
            have p574 : 0 ≤ (x5_1 : Int) := dcd
            have q574 : x5_1 < (l1.length : Int) := dcd
            obtain ⟨ad574, e574, hx574_0, hx574_1, hx574_2, hx574_3, hx574_4⟩ := at_T57 HR1.out x5_1 p574 q574
            have hw574_4 := hx574_4
            have hw574_3 := hx574_3
            have hw574_2 := hx574_2
            have hw574_1 := hx574_1
            have hw574_0 := hx574_0
            cases e574
            replace hx574_0 := crd HB hx574_0
            replace hx574_1 := crd HB hx574_1
            replace hx574_2 := crd HB hx574_2
            replace hx574_3 := crd HB hx574_3
            replace hx574_4 := crd HB hx574_4
            replace p574 := eq_true p574
            replace q574 := eq_true q574
            refine start_ (n := 10) (S := fun w' => w'.cell? (ad573.add ((x5_1).toNat * 5)) = some (.int .i64 ((rd_T57 l0 x5_1).f0)) ∧ w'.cell? ⟨(ad573.add ((x5_1).toNat * 5)).block, (ad573.add ((x5_1).toNat * 5)).off + 1, none⟩ = some (.int .i64 ((rd_T57 l0 x5_1).f1)) ∧ w'.cell? ⟨(ad573.add ((x5_1).toNat * 5)).block, (ad573.add ((x5_1).toNat * 5)).off + 2, none⟩ = some (.int .i64 ((rd_T57 l0 x5_1).f2)) ∧ w'.cell? ⟨(ad573.add ((x5_1).toNat * 5)).block, (ad573.add ((x5_1).toNat * 5)).off + 3, none⟩ = some (.string ((rd_T57 l0 x5_1).f3)) ∧ w'.cell? ⟨(ad573.add ((x5_1).toNat * 5)).block, (ad573.add ((x5_1).toNat * 5)).off + 4, none⟩ = some (.int .i64 ((rd_T57 l0 x5_1).f4)) ∧ w'.cell? (ad574.add ((x5_1).toNat * 5)) = some (.int .i64 ((rd_T57 l1 x5_1).f0)) ∧ w'.cell? ⟨(ad574.add ((x5_1).toNat * 5)).block, (ad574.add ((x5_1).toNat * 5)).off + 1, none⟩ = some (.int .i64 ((rd_T57 l1 x5_1).f1)) ∧ w'.cell? ⟨(ad574.add ((x5_1).toNat * 5)).block, (ad574.add ((x5_1).toNat * 5)).off + 2, none⟩ = some (.int .i64 ((rd_T57 l1 x5_1).f2)) ∧ w'.cell? ⟨(ad574.add ((x5_1).toNat * 5)).block, (ad574.add ((x5_1).toNat * 5)).off + 3, none⟩ = some (.string ((rd_T57 l1 x5_1).f3)) ∧ w'.cell? ⟨(ad574.add ((x5_1).toNat * 5)).block, (ad574.add ((x5_1).toNat * 5)).off + 4, none⟩ = some (.int .i64 ((rd_T57 l1 x5_1).f4))) (ds := []) #[false, false, false, false, false, false, false, false, false, false] (by kernel_rfl) rfl rfl ⟨((HB.out.cell (World.block_lt_of_cell? w _ hw573_0)).trans hw573_0), ((HB.out.cell (World.block_lt_of_cell? w _ hw573_1)).trans hw573_1), ((HB.out.cell (World.block_lt_of_cell? w _ hw573_2)).trans hw573_2), ((HB.out.cell (World.block_lt_of_cell? w _ hw573_3)).trans hw573_3), ((HB.out.cell (World.block_lt_of_cell? w _ hw573_4)).trans hw573_4), ((HB.out.cell (World.block_lt_of_cell? w _ hw574_0)).trans hw574_0), ((HB.out.cell (World.block_lt_of_cell? w _ hw574_1)).trans hw574_1), ((HB.out.cell (World.block_lt_of_cell? w _ hw574_2)).trans hw574_2), ((HB.out.cell (World.block_lt_of_cell? w _ hw574_3)).trans hw574_3), ((HB.out.cell (World.block_lt_of_cell? w _ hw574_4)).trans hw574_4)⟩ (fun hHeld => ?_); refine with_tabW laws_eqNodeS.tab6 laws_eqNodeS.bits6 (fun HT_ HW_ => ?_)
            generalize wr.drew = w9 at HB hx573_0 hx573_1 hx573_2 hx573_3 hx573_4 hx574_0 hx574_1 hx574_2 hx574_3 hx574_4 hHeld ⊢
            refine pure_ (i := 0) (N := some 17) (v := ?_) (a' := ?_) #[true, false, false, false, false, false, false, false, false, false] rfl rfl (any_of HT_.out (by kernel_rfl)) (fun _ _ _ h => h) (Or.inl ⟨by rfl, ?_⟩) ?_ ?_
            rotate_left
            · intro w'
              go_simp
              with_reducible rfl
            rotate_left
            · simp only [Act.put, List.setIfInBounds_toArray, List.set_cons_zero, List.set_cons_succ, i64_w, i32_w]
              rfl
            refine pure_ (i := 1) (N := some 18) (v := ?_) (a' := ?_) #[true, true, false, false, false, false, false, false, false, false] rfl rfl (any_of HT_.out (by kernel_rfl)) (fun _ _ _ h => h) (Or.inl ⟨by rfl, ?_⟩) ?_ ?_
            rotate_left
            · intro w'
              go_simp
              with_reducible rfl
            rotate_left
            · simp only [Act.put, List.setIfInBounds_toArray, List.set_cons_zero, List.set_cons_succ, i64_w, i32_w]
              rfl
            refine pure_ (i := 2) (N := some 19) (v := ?_) (a' := ?_) #[true, true, true, false, false, false, false, false, false, false] rfl rfl (any_of HT_.out (by kernel_rfl)) (fun _ _ _ h => h) (Or.inl ⟨by rfl, ?_⟩) ?_ ?_
            rotate_left
            · intro w'
              go_simp
              with_reducible rfl
            rotate_left
            · simp only [Act.put, List.setIfInBounds_toArray, List.set_cons_zero, List.set_cons_succ, i64_w, i32_w]
              rfl
            refine pure_ (i := 4) (N := some 21) (v := ?_) (a' := ?_) #[true, true, true, false, true, false, false, false, false, false] rfl rfl (any_of HT_.out (by kernel_rfl)) (fun _ _ _ h => h) (Or.inl ⟨by rfl, ?_⟩) ?_ ?_
            rotate_left
            · intro w'
              go_simp
              with_reducible rfl
            rotate_left
            · simp only [Act.put, List.setIfInBounds_toArray, List.set_cons_zero, List.set_cons_succ, i64_w, i32_w]
              rfl
            refine pure_ (i := 5) (N := some 22) (v := ?_) (a' := ?_) #[true, true, true, false, true, true, false, false, false, false] rfl rfl (any_of HT_.out (by kernel_rfl)) (fun _ _ _ h => h) (Or.inl ⟨by rfl, ?_⟩) ?_ ?_
            rotate_left
            · intro w'
              go_simp
              with_reducible rfl
            rotate_left
            · simp only [Act.put, List.setIfInBounds_toArray, List.set_cons_zero, List.set_cons_succ, i64_w, i32_w]
              rfl
            refine pure_ (i := 6) (N := some 23) (v := ?_) (a' := ?_) #[true, true, true, false, true, true, true, false, false, false] rfl rfl (any_of HT_.out (by kernel_rfl)) (fun _ _ _ h => h) (Or.inl ⟨by rfl, ?_⟩) ?_ ?_
            rotate_left
            · intro w'
              go_simp
              with_reducible rfl
            rotate_left
            · simp only [Act.put, List.setIfInBounds_toArray, List.set_cons_zero, List.set_cons_succ, i64_w, i32_w]
              rfl
            refine take_ (i := 3) (N := some 20) (v := ?_) (a' := ?_) #[true, true, true, true, true, true, true, false, false, false] rfl rfl (take_ofW HT_.out HW_.out (by kernel_rfl)) (fun _ _ _ h => h) (Or.inl ⟨by rfl, ?_⟩) hHeld ?_ ?_
            rotate_left
            · rintro w' ⟨s0, s1, s2, s3, s4, s5, s6, s7, s8, s9⟩
              go_simp
              with_reducible rfl
            rotate_left
            · simp only [Act.put, List.setIfInBounds_toArray, List.set_cons_zero, List.set_cons_succ, i64_w, i32_w]
              rfl
            refine take_ (i := 7) (N := some 24) (v := ?_) (a' := ?_) #[true, true, true, true, true, true, true, true, false, false] rfl rfl (take_ofW HT_.out HW_.out (by kernel_rfl)) (fun _ _ _ h => h) (Or.inl ⟨by rfl, ?_⟩) hHeld ?_ ?_
            rotate_left
            · rintro w' ⟨s0, s1, s2, s3, s4, s5, s6, s7, s8, s9⟩
              go_simp
              with_reducible rfl
            rotate_left
            · simp only [Act.put, List.setIfInBounds_toArray, List.set_cons_zero, List.set_cons_succ, i64_w, i32_w]
              rfl
            refine one_ (i := 8) (N := some 25) #[true, true, true, true, true, true, true, true, true, false] rfl rfl (one_of HT_.out (by kernel_rfl)) (by decide) (fun K hK => ?_)
            refine goes_ Try.func30 (by kernel_rfl) rfl #[.agg #[.int .i64 ((rd_T57 l0 x5_1).f0), .int .i64 ((rd_T57 l0 x5_1).f1), .int .i64 ((rd_T57 l0 x5_1).f2), .string ((rd_T57 l0 x5_1).f3), .int .i64 ((rd_T57 l0 x5_1).f4)], .agg #[.int .i64 ((rd_T57 l1 x5_1).f0), .int .i64 ((rd_T57 l1 x5_1).f1), .int .i64 ((rd_T57 l1 x5_1).f2), .string ((rd_T57 l1 x5_1).f3), .int .i64 ((rd_T57 l1 x5_1).f4)]] (by rfl) rfl rfl (by (try simp only [List.map_toArray, List.map_cons, List.map_nil]); first | done | rfl | (simp only [List.length_drop, List.length_take]; rfl)) ?_
            with_reducible refine (laws_eqNode.calls ((rd_T57 l0 x5_1).f0) ((rd_T57 l0 x5_1).f1) ((rd_T57 l0 x5_1).f2) ((rd_T57 l0 x5_1).f3) ((rd_T57 l0 x5_1).f4) ((rd_T57 l1 x5_1).f0) ((rd_T57 l1 x5_1).f1) ((rd_T57 l1 x5_1).f2) ((rd_T57 l1 x5_1).f3) ((rd_T57 l1 x5_1).f4) true _ A7.out).mono ?_
            rintro e w10 ⟨rfl, hb⟩
            refine ⟨_, rfl, ?_⟩
            have n0_ := bst HB hb
            clear HB
            have HB := n0_
            clear n0_
            (try clear hb)
            (try clear hb2)
            (try clear hk)
            (try clear hi)
            refine hK.out _ _ ⟨((HB.out.cell (World.block_lt_of_cell? w _ hw573_0)).trans hw573_0), ((HB.out.cell (World.block_lt_of_cell? w _ hw573_1)).trans hw573_1), ((HB.out.cell (World.block_lt_of_cell? w _ hw573_2)).trans hw573_2), ((HB.out.cell (World.block_lt_of_cell? w _ hw573_3)).trans hw573_3), ((HB.out.cell (World.block_lt_of_cell? w _ hw573_4)).trans hw573_4), ((HB.out.cell (World.block_lt_of_cell? w _ hw574_0)).trans hw574_0), ((HB.out.cell (World.block_lt_of_cell? w _ hw574_1)).trans hw574_1), ((HB.out.cell (World.block_lt_of_cell? w _ hw574_2)).trans hw574_2), ((HB.out.cell (World.block_lt_of_cell? w _ hw574_3)).trans hw574_3), ((HB.out.cell (World.block_lt_of_cell? w _ hw574_4)).trans hw574_4)⟩ (fun hHeld => ?_)
            clear hK K
            refine norm_ (a' := ?_) ?_ ?_
            rotate_left
            · show Act.put _ (some 25) _ = _
              simp only [Act.put, List.setIfInBounds_toArray, List.set_cons_zero, List.set_cons_succ, i64_w, i32_w]
              rfl
            refine pure_ (i := 9) (N := some 26) (v := ?_) (a' := ?_) #[true, true, true, true, true, true, true, true, true, true] rfl rfl (any_of HT_.out (by kernel_rfl)) (fun _ _ _ h => h) (Or.inl ⟨by rfl, ?_⟩) ?_ ?_
            rotate_left
            · intro w'
              go_simp
              with_reducible rfl
            rotate_left
            · simp only [Act.put, List.setIfInBounds_toArray, List.set_cons_zero, List.set_cons_succ, i64_w, i32_w]
              rfl
            refine done_ (done_of HT_.out (by kernel_rfl)) ?_
            try go_wp2
            go_roundg k1
            case measure => have := HK1.out; omega
            case rel => exact ⟨(wrap64 (x5_1 + 1)), sr, H', ⟨by have := HK1.out; omega⟩, ⟨below_later HB.out⟩⟩
          · replace c8 := Bool.eq_false_iff.mpr c8
            subst c8
            have H1 : (some false) = some true := by rw [if_neg (show ¬ (false = true) by decide)] at H; exact H
            cases H1
        · rw [if_neg c4] at H
          have c4b0 := decide_eq_false c4
          clear c4
          clear H
          go_wp2
          go_ret
          exact fin_ (below_later HB.out)
  · rw [if_neg c3] at H
    cases H
/-! ### laws_FnExactStatsFrom: function 3 -/
def laws_FnExactStatsFrom.j0 : Nat → List (S53) → List (S57) → Bool → Option (Bool)
  | 0, _, _, _ => none
  | k + 1, x1, x10, x45 => if x45 = true then (some false) else ((laws_toNodeS.f k x1).bind fun t607 => ((laws_eqNodeS.f k x10 t607).bind fun t610 => (if t610 = true then (some true) else (some false))))
def laws_FnExactStatsFrom.f (k : Nat) (a0_0 : Int) (a0_1 : Int) (a0_2 : Int) (l1 : List (S53)) (a2 : Int) : Option (Bool) := (laws_szNodeS.f k l1 1048576).bind fun t577 => (if t577 < 0 then (some true) else ((laws_toLeaf.f a0_0 a0_1 a0_2).bind fun bt578 => ((laws_toNodeS.f k l1).bind fun t581 => ((spec_StatsFrom.f k bt578.1 bt578.2.1 bt578.2.2 t581 a2).bind fun bt584 => ((laws_toNodeS.f k l1).bind fun t592 => ((laws_toLeaf.f a0_0 a0_1 a0_2).bind fun bt595 => ((impl_StatsFrom.f k bt595.1 bt595.2.1 bt595.2.2 t592 a2).bind fun bt598 => ((laws_eqStats.f bt598.1 bt598.2.1 bt598.2.2.1 bt598.2.2.2.1 bt598.2.2.2.2.1 bt598.2.2.2.2.2.1 bt584.1 bt584.2.1 bt584.2.2.1 bt584.2.2.2.1 bt584.2.2.2.2.1 bt584.2.2.2.2.2.1).bind fun t606 => (if t606 = true then (laws_FnExactStatsFrom.j0 k l1 t592 (bt598.2.2.2.2.2.2 != bt584.2.2.2.2.2.2)) else (laws_FnExactStatsFrom.j0 k l1 t592 true))))))))))
set_option maxHeartbeats 8000000 in
set_option maxRecDepth 100000 in
theorem laws_FnExactStatsFrom.calls (k : Nat) (a0_0 : Int) (a0_1 : Int) (a0_2 : Int) (A1 : Option Addr) (c1 : Nat) (l1 : List (S53)) (a2 : Int) (r : Bool) (w : World) (hr1 : Kd.C k53 w A1 l1.length l1) (hc1 : l1.length ≤ c1) (h : laws_FnExactStatsFrom.f k a0_0 a0_1 a0_2 l1 a2 = some true) :
    Calls Try.prog 3 #[.agg #[.int .i64 a0_0, .int .i64 a0_1, .int .i64 a0_2], .slice A1 l1.length c1, .int .i64 a2] w fun e w' => e = .returned (.bool true) ∧ Below w.heap.size w w' := by
  have hu23 := Try.underlying23
  have hu29 := Try.underlying29
  have HR1 := Aside0.mk hr1
  have HC1 := Aside0.mk hc1
  clear hr1 hc1
  have HB := Aside0.mk (Below.refl w.heap.size w)
  have H : ((laws_szNodeS.f k l1 1048576).bind fun t577 => (if t577 < 0 then (some true) else ((laws_toLeaf.f a0_0 a0_1 a0_2).bind fun bt578 => ((laws_toNodeS.f k l1).bind fun t581 => ((spec_StatsFrom.f k bt578.1 bt578.2.1 bt578.2.2 t581 a2).bind fun bt584 => ((laws_toNodeS.f k l1).bind fun t592 => ((laws_toLeaf.f a0_0 a0_1 a0_2).bind fun bt595 => ((impl_StatsFrom.f k bt595.1 bt595.2.1 bt595.2.2 t592 a2).bind fun bt598 => ((laws_eqStats.f bt598.1 bt598.2.1 bt598.2.2.1 bt598.2.2.2.1 bt598.2.2.2.2.1 bt598.2.2.2.2.2.1 bt584.1 bt584.2.1 bt584.2.2.1 bt584.2.2.2.1 bt584.2.2.2.2.1 bt584.2.2.2.2.2.1).bind fun t606 => (if t606 = true then (laws_FnExactStatsFrom.j0 k l1 t592 (bt598.2.2.2.2.2.2 != bt584.2.2.2.2.2.2)) else (laws_FnExactStatsFrom.j0 k l1 t592 true))))))))))) = some true := h
  clear h
  replace H := bnd H
  obtain ⟨t577, A4, H⟩ := H
  by_cases c5 : t577 < 0
  · rw [if_pos c5] at H
    have c5b0 := decide_eq_true c5
    clear c5
    clear H
    go_enter Try.func3, Try.ntmps3
    go_wp2_with (first | ((with_reducible refine gate_dst (N := 3) rfl ?_); refine bx_ 3 #[.int .i64 a0_0, .int .i64 a0_1, .int .i64 a0_2] 23 ?_; intro gb576 hg w6 hbox hb; have BK576 := Aside0.mk (hbox); have GW576 := gwe HB hg; have GE576 := GW576; replace HB := bst HB hb; clear hb hbox hg) | ((with_reducible refine gate_callee (f := 5) rfl ?_); refine gl_ (some 15) Try.func5 #[.slice A1 l1.length c1, .int .i64 1048576] rfl ?_; (with_reducible refine (laws_szNodeS.calls k _ _ l1 1048576 t577 _ ?side1 ?side2 A4.out).mono ?_); (case side1 => repeat (first | exact (Kd.C_below HR1.out HB.out) | (with_reducible refine Kd.C_alloc ?_ _) | (with_reducible refine Kd.C_drewN ?_ _) | (with_reducible refine Kd.C_drew ?_))); (case side2 => exact HC1.out); rintro e w7 ⟨rfl, hb⟩; refine ⟨_, rfl, ?_⟩; replace BK576 := bkb BK576 hb; replace HB := bst HB hb; (try clear hb)))
    go_ret
    exact fin_ (below_later HB.out)
  · rw [if_neg c5] at H
    have c5b0 := decide_eq_false c5
    clear c5
    replace H := Option.bind_eq_some_iff.mp H
    obtain ⟨⟨t578, t579, t580⟩, A80, H⟩ := H
    replace H : ((laws_toNodeS.f k l1).bind fun t581 => ((spec_StatsFrom.f k t578 t579 t580 t581 a2).bind fun bt584 => ((laws_toNodeS.f k l1).bind fun t592 => ((laws_toLeaf.f a0_0 a0_1 a0_2).bind fun bt595 => ((impl_StatsFrom.f k bt595.1 bt595.2.1 bt595.2.2 t592 a2).bind fun bt598 => ((laws_eqStats.f bt598.1 bt598.2.1 bt598.2.2.1 bt598.2.2.2.1 bt598.2.2.2.2.1 bt598.2.2.2.2.2.1 bt584.1 bt584.2.1 bt584.2.2.1 bt584.2.2.2.1 bt584.2.2.2.2.1 bt584.2.2.2.2.2.1).bind fun t606 => (if t606 = true then (laws_FnExactStatsFrom.j0 k l1 t592 (bt598.2.2.2.2.2.2 != bt584.2.2.2.2.2.2)) else (laws_FnExactStatsFrom.j0 k l1 t592 true)))))))) = some true := H
    have A8 := Aside0.mk A80
    clear A80
    replace H := bnd H
    obtain ⟨t581, A9, H⟩ := H
    replace H := Option.bind_eq_some_iff.mp H
    obtain ⟨⟨t584, t585, t586, t587, t588, t589, t590⟩, A100, H⟩ := H
    replace H : ((laws_toNodeS.f k l1).bind fun t592 => ((laws_toLeaf.f a0_0 a0_1 a0_2).bind fun bt595 => ((impl_StatsFrom.f k bt595.1 bt595.2.1 bt595.2.2 t592 a2).bind fun bt598 => ((laws_eqStats.f bt598.1 bt598.2.1 bt598.2.2.1 bt598.2.2.2.1 bt598.2.2.2.2.1 bt598.2.2.2.2.2.1 t584 t585 t586 t587 t588 t589).bind fun t606 => (if t606 = true then (laws_FnExactStatsFrom.j0 k l1 t592 (bt598.2.2.2.2.2.2 != t590)) else (laws_FnExactStatsFrom.j0 k l1 t592 true)))))) = some true := H
    have A10 := Aside0.mk A100
    clear A100
    replace H := bnd H
    obtain ⟨t592, A11, H⟩ := H
    replace H := Option.bind_eq_some_iff.mp H
    obtain ⟨⟨t595, t596, t597⟩, A120, H⟩ := H
    replace H : ((impl_StatsFrom.f k t595 t596 t597 t592 a2).bind fun bt598 => ((laws_eqStats.f bt598.1 bt598.2.1 bt598.2.2.1 bt598.2.2.2.1 bt598.2.2.2.2.1 bt598.2.2.2.2.2.1 t584 t585 t586 t587 t588 t589).bind fun t606 => (if t606 = true then (laws_FnExactStatsFrom.j0 k l1 t592 (bt598.2.2.2.2.2.2 != t590)) else (laws_FnExactStatsFrom.j0 k l1 t592 true)))) = some true := H
    have A12 := Aside0.mk A120
    clear A120
    replace H := Option.bind_eq_some_iff.mp H
    obtain ⟨⟨t598, t599, t600, t601, t602, t603, t604⟩, A130, H⟩ := H
    replace H : ((laws_eqStats.f t598 t599 t600 t601 t602 t603 t584 t585 t586 t587 t588 t589).bind fun t606 => (if t606 = true then (laws_FnExactStatsFrom.j0 k l1 t592 (t604 != t590)) else (laws_FnExactStatsFrom.j0 k l1 t592 true))) = some true := H
    have A13 := Aside0.mk A130
    clear A130
    have HC14 := Aside0.mk H
    clear H
    go_enter Try.func3, Try.ntmps3
    go_upto_region 8 with (first | ((with_reducible refine gate_dst (N := 3) rfl ?_); refine bx_ 3 #[.int .i64 a0_0, .int .i64 a0_1, .int .i64 a0_2] 23 ?_; intro gb576 hg w15 hbox hb; have BK576 := Aside0.mk (hbox); have GW576 := gwe HB hg; have GE576 := GW576; replace HB := bst HB hb; clear hb hbox hg) | ((with_reducible refine gate_callee (f := 5) rfl ?_); refine gl_ (some 15) Try.func5 #[.slice A1 l1.length c1, .int .i64 1048576] rfl ?_; (with_reducible refine (laws_szNodeS.calls k _ _ l1 1048576 t577 _ ?side1 ?side2 A4.out).mono ?_); (case side1 => repeat (first | exact (Kd.C_below HR1.out HB.out) | (with_reducible refine Kd.C_alloc ?_ _) | (with_reducible refine Kd.C_drewN ?_ _) | (with_reducible refine Kd.C_drew ?_))); (case side2 => exact HC1.out); rintro e w16 ⟨rfl, hb⟩; refine ⟨_, rfl, ?_⟩; replace BK576 := bkb BK576 hb; replace HB := bst HB hb; (try clear hb); (try clear hk); obtain ⟨hcz17_0, hcz17_1, hcz17_2, hfz17_0, hfz17_1, hfz17_2⟩ := cl3 BK576) | ((with_reducible refine gate_callee (f := 7) rfl ?_); refine gl_ (some 20) Try.func7 #[.agg #[.int .i64 a0_0, .int .i64 a0_1, .int .i64 a0_2]] rfl ?_; (with_reducible refine (laws_toLeaf.calls a0_0 a0_1 a0_2 t578 t579 t580 _ A8.out).mono ?_); rintro e w18 ⟨rfl, hb⟩; refine ⟨_, rfl, ?_⟩; replace BK576 := bkb BK576 hb; replace HB := bst HB hb; (try clear hb); (try clear hk)) | ((with_reducible refine gate_callee (f := 8) rfl ?_); refine gl_ (some 22) Try.func8 #[.slice A1 l1.length c1] rfl ?_; (with_reducible refine (laws_toNodeS.calls k _ _ l1 t581 _ ?side1 ?side2 A9.out).mono ?_); (case side1 => repeat (first | exact (Kd.C_below HR1.out HB.out) | (with_reducible refine Kd.C_alloc ?_ _) | (with_reducible refine Kd.C_drewN ?_ _) | (with_reducible refine Kd.C_drew ?_))); (case side2 => exact HC1.out); rintro e w19 ⟨v582, rfl, ho0, hb⟩; refine ⟨_, rfl, ?_⟩; have HO583 := Aside0.mk (Kd.R_lower ho0 (below_size (below_later HB.out))); replace BK576 := bkb BK576 hb; replace HB := bst HB hb; (try clear hb); (try clear hk); (try clear ho0); obtain ⟨Ao20, co20, eo20⟩ := Kd.R_slice HO583.out; subst eo20) | ((with_reducible refine gate_callee (f := 6) rfl ?_); refine gl_ (some 24) Try.func6 #[.agg #[.int .i64 t578, .int .i64 t579, .int .i64 t580], .slice Ao20 t581.length co20, .int .i64 a2] rfl ?_; (with_reducible refine (spec_StatsFrom.calls k t578 t579 t580 _ _ t581 a2 t584 t585 t586 t587 t588 t589 t590 _ ?side1 ?side2 A10.out).mono ?_); (case side1 => repeat (first | exact (Kd.R_reads' HO583.out).2.2 | (with_reducible refine Kd.C_alloc ?_ _) | (with_reducible refine Kd.C_drewN ?_ _) | (with_reducible refine Kd.C_drew ?_))); (case side2 => exact (Kd.R_reads' HO583.out).2.1); rintro e w21 ⟨rfl, hb⟩; refine ⟨_, rfl, ?_⟩; replace HO583 := Aside0.mk (Kd.R_below (R_later HO583.out) hb); replace BK576 := bkb BK576 hb; replace HB := bst HB hb; (try clear hb); (try clear hk)) | ((with_reducible refine gate_dst (N := 8) rfl ?_); refine bx_ 8 #[.int .i64 0, .bool false, .int .i64 0, .string (⟨#[]⟩ : ByteArray), .int .i64 0, .string (⟨#[]⟩ : ByteArray)] 29 ?_; intro gb591 hg w22 hbox hb; have BK591 := Aside0.mk (hbox); have GW591 := gwe HB hg; have GE591 := GW591; have NB576_591 := nbl BK576 hg; have NB591_576 := nbr (nbl BK576 hg); replace HO583 := Aside0.mk (Kd.R_below (R_later HO583.out) hb); replace BK576 := bkb BK576 hb; replace HB := bst HB hb; clear hb hbox hg; have hnb23 := NB591_576.out; have hnc23 := NB576_591.out; obtain ⟨hcz24_0, hcz24_1, hcz24_2, hcz24_3, hcz24_4, hcz24_5, hfz24_0, hfz24_1, hfz24_2, hfz24_3, hfz24_4, hfz24_5⟩ := cl6 BK591) | ((with_reducible refine gate_callee (f := 8) rfl ?_); refine gl_ (some 28) Try.func8 #[.slice A1 l1.length c1] rfl ?_; (with_reducible refine (laws_toNodeS.calls k _ _ l1 t592 _ ?side1 ?side2 A11.out).mono ?_); (case side1 => exact Kd.C_below HR1.out (below_later HB.out)); (case side2 => exact HC1.out); rintro e w25 ⟨v593, rfl, ho0, hb⟩; refine ⟨_, rfl, ?_⟩; have HO594 := Aside0.mk (Kd.R_lower (Kd.R_new' ho0 (Kd.R_lt (by (with_reducible repeat (first | apply Kd.R_alloc | apply Kd.R_drewN | apply Kd.R_drew)); exact (Kd.R_mono (Kd.R_far (p := ⟨gb591, 5, none⟩) (Kd.R_far (p := ⟨gb591, 4, none⟩) (Kd.R_far (p := ⟨gb591, 3, none⟩) (Kd.R_far (p := ⟨gb591, 2, none⟩) (Kd.R_far (p := ⟨gb591, 1, none⟩) (Kd.R_far (p := ⟨gb591, 0, none⟩) (Kd.R_types HO583.out BK591.out (by decide)) (fun _ hk => hk.2) (.int .i64 t584)) (fun _ hk => hk.2) (.bool t585)) (fun _ hk => hk.2) (.int .i64 t586)) (fun _ hk => hk.2) (.string t587)) (fun _ hk => hk.2) (.int .i64 t588)) (fun _ hk => hk.2) (.string t589)) (fun _ h_ => h_.1))))) (below_size (below_later HB.out))); replace HO583 := Aside0.mk (Kd.R_elder' (by (with_reducible repeat (first | apply Kd.R_alloc | apply Kd.R_drewN | apply Kd.R_drew)); exact (Kd.R_mono (Kd.R_far (p := ⟨gb591, 5, none⟩) (Kd.R_far (p := ⟨gb591, 4, none⟩) (Kd.R_far (p := ⟨gb591, 3, none⟩) (Kd.R_far (p := ⟨gb591, 2, none⟩) (Kd.R_far (p := ⟨gb591, 1, none⟩) (Kd.R_far (p := ⟨gb591, 0, none⟩) (Kd.R_types HO583.out BK591.out (by decide)) (fun _ hk => hk.2) (.int .i64 t584)) (fun _ hk => hk.2) (.bool t585)) (fun _ hk => hk.2) (.int .i64 t586)) (fun _ hk => hk.2) (.string t587)) (fun _ hk => hk.2) (.int .i64 t588)) (fun _ hk => hk.2) (.string t589)) (fun _ h_ => h_.1))) (Kd.R_base ho0) hb); replace BK576 := bkb BK576 hb; replace BK591 := Aside0.mk (blk_below (g := gb591) (o := .cells #[.int .i64 t584, .bool t585, .int .i64 t586, .string t587, .int .i64 t588, .string t589] 29 (0, 0)) (blk_later BK591.out) hb); replace HB := bst HB hb; (try clear hb); (try clear hk); (try clear ho0); obtain ⟨hcz26_0, hcz26_1, hcz26_2, hfz26_0, hfz26_1, hfz26_2⟩ := cl3 BK576) | ((with_reducible refine gate_callee (f := 7) rfl ?_); refine gl_ (some 31) Try.func7 #[.agg #[.int .i64 a0_0, .int .i64 a0_1, .int .i64 a0_2]] rfl ?_; (with_reducible refine (laws_toLeaf.calls a0_0 a0_1 a0_2 t595 t596 t597 _ A12.out).mono ?_); rintro e w27 ⟨rfl, hb⟩; refine ⟨_, rfl, ?_⟩; replace HO583 := Aside0.mk (Kd.R_below (R_later HO583.out) hb); replace HO594 := Aside0.mk (Kd.R_below (R_later HO594.out) hb); replace BK576 := bkb BK576 hb; replace BK591 := bkb BK591 hb; replace HB := bst HB hb; (try clear hb); (try clear hk); obtain ⟨Ao28, co28, eo28⟩ := Kd.R_slice HO594.out; subst eo28) | ((with_reducible refine gate_callee (f := 9) rfl ?_); refine gl_ (some 34) Try.func9 #[.agg #[.int .i64 t595, .int .i64 t596, .int .i64 t597], .slice Ao28 t592.length co28, .int .i64 a2] rfl ?_; (with_reducible refine (impl_StatsFrom.calls k t595 t596 t597 _ _ t592 a2 t598 t599 t600 t601 t602 t603 t604 _ ?side1 ?side2 A13.out).mono ?_); (case side1 => repeat (first | exact (Kd.R_reads' HO594.out).2.2 | (with_reducible refine Kd.C_alloc ?_ _) | (with_reducible refine Kd.C_drewN ?_ _) | (with_reducible refine Kd.C_drew ?_))); (case side2 => exact (Kd.R_reads' HO594.out).2.1); rintro e w29 ⟨rfl, hb⟩; refine ⟨_, rfl, ?_⟩; replace HO583 := Aside0.mk (Kd.R_below (R_later HO583.out) hb); replace HO594 := Aside0.mk (Kd.R_below (R_later HO594.out) hb); replace BK576 := bkb BK576 hb; replace BK591 := bkb BK591 hb; replace HB := bst HB hb; (try clear hb); (try clear hk)) | ((with_reducible refine gate_dst (N := 11) rfl ?_); refine bx_ 11 #[.int .i64 0, .bool false, .int .i64 0, .string (⟨#[]⟩ : ByteArray), .int .i64 0, .string (⟨#[]⟩ : ByteArray)] 29 ?_; intro gb605 hg w30 hbox hb; have BK605 := Aside0.mk (hbox); have GW605 := gwe HB hg; have GE605 := GW605; have NB576_605 := nbl BK576 hg; have NB605_576 := nbr (nbl BK576 hg); have NB591_605 := nbl BK591 hg; have NB605_591 := nbr (nbl BK591 hg); replace HO583 := Aside0.mk (Kd.R_below (R_later HO583.out) hb); replace HO594 := Aside0.mk (Kd.R_below (R_later HO594.out) hb); replace BK576 := bkb BK576 hb; replace BK591 := bkb BK591 hb; replace HB := bst HB hb; clear hb hbox hg; have hnb31 := NB605_576.out; have hnc31 := NB576_605.out; have hnb32 := NB605_591.out; have hnc32 := NB591_605.out; obtain ⟨hcz33_0, hcz33_1, hcz33_2, hcz33_3, hcz33_4, hcz33_5, hfz33_0, hfz33_1, hfz33_2, hfz33_3, hfz33_4, hfz33_5⟩ := cl6 BK605))
    (try simp only [Act.put, List.setIfInBounds_toArray, List.set_cons_zero, List.set_cons_succ])
    go_cut [45] (fun v45 wc => ∃ (kq : Nat) (x45_13 : Bool), v45 = .bool x45_13 ∧ Aside0 (laws_FnExactStatsFrom.j0 kq l1 t592 x45_13 = some true) ∧ Aside0 (kq ≤ k) ∧ Aside0 (Kd.R k57 57 wc w.heap.size (fun _ => True) (.slice Ao28 t592.length co28) t592) ∧ Aside0 (wc.heap[gb576]? = some (.cells #[.int .i64 a0_0, .int .i64 a0_1, .int .i64 a0_2] 23 (0, 0))) ∧ Aside0 (wc.heap[gb591]? = some (.cells #[.int .i64 t584, .bool t585, .int .i64 t586, .string t587, .int .i64 t588, .string t589] 29 (0, 0))) ∧ Aside0 (wc.heap[gb605]? = some (.cells #[.int .i64 t598, .bool t599, .int .i64 t600, .string t601, .int .i64 t602, .string t603] 29 (0, 0))) ∧ Aside0 (Below w.heap.size w wc))
    case first =>
      have H := HC14.out
      clear HC14
      replace H := bnd H
      obtain ⟨t606, A34, H⟩ := H
      by_cases c35 : t606 = true
      · subst c35
        replace H := ifp rfl H
        have H' := Aside0.mk H
        clear H
        have hnb36 := NB605_576.out
        have hnc36 := NB576_605.out
        have hnb37 := NB605_591.out
        have hnc37 := NB591_605.out
        obtain ⟨hcz38_0, hcz38_1, hcz38_2, hcz38_3, hcz38_4, hcz38_5, hfz38_0, hfz38_1, hfz38_2, hfz38_3, hfz38_4, hfz38_5⟩ := cl6 BK605
        have hnb39 := NB591_576.out
        have hnc39 := NB576_591.out
        obtain ⟨hcz40_0, hcz40_1, hcz40_2, hcz40_3, hcz40_4, hcz40_5, hfz40_0, hfz40_1, hfz40_2, hfz40_3, hfz40_4, hfz40_5⟩ := cl6 BK591
        go_wp2_with (first | ((with_reducible refine gate_callee (f := 10) rfl ?_); refine gl_ (some 39) Try.func10 #[.agg #[.int .i64 t598, .bool t599, .int .i64 t600, .string t601, .int .i64 t602, .string t603], .agg #[.int .i64 t584, .bool t585, .int .i64 t586, .string t587, .int .i64 t588, .string t589]] rfl ?_; (with_reducible refine (laws_eqStats.calls t598 t599 t600 t601 t602 t603 t584 t585 t586 t587 t588 t589 true _ A34.out).mono ?_); rintro e w41 ⟨rfl, hb⟩; refine ⟨_, rfl, ?_⟩; replace HO583 := Aside0.mk (Kd.R_below (by (with_reducible repeat (first | apply Kd.R_alloc | apply Kd.R_drewN | apply Kd.R_drew)); exact (Kd.R_mono (Kd.R_far (p := ⟨gb605, 5, none⟩) (Kd.R_far (p := ⟨gb605, 4, none⟩) (Kd.R_far (p := ⟨gb605, 3, none⟩) (Kd.R_far (p := ⟨gb605, 2, none⟩) (Kd.R_far (p := ⟨gb605, 1, none⟩) (Kd.R_far (p := ⟨gb605, 0, none⟩) (Kd.R_types HO583.out BK605.out (by decide)) (fun _ hk => hk.2) (.int .i64 t598)) (fun _ hk => hk.2) (.bool t599)) (fun _ hk => hk.2) (.int .i64 t600)) (fun _ hk => hk.2) (.string t601)) (fun _ hk => hk.2) (.int .i64 t602)) (fun _ hk => hk.2) (.string t603)) (fun _ h_ => h_.1))) hb); replace HO594 := Aside0.mk (Kd.R_below (by (with_reducible repeat (first | apply Kd.R_alloc | apply Kd.R_drewN | apply Kd.R_drew)); exact (Kd.R_mono (Kd.R_far (p := ⟨gb605, 5, none⟩) (Kd.R_far (p := ⟨gb605, 4, none⟩) (Kd.R_far (p := ⟨gb605, 3, none⟩) (Kd.R_far (p := ⟨gb605, 2, none⟩) (Kd.R_far (p := ⟨gb605, 1, none⟩) (Kd.R_far (p := ⟨gb605, 0, none⟩) (Kd.R_types HO594.out BK605.out (by decide)) (fun _ hk => hk.2) (.int .i64 t598)) (fun _ hk => hk.2) (.bool t599)) (fun _ hk => hk.2) (.int .i64 t600)) (fun _ hk => hk.2) (.string t601)) (fun _ hk => hk.2) (.int .i64 t602)) (fun _ hk => hk.2) (.string t603)) (fun _ h_ => h_.1))) hb); replace BK576 := bkb BK576 hb; replace BK591 := bkb BK591 hb; replace BK605 := Aside0.mk (blk_below (g := gb605) (o := .cells #[.int .i64 t598, .bool t599, .int .i64 t600, .string t601, .int .i64 t602, .string t603] 29 (0, 0)) (blk_later BK605.out) hb); replace HB := bst HB hb; (try clear hb); (try clear hk)))
        go_meet
        case rel => exact ⟨_, ((t604 != t590)), sr, H', ⟨by first | omega | exact Nat.le_refl _⟩, ⟨R_later (Kd.R_mono HO594.out (fun _ hk => trivial))⟩, ⟨blk_later BK576.out⟩, ⟨blk_later BK591.out⟩, ⟨blk_later BK605.out⟩, ⟨below_later HB.out⟩⟩
      · replace c35 := Bool.eq_false_iff.mpr c35
        subst c35
        have H1 : (laws_FnExactStatsFrom.j0 k l1 t592 true) = some true := by rw [if_neg (show ¬ (false = true) by decide)] at H; exact H
        exact absurd H1 (by cases k <;> simp [laws_FnExactStatsFrom.j0])
    case rest =>
      clear HC14
      try clear c1
      try clear c5
      try clear c5b0
      try clear hcz17_0
      try clear hcz17_1
      try clear hcz17_2
      try clear hcz24_0
      try clear hcz24_1
      try clear hcz24_2
      try clear hcz24_3
      try clear hcz24_4
      try clear hcz24_5
      try clear hcz26_0
      try clear hcz26_1
      try clear hcz26_2
      try clear hcz33_0
      try clear hcz33_1
      try clear hcz33_2
      try clear hcz33_3
      try clear hcz33_4
      try clear hcz33_5
      try clear hfz17_0
      try clear hfz17_1
      try clear hfz17_2
      try clear hfz24_0
      try clear hfz24_1
      try clear hfz24_2
      try clear hfz24_3
      try clear hfz24_4
      try clear hfz24_5
      try clear hfz26_0
      try clear hfz26_1
      try clear hfz26_2
      try clear hfz33_0
      try clear hfz33_1
      try clear hfz33_2
      try clear hfz33_3
      try clear hfz33_4
      try clear hfz33_5
      obtain ⟨kq, x45_13, rfl, HA, HJ13, HO_10, BK576, BK591, BK605, HB⟩ := hcut
      cases kq with
      | zero => exact absurd HA.out (by simp [laws_FnExactStatsFrom.j0])
      | succ kj13 =>
        have H := HA.out
        clear HA
        simp only [laws_FnExactStatsFrom.j0] at H
        by_cases c48 : x45_13 = true
        · subst c48
          have H1 : (some false) = some true := by rw [if_pos rfl] at H; exact H
          cases H1
        · replace c48 := Bool.eq_false_iff.mpr c48
          subst c48
          replace H := ifn Bool.false_ne_true H
          replace H := bnd H
          obtain ⟨t607, A49, H⟩ := H
          replace H := bnd H
          obtain ⟨t610, A50, H⟩ := H
          by_cases c51 : t610 = true
          · subst c51
            replace H := ifp rfl H
            clear H
            go_wp2_with (first | ((with_reducible refine gate_callee (f := 8) rfl ?_); refine gl_ (some 48) Try.func8 #[.slice A1 l1.length c1] rfl ?_; (with_reducible refine (laws_toNodeS.calls kj13 _ _ l1 t607 _ ?side1 ?side2 A49.out).mono ?_); (case side1 => repeat (first | exact (Kd.C_below HR1.out HB.out) | (with_reducible refine Kd.C_alloc ?_ _) | (with_reducible refine Kd.C_drewN ?_ _) | (with_reducible refine Kd.C_drew ?_))); (case side2 => exact HC1.out); rintro e w52 ⟨v608, rfl, ho0, hb⟩; refine ⟨_, rfl, ?_⟩; have HO609 := Aside0.mk (Kd.R_lower (Kd.R_new' ho0 (Kd.R_lt (R_later HO_10.out))) (below_size (below_later HB.out))); replace HO_10 := Aside0.mk (Kd.R_elder' (R_later HO_10.out) (Kd.R_base ho0) hb); replace BK576 := bkb BK576 hb; replace BK591 := bkb BK591 hb; replace BK605 := bkb BK605 hb; replace HB := bst HB hb; (try clear hb); (try clear ho0); obtain ⟨Ao53, co53, eo53⟩ := Kd.R_slice HO609.out; subst eo53) | ((with_reducible refine gate_callee (f := 11) rfl ?_); refine gl_ (some 49) Try.func11 #[.slice Ao28 t592.length co28, .slice Ao53 t607.length co53] rfl ?_; (with_reducible refine (laws_eqNodeS.calls kj13 _ _ t592 _ _ t607 true _ ?side1 ?side2 ?side3 ?side4 A50.out).mono ?_); (case side1 => repeat (first | exact (Kd.R_reads' HO_10.out).2.2 | (with_reducible refine Kd.C_alloc ?_ _) | (with_reducible refine Kd.C_drewN ?_ _) | (with_reducible refine Kd.C_drew ?_))); (case side2 => exact (Kd.R_reads' HO_10.out).2.1); (case side3 => repeat (first | exact (Kd.R_reads' HO609.out).2.2 | (with_reducible refine Kd.C_alloc ?_ _) | (with_reducible refine Kd.C_drewN ?_ _) | (with_reducible refine Kd.C_drew ?_))); (case side4 => exact (Kd.R_reads' HO609.out).2.1); rintro e w54 ⟨rfl, hb⟩; refine ⟨_, rfl, ?_⟩; replace HO_10 := Aside0.mk (Kd.R_below (R_later HO_10.out) hb); replace HO609 := Aside0.mk (Kd.R_below (R_later HO609.out) hb); replace BK576 := bkb BK576 hb; replace BK591 := bkb BK591 hb; replace BK605 := bkb BK605 hb; replace HB := bst HB hb; (try clear hb)))
            go_ret
            exact fin_ (below_later HB.out)
          · replace c51 := Bool.eq_false_iff.mpr c51
            subst c51
            have H1 : (some false) = some true := by rw [if_neg (show ¬ (false = true) by decide)] at H; exact H
            cases H1
end Go.Proofs.Ytgiljoeekpfpmaa.PFnExactStatsFrom
