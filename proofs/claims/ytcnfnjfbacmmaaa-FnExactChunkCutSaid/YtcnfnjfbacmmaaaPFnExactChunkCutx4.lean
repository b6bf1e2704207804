/- The machine's side of FnExactChunkCut, written by wip/tools/hyb.py of this repo: each Go function as a plain Lean function, and the proof that the call comes to just its answer. No condition. -/
import Derived.Test.YtcnfnjfbacmmaaaPFnExactChunkCutx0
import Derived.Test.YtcnfnjfbacmmaaaPFnExactChunkCutx1
import Derived.Test.YtcnfnjfbacmmaaaPFnExactChunkCutx2
import Derived.Test.YtcnfnjfbacmmaaaPFnExactChunkCutx3
namespace Go.Proofs.Ytcnfnjfbacmmaaa.PFnExactChunkCut
open Go.RowKit Go.Proofs.YtcnfnjfbacmmaaaW.PrintWords Go.Proofs.YtcnfnjfbacmmaaaW.PrintLast Go.Proofs.YtcnfnjfbacmmaaaW.PrintMore Go.Proofs.YtcnfnjfbacmmaaaW.PrintMore2
attribute [local go_sem] max2_int min2_int max_two min_two max_three min_three max_four min_four   -- for this text's walks alone
set_option linter.unusedVariables false
set_option linter.unusedSimpArgs false

/-! ### laws_heldTripleS: function 19 -/
def laws_heldTripleS.l0 : Nat → List (S41) → Int → Int → Option (Int)
  | 0, _, _, _ => none
  | k + 1, x0, x1, x5 => if x5 < (x0.length : Int) then (if 0 ≤ x5 then (if ((rd_T41 x0 x5).f0) = x1 then (if ((rd_T41 x0 x5).f1) = (wrap64 (x1 + 1)) then (if ((rd_T41 x0 x5).f2.f0) = (wrap64 ((wrap64 (x1 + 1)) + 1)) then ((laws_markText.f k (wrap64 ((wrap64 ((wrap64 (x1 + 1)) + 1)) + 1))).bind fun t203 => (if ((rd_T41 x0 x5).f2.f1).toList = t203.toList then (laws_heldTripleS.l0 k x0 (wrap64 ((wrap64 ((wrap64 ((wrap64 (x1 + 1)) + 1)) + 1)) + 1)) (wrap64 (x5 + 1))) else (some (-1)))) else (some (-1))) else (some (-1))) else (some (-1))) else (none)) else (some x1)
def laws_heldTripleS.f (k : Nat) (l0 : List (S41)) (a1 : Int) : Option (Int) := laws_heldTripleS.l0 k l0 a1 0
def laws_heldTripleS.T13 : Bool × List (List Nat × List Nat) := (true, [([], []), ([], []), ([0, 1], [0, 1]), ([2], [2]), ([3], [3]), ([4], [4]), ([], []), ([6], [6]), ([5, 7], [5, 7])])
def laws_heldTripleS.B13 : List Nat := [0, 0, 3, 7, 15, 31, 0, 64, 255]
theorem laws_heldTripleS.tab13 : rtab .any (opsOf Try.f19 13) = laws_heldTripleS.T13 := by kernel_rfl
theorem laws_heldTripleS.bits13 : waitsOk laws_heldTripleS.T13.2 laws_heldTripleS.B13 = true := by kernel_rfl
set_option maxHeartbeats 8000000 in
set_option maxRecDepth 100000 in
theorem laws_heldTripleS.calls (k : Nat) (A0 : Option Addr) (c0 : Nat) (l0 : List (S41)) (a1 : Int) (r : Int) (w : World) (hr0 : Kd.C k41 w A0 l0.length l0) (hc0 : l0.length ≤ c0) (h : laws_heldTripleS.f k l0 a1 = some r) :
    Calls Try.prog 19 #[.slice A0 l0.length c0, .int .i64 a1] w fun e w' => e = .returned (.int .i64 r) ∧ Below w.heap.size w w' := by
  have HR0 := Aside0.mk hr0
  have HC0 := Aside0.mk hc0
  clear hr0 hc0
  have HB := Aside0.mk (Below.refl w.heap.size w)
  have H : (laws_heldTripleS.l0 k l0 a1 0) = some r := h
  clear h
  have H' := Aside0.mk H
  clear H
  go_enter Try.func19, Try.ntmps19
  go_wp2
  go_loopg [1, 5] k (fun kq v1 v5 w' => ∃ (x1_1 : Int) (x5_1 : Int), v1 = .int .i64 x1_1 ∧ v5 = .int .i64 x5_1 ∧ Aside0 (laws_heldTripleS.l0 kq l0 x1_1 x5_1 = some r) ∧ Aside0 (kq ≤ k) ∧ Aside0 (Below w.heap.size w w'))
  case atStart => exact ⟨(a1), (0), sr, sr, H', ⟨Nat.le_refl _⟩, ⟨below_later HB.out⟩⟩
  case round =>
    clear H'
    obtain ⟨x1_1, x5_1, rfl, rfl, HA, HK1, HB⟩ := hrel
    cases gk with
    | zero => exact absurd HA.out (by simp [laws_heldTripleS.l0])
    | succ k1 =>
      have H := HA.out
      clear HA
      simp only [laws_heldTripleS.l0] at H
      by_cases c3 : x5_1 < (l0.length : Int)
      · rw [if_pos c3] at H
        have c3b0 := decide_eq_true c3
        clear c3
        replace H := ifd H
        obtain ⟨c4b0, H⟩ := H
        by_cases c5 : ((rd_T41 l0 x5_1).f0) = x1_1
        · rw [if_pos c5] at H
          have c5b0 : (((rd_T41 l0 x5_1).f0) == x1_1) = true := beq_iff_eq.mpr c5
          have c5b1 : (((rd_T41 l0 x5_1).f0) != x1_1) = false := bne_eq_false_iff_eq.mpr c5
          clear c5
          by_cases c6 : ((rd_T41 l0 x5_1).f1) = (wrap64 (x1_1 + 1))
          · rw [if_pos c6] at H
            have c6b0 : (((rd_T41 l0 x5_1).f1) == (wrap64 (x1_1 + 1))) = true := beq_iff_eq.mpr c6
            have c6b1 : (((rd_T41 l0 x5_1).f1) != (wrap64 (x1_1 + 1))) = false := bne_eq_false_iff_eq.mpr c6
            clear c6
            by_cases c7 : ((rd_T41 l0 x5_1).f2.f0) = (wrap64 ((wrap64 (x1_1 + 1)) + 1))
            · rw [if_pos c7] at H
              have c7b0 : (((rd_T41 l0 x5_1).f2.f0) == (wrap64 ((wrap64 (x1_1 + 1)) + 1))) = true := beq_iff_eq.mpr c7
              have c7b1 : (((rd_T41 l0 x5_1).f2.f0) != (wrap64 ((wrap64 (x1_1 + 1)) + 1))) = false := bne_eq_false_iff_eq.mpr c7
              clear c7
              replace H := bnd H
              obtain ⟨t203, A8, H⟩ := H
              by_cases c9 : ((rd_T41 l0 x5_1).f2.f1).toList = t203.toList
              · rw [if_pos c9] at H
                have c9b0 : (((rd_T41 l0 x5_1).f2.f1).toList == t203.toList) = true := beq_iff_eq.mpr c9
                have c9b1 : (((rd_T41 l0 x5_1).f2.f1).toList != t203.toList) = false := bne_eq_false_iff_eq.mpr c9
                clear c9
                have H' := Aside0.mk H
                clear H
                have p199 : 0 ≤ (x5_1 : Int) := dcd
                have q199 : x5_1 < (l0.length : Int) := dcd
                obtain ⟨ad199, e199, hx199_0, hx199_1, hx199_2, hx199_3⟩ := at_T41 HR0.out x5_1 p199 q199
                cases e199
                replace hx199_0 := crd HB hx199_0
                replace hx199_1 := crd HB hx199_1
                replace hx199_2 := crd HB hx199_2
                replace hx199_3 := crd HB hx199_3
                replace p199 := eq_true p199
                replace q199 := eq_true q199
                have p200 : 0 ≤ (x5_1 : Int) := dcd
                have q200 : x5_1 < (l0.length : Int) := dcd
                obtain ⟨ad200, e200, hx200_0, hx200_1, hx200_2, hx200_3⟩ := at_T41 HR0.out x5_1 p200 q200
                obtain rfl : ad199 = ad200 := (by injection e200)
                replace hx200_0 := crd HB hx200_0
                replace hx200_1 := crd HB hx200_1
                replace hx200_2 := crd HB hx200_2
                replace hx200_3 := crd HB hx200_3
                replace p200 := eq_true p200
                replace q200 := eq_true q200
                have p201 : 0 ≤ (x5_1 : Int) := dcd
                have q201 : x5_1 < (l0.length : Int) := dcd
                obtain ⟨ad201, e201, hx201_0, hx201_1, hx201_2, hx201_3⟩ := at_T41 HR0.out x5_1 p201 q201
                obtain rfl : ad199 = ad201 := (by injection e201)
                replace hx201_0 := crd HB hx201_0
                replace hx201_1 := crd HB hx201_1
                replace hx201_2 := crd HB hx201_2
                replace hx201_3 := crd HB hx201_3
                replace p201 := eq_true p201
                replace q201 := eq_true q201
                try go_wp2
                have n0_ := Aside0.mk (below_drew1 HB.out)
                clear HB
                have HB := n0_
                clear n0_
                have p202 : 0 ≤ (x5_1 : Int) := dcd
                have q202 : x5_1 < (l0.length : Int) := dcd
                obtain ⟨ad202, e202, hx202_0, hx202_1, hx202_2, hx202_3⟩ := at_T41 HR0.out x5_1 p202 q202
                have hw202_3 := hx202_3
                have hw202_2 := hx202_2
                have hw202_1 := hx202_1
                have hw202_0 := hx202_0
                obtain rfl : ad199 = ad202 := (by injection e202)
                replace hx202_0 := crd HB hx202_0
                replace hx202_1 := crd HB hx202_1
                replace hx202_2 := crd HB hx202_2
                replace hx202_3 := crd HB hx202_3
                replace p202 := eq_true p202
                replace q202 := eq_true q202
                refine start_ (n := 9) (S := fun w' => w'.cell? (ad199.add ((x5_1).toNat * 4)) = some (.int .i64 ((rd_T41 l0 x5_1).f0)) ∧ w'.cell? ⟨(ad199.add ((x5_1).toNat * 4)).block, (ad199.add ((x5_1).toNat * 4)).off + 1, none⟩ = some (.int .i64 ((rd_T41 l0 x5_1).f1)) ∧ w'.cell? ⟨(ad199.add ((x5_1).toNat * 4)).block, (ad199.add ((x5_1).toNat * 4)).off + 2, none⟩ = some (.int .i64 ((rd_T41 l0 x5_1).f2.f0)) ∧ w'.cell? ⟨(ad199.add ((x5_1).toNat * 4)).block, (ad199.add ((x5_1).toNat * 4)).off + 3, none⟩ = some (.string ((rd_T41 l0 x5_1).f2.f1))) (ds := []) #[false, false, false, false, false, false, false, false, false] (by kernel_rfl) rfl rfl ⟨((HB.out.cell (World.block_lt_of_cell? w _ hw202_0)).trans hw202_0), ((HB.out.cell (World.block_lt_of_cell? w _ hw202_1)).trans hw202_1), ((HB.out.cell (World.block_lt_of_cell? w _ hw202_2)).trans hw202_2), ((HB.out.cell (World.block_lt_of_cell? w _ hw202_3)).trans hw202_3)⟩ (fun hHeld => ?_); refine with_tabW laws_heldTripleS.tab13 laws_heldTripleS.bits13 (fun HT_ HW_ => ?_)
                generalize wr.drew = w10 at HB hx202_0 hx202_1 hx202_2 hx202_3 hHeld ⊢
                refine pure_ (i := 0) (N := some 40) (v := ?_) (a' := ?_) #[true, false, false, false, false, false, false, false, false] rfl rfl (any_of HT_.out (by kernel_rfl)) (fun _ _ _ h => h) (Or.inl ⟨by rfl, ?_⟩) ?_ ?_
                rotate_left
                · intro w'
                  go_simp
                  with_reducible rfl
                rotate_left
                · simp only [Act.put, List.setIfInBounds_toArray, List.set_cons_zero, List.set_cons_succ, i64_w, i32_w]
                  rfl
                refine pure_ (i := 1) (N := some 41) (v := ?_) (a' := ?_) #[true, true, false, false, false, false, false, false, false] rfl rfl (any_of HT_.out (by kernel_rfl)) (fun _ _ _ h => h) (Or.inl ⟨by rfl, ?_⟩) ?_ ?_
                rotate_left
                · intro w'
                  go_simp
                  with_reducible rfl
                rotate_left
                · simp only [Act.put, List.setIfInBounds_toArray, List.set_cons_zero, List.set_cons_succ, i64_w, i32_w]
                  rfl
                refine pure_ (i := 2) (N := some 42) (v := ?_) (a' := ?_) #[true, true, true, false, false, false, false, false, false] rfl rfl (any_of HT_.out (by kernel_rfl)) (fun _ _ _ h => h) (Or.inl ⟨by rfl, ?_⟩) ?_ ?_
                rotate_left
                · intro w'
                  go_simp
                  with_reducible rfl
                rotate_left
                · simp only [Act.put, List.setIfInBounds_toArray, List.set_cons_zero, List.set_cons_succ, i64_w, i32_w]
                  rfl
                refine pure_ (i := 3) (N := some 43) (v := ?_) (a' := ?_) #[true, true, true, true, false, false, false, false, false] rfl rfl (any_of HT_.out (by kernel_rfl)) (fun _ _ _ h => h) (Or.inl ⟨by rfl, ?_⟩) ?_ ?_
                rotate_left
                · intro w'
                  go_simp
                  with_reducible rfl
                rotate_left
                · simp only [Act.put, List.setIfInBounds_toArray, List.set_cons_zero, List.set_cons_succ, i64_w, i32_w]
                  rfl
                refine pure_ (i := 4) (N := some 44) (v := ?_) (a' := ?_) #[true, true, true, true, true, false, false, false, false] rfl rfl (any_of HT_.out (by kernel_rfl)) (fun _ _ _ h => h) (Or.inl ⟨by rfl, ?_⟩) ?_ ?_
                rotate_left
                · intro w'
                  go_simp
                  with_reducible rfl
                rotate_left
                · simp only [Act.put, List.setIfInBounds_toArray, List.set_cons_zero, List.set_cons_succ, i64_w, i32_w]
                  rfl
                refine pure_ (i := 6) (N := some 46) (v := ?_) (a' := ?_) #[true, true, true, true, true, false, true, false, false] rfl rfl (any_of HT_.out (by kernel_rfl)) (fun _ _ _ h => h) (Or.inl ⟨by rfl, ?_⟩) ?_ ?_
                rotate_left
                · intro w'
                  go_simp
                  with_reducible rfl
                rotate_left
                · simp only [Act.put, List.setIfInBounds_toArray, List.set_cons_zero, List.set_cons_succ, i64_w, i32_w]
                  rfl
                refine take_ (i := 5) (N := some 45) (v := ?_) (a' := ?_) #[true, true, true, true, true, true, true, false, false] rfl rfl (take_ofW HT_.out HW_.out (by kernel_rfl)) (fun _ _ _ h => h) (Or.inl ⟨by rfl, ?_⟩) hHeld ?_ ?_
                rotate_left
                · rintro w' ⟨s0, s1, s2, s3⟩
                  go_simp
                  with_reducible rfl
                rotate_left
                · simp only [Act.put, List.setIfInBounds_toArray, List.set_cons_zero, List.set_cons_succ, i64_w, i32_w]
                  rfl
                refine one_ (i := 7) (N := some 47) #[true, true, true, true, true, true, true, true, false] rfl rfl (one_of HT_.out (by kernel_rfl)) (by decide) (fun K hK => ?_)
                refine goes_ Try.func18 (by kernel_rfl) rfl #[.int .i64 (wrap64 ((wrap64 ((wrap64 (x1_1 + 1)) + 1)) + 1))] (by rfl) rfl rfl (by (try simp only [List.map_toArray, List.map_cons, List.map_nil]); first | done | rfl | (simp only [List.length_drop, List.length_take]; rfl)) ?_
                with_reducible refine (laws_markText.calls k1 (wrap64 ((wrap64 ((wrap64 (x1_1 + 1)) + 1)) + 1)) t203 _ A8.out).mono ?_
                rintro e w11 ⟨rfl, hb⟩
                refine ⟨_, rfl, ?_⟩
                have n0_ := bst HB hb
                clear HB
                have HB := n0_
                clear n0_
                (try clear hb)
                (try clear hb2)
                (try clear hk)
                (try clear hi)
                refine hK.out _ _ ⟨((HB.out.cell (World.block_lt_of_cell? w _ hw202_0)).trans hw202_0), ((HB.out.cell (World.block_lt_of_cell? w _ hw202_1)).trans hw202_1), ((HB.out.cell (World.block_lt_of_cell? w _ hw202_2)).trans hw202_2), ((HB.out.cell (World.block_lt_of_cell? w _ hw202_3)).trans hw202_3)⟩ (fun hHeld => ?_)
                clear hK K
                refine norm_ (a' := ?_) ?_ ?_
                rotate_left
                · show Act.put _ (some 47) _ = _
                  simp only [Act.put, List.setIfInBounds_toArray, List.set_cons_zero, List.set_cons_succ, i64_w, i32_w]
                  rfl
                refine pure_ (i := 8) (N := some 48) (v := ?_) (a' := ?_) #[true, true, true, true, true, true, true, true, true] rfl rfl (any_of HT_.out (by kernel_rfl)) (fun _ _ _ h => h) (Or.inl ⟨by rfl, ?_⟩) ?_ ?_
                rotate_left
                · intro w'
                  go_simp
                  with_reducible rfl
                rotate_left
                · simp only [Act.put, List.setIfInBounds_toArray, List.set_cons_zero, List.set_cons_succ, i64_w, i32_w]
                  rfl
                refine done_ (done_of HT_.out (by kernel_rfl)) ?_
                try go_wp2
                go_roundg k1
                case measure => have := HK1.out; omega
                case rel => exact ⟨(wrap64 ((wrap64 ((wrap64 ((wrap64 (x1_1 + 1)) + 1)) + 1)) + 1)), (wrap64 (x5_1 + 1)), sr, sr, H', ⟨by have := HK1.out; omega⟩, ⟨below_later HB.out⟩⟩
              · rw [if_neg c9] at H
                have c9b0 : (((rd_T41 l0 x5_1).f2.f1).toList == t203.toList) = false := beq_eq_false_iff_ne.mpr c9
                have c9b1 : (((rd_T41 l0 x5_1).f2.f1).toList != t203.toList) = true := bne_iff_ne.mpr c9
                obtain rfl := Option.some.inj H
                have p199 : 0 ≤ (x5_1 : Int) := dcd
                have q199 : x5_1 < (l0.length : Int) := dcd
                obtain ⟨ad199, e199, hx199_0, hx199_1, hx199_2, hx199_3⟩ := at_T41 HR0.out x5_1 p199 q199
                cases e199
                replace hx199_0 := crd HB hx199_0
                replace hx199_1 := crd HB hx199_1
                replace hx199_2 := crd HB hx199_2
                replace hx199_3 := crd HB hx199_3
                replace p199 := eq_true p199
                replace q199 := eq_true q199
                have p200 : 0 ≤ (x5_1 : Int) := dcd
                have q200 : x5_1 < (l0.length : Int) := dcd
                obtain ⟨ad200, e200, hx200_0, hx200_1, hx200_2, hx200_3⟩ := at_T41 HR0.out x5_1 p200 q200
                obtain rfl : ad199 = ad200 := (by injection e200)
                replace hx200_0 := crd HB hx200_0
                replace hx200_1 := crd HB hx200_1
                replace hx200_2 := crd HB hx200_2
                replace hx200_3 := crd HB hx200_3
                replace p200 := eq_true p200
                replace q200 := eq_true q200
                have p201 : 0 ≤ (x5_1 : Int) := dcd
                have q201 : x5_1 < (l0.length : Int) := dcd
                obtain ⟨ad201, e201, hx201_0, hx201_1, hx201_2, hx201_3⟩ := at_T41 HR0.out x5_1 p201 q201
                obtain rfl : ad199 = ad201 := (by injection e201)
                replace hx201_0 := crd HB hx201_0
                replace hx201_1 := crd HB hx201_1
                replace hx201_2 := crd HB hx201_2
                replace hx201_3 := crd HB hx201_3
                replace p201 := eq_true p201
                replace q201 := eq_true q201
                try go_wp2
                have n0_ := Aside0.mk (below_drew1 HB.out)
                clear HB
                have HB := n0_
                clear n0_
                have p202 : 0 ≤ (x5_1 : Int) := dcd
                have q202 : x5_1 < (l0.length : Int) := dcd
                obtain ⟨ad202, e202, hx202_0, hx202_1, hx202_2, hx202_3⟩ := at_T41 HR0.out x5_1 p202 q202
                have hw202_3 := hx202_3
                have hw202_2 := hx202_2
                have hw202_1 := hx202_1
                have hw202_0 := hx202_0
                obtain rfl : ad199 = ad202 := (by injection e202)
                replace hx202_0 := crd HB hx202_0
                replace hx202_1 := crd HB hx202_1
                replace hx202_2 := crd HB hx202_2
                replace hx202_3 := crd HB hx202_3
                replace p202 := eq_true p202
                replace q202 := eq_true q202
                refine start_ (n := 9) (S := fun w' => w'.cell? (ad199.add ((x5_1).toNat * 4)) = some (.int .i64 ((rd_T41 l0 x5_1).f0)) ∧ w'.cell? ⟨(ad199.add ((x5_1).toNat * 4)).block, (ad199.add ((x5_1).toNat * 4)).off + 1, none⟩ = some (.int .i64 ((rd_T41 l0 x5_1).f1)) ∧ w'.cell? ⟨(ad199.add ((x5_1).toNat * 4)).block, (ad199.add ((x5_1).toNat * 4)).off + 2, none⟩ = some (.int .i64 ((rd_T41 l0 x5_1).f2.f0)) ∧ w'.cell? ⟨(ad199.add ((x5_1).toNat * 4)).block, (ad199.add ((x5_1).toNat * 4)).off + 3, none⟩ = some (.string ((rd_T41 l0 x5_1).f2.f1))) (ds := []) #[false, false, false, false, false, false, false, false, false] (by kernel_rfl) rfl rfl ⟨((HB.out.cell (World.block_lt_of_cell? w _ hw202_0)).trans hw202_0), ((HB.out.cell (World.block_lt_of_cell? w _ hw202_1)).trans hw202_1), ((HB.out.cell (World.block_lt_of_cell? w _ hw202_2)).trans hw202_2), ((HB.out.cell (World.block_lt_of_cell? w _ hw202_3)).trans hw202_3)⟩ (fun hHeld => ?_); refine with_tabW laws_heldTripleS.tab13 laws_heldTripleS.bits13 (fun HT_ HW_ => ?_)
                generalize wr.drew = w12 at HB hx202_0 hx202_1 hx202_2 hx202_3 hHeld ⊢
                refine pure_ (i := 0) (N := some 40) (v := ?_) (a' := ?_) #[true, false, false, false, false, false, false, false, false] rfl rfl (any_of HT_.out (by kernel_rfl)) (fun _ _ _ h => h) (Or.inl ⟨by rfl, ?_⟩) ?_ ?_
                rotate_left
                · intro w'
                  go_simp
                  with_reducible rfl
                rotate_left
                · simp only [Act.put, List.setIfInBounds_toArray, List.set_cons_zero, List.set_cons_succ, i64_w, i32_w]
                  rfl
                refine pure_ (i := 1) (N := some 41) (v := ?_) (a' := ?_) #[true, true, false, false, false, false, false, false, false] rfl rfl (any_of HT_.out (by kernel_rfl)) (fun _ _ _ h => h) (Or.inl ⟨by rfl, ?_⟩) ?_ ?_
                rotate_left
                · intro w'
                  go_simp
                  with_reducible rfl
                rotate_left
                · simp only [Act.put, List.setIfInBounds_toArray, List.set_cons_zero, List.set_cons_succ, i64_w, i32_w]
                  rfl
                refine pure_ (i := 2) (N := some 42) (v := ?_) (a' := ?_) #[true, true, true, false, false, false, false, false, false] rfl rfl (any_of HT_.out (by kernel_rfl)) (fun _ _ _ h => h) (Or.inl ⟨by rfl, ?_⟩) ?_ ?_
                rotate_left
                · intro w'
                  go_simp
                  with_reducible rfl
                rotate_left
                · simp only [Act.put, List.setIfInBounds_toArray, List.set_cons_zero, List.set_cons_succ, i64_w, i32_w]
                  rfl
                refine pure_ (i := 3) (N := some 43) (v := ?_) (a' := ?_) #[true, true, true, true, false, false, false, false, false] rfl rfl (any_of HT_.out (by kernel_rfl)) (fun _ _ _ h => h) (Or.inl ⟨by rfl, ?_⟩) ?_ ?_
                rotate_left
                · intro w'
                  go_simp
                  with_reducible rfl
                rotate_left
                · simp only [Act.put, List.setIfInBounds_toArray, List.set_cons_zero, List.set_cons_succ, i64_w, i32_w]
                  rfl
                refine pure_ (i := 4) (N := some 44) (v := ?_) (a' := ?_) #[true, true, true, true, true, false, false, false, false] rfl rfl (any_of HT_.out (by kernel_rfl)) (fun _ _ _ h => h) (Or.inl ⟨by rfl, ?_⟩) ?_ ?_
                rotate_left
                · intro w'
                  go_simp
                  with_reducible rfl
                rotate_left
                · simp only [Act.put, List.setIfInBounds_toArray, List.set_cons_zero, List.set_cons_succ, i64_w, i32_w]
                  rfl
                refine pure_ (i := 6) (N := some 46) (v := ?_) (a' := ?_) #[true, true, true, true, true, false, true, false, false] rfl rfl (any_of HT_.out (by kernel_rfl)) (fun _ _ _ h => h) (Or.inl ⟨by rfl, ?_⟩) ?_ ?_
                rotate_left
                · intro w'
                  go_simp
                  with_reducible rfl
                rotate_left
                · simp only [Act.put, List.setIfInBounds_toArray, List.set_cons_zero, List.set_cons_succ, i64_w, i32_w]
                  rfl
                refine take_ (i := 5) (N := some 45) (v := ?_) (a' := ?_) #[true, true, true, true, true, true, true, false, false] rfl rfl (take_ofW HT_.out HW_.out (by kernel_rfl)) (fun _ _ _ h => h) (Or.inl ⟨by rfl, ?_⟩) hHeld ?_ ?_
                rotate_left
                · rintro w' ⟨s0, s1, s2, s3⟩
                  go_simp
                  with_reducible rfl
                rotate_left
                · simp only [Act.put, List.setIfInBounds_toArray, List.set_cons_zero, List.set_cons_succ, i64_w, i32_w]
                  rfl
                refine one_ (i := 7) (N := some 47) #[true, true, true, true, true, true, true, true, false] rfl rfl (one_of HT_.out (by kernel_rfl)) (by decide) (fun K hK => ?_)
                refine goes_ Try.func18 (by kernel_rfl) rfl #[.int .i64 (wrap64 ((wrap64 ((wrap64 (x1_1 + 1)) + 1)) + 1))] (by rfl) rfl rfl (by (try simp only [List.map_toArray, List.map_cons, List.map_nil]); first | done | rfl | (simp only [List.length_drop, List.length_take]; rfl)) ?_
                with_reducible refine (laws_markText.calls k1 (wrap64 ((wrap64 ((wrap64 (x1_1 + 1)) + 1)) + 1)) t203 _ A8.out).mono ?_
                rintro e w13 ⟨rfl, hb⟩
                refine ⟨_, rfl, ?_⟩
                have n0_ := bst HB hb
                clear HB
                have HB := n0_
                clear n0_
                (try clear hb)
                (try clear hb2)
                (try clear hk)
                (try clear hi)
                refine hK.out _ _ ⟨((HB.out.cell (World.block_lt_of_cell? w _ hw202_0)).trans hw202_0), ((HB.out.cell (World.block_lt_of_cell? w _ hw202_1)).trans hw202_1), ((HB.out.cell (World.block_lt_of_cell? w _ hw202_2)).trans hw202_2), ((HB.out.cell (World.block_lt_of_cell? w _ hw202_3)).trans hw202_3)⟩ (fun hHeld => ?_)
                clear hK K
                refine norm_ (a' := ?_) ?_ ?_
                rotate_left
                · show Act.put _ (some 47) _ = _
                  simp only [Act.put, List.setIfInBounds_toArray, List.set_cons_zero, List.set_cons_succ, i64_w, i32_w]
                  rfl
                refine pure_ (i := 8) (N := some 48) (v := ?_) (a' := ?_) #[true, true, true, true, true, true, true, true, true] rfl rfl (any_of HT_.out (by kernel_rfl)) (fun _ _ _ h => h) (Or.inl ⟨by rfl, ?_⟩) ?_ ?_
                rotate_left
                · intro w'
                  go_simp
                  with_reducible rfl
                rotate_left
                · simp only [Act.put, List.setIfInBounds_toArray, List.set_cons_zero, List.set_cons_succ, i64_w, i32_w]
                  rfl
                refine done_ (done_of HT_.out (by kernel_rfl)) ?_
                try go_wp2
                go_ret
                exact fin_ (below_later HB.out)
            · rw [if_neg c7] at H
              have c7b0 : (((rd_T41 l0 x5_1).f2.f0) == (wrap64 ((wrap64 (x1_1 + 1)) + 1))) = false := beq_eq_false_iff_ne.mpr c7
              have c7b1 : (((rd_T41 l0 x5_1).f2.f0) != (wrap64 ((wrap64 (x1_1 + 1)) + 1))) = true := bne_iff_ne.mpr c7
              obtain rfl := Option.some.inj H
              have p199 : 0 ≤ (x5_1 : Int) := dcd
              have q199 : x5_1 < (l0.length : Int) := dcd
              obtain ⟨ad199, e199, hx199_0, hx199_1, hx199_2, hx199_3⟩ := at_T41 HR0.out x5_1 p199 q199
              cases e199
              replace hx199_0 := crd HB hx199_0
              replace hx199_1 := crd HB hx199_1
              replace hx199_2 := crd HB hx199_2
              replace hx199_3 := crd HB hx199_3
              replace p199 := eq_true p199
              replace q199 := eq_true q199
              have p200 : 0 ≤ (x5_1 : Int) := dcd
              have q200 : x5_1 < (l0.length : Int) := dcd
              obtain ⟨ad200, e200, hx200_0, hx200_1, hx200_2, hx200_3⟩ := at_T41 HR0.out x5_1 p200 q200
              obtain rfl : ad199 = ad200 := (by injection e200)
              replace hx200_0 := crd HB hx200_0
              replace hx200_1 := crd HB hx200_1
              replace hx200_2 := crd HB hx200_2
              replace hx200_3 := crd HB hx200_3
              replace p200 := eq_true p200
              replace q200 := eq_true q200
              have p201 : 0 ≤ (x5_1 : Int) := dcd
              have q201 : x5_1 < (l0.length : Int) := dcd
              obtain ⟨ad201, e201, hx201_0, hx201_1, hx201_2, hx201_3⟩ := at_T41 HR0.out x5_1 p201 q201
              obtain rfl : ad199 = ad201 := (by injection e201)
              replace hx201_0 := crd HB hx201_0
              replace hx201_1 := crd HB hx201_1
              replace hx201_2 := crd HB hx201_2
              replace hx201_3 := crd HB hx201_3
              replace p201 := eq_true p201
              replace q201 := eq_true q201
              go_wp2
              go_ret
              exact fin_ (below_later HB.out)
          · rw [if_neg c6] at H
            have c6b0 : (((rd_T41 l0 x5_1).f1) == (wrap64 (x1_1 + 1))) = false := beq_eq_false_iff_ne.mpr c6
            have c6b1 : (((rd_T41 l0 x5_1).f1) != (wrap64 (x1_1 + 1))) = true := bne_iff_ne.mpr c6
            obtain rfl := Option.some.inj H
            have p199 : 0 ≤ (x5_1 : Int) := dcd
            have q199 : x5_1 < (l0.length : Int) := dcd
            obtain ⟨ad199, e199, hx199_0, hx199_1, hx199_2, hx199_3⟩ := at_T41 HR0.out x5_1 p199 q199
            cases e199
            replace hx199_0 := crd HB hx199_0
            replace hx199_1 := crd HB hx199_1
            replace hx199_2 := crd HB hx199_2
            replace hx199_3 := crd HB hx199_3
            replace p199 := eq_true p199
            replace q199 := eq_true q199
            have p200 : 0 ≤ (x5_1 : Int) := dcd
            have q200 : x5_1 < (l0.length : Int) := dcd
            obtain ⟨ad200, e200, hx200_0, hx200_1, hx200_2, hx200_3⟩ := at_T41 HR0.out x5_1 p200 q200
            obtain rfl : ad199 = ad200 := (by injection e200)
            replace hx200_0 := crd HB hx200_0
            replace hx200_1 := crd HB hx200_1
            replace hx200_2 := crd HB hx200_2
            replace hx200_3 := crd HB hx200_3
            replace p200 := eq_true p200
            replace q200 := eq_true q200
            go_wp2
            go_ret
            exact fin_ (below_later HB.out)
        · rw [if_neg c5] at H
          have c5b0 : (((rd_T41 l0 x5_1).f0) == x1_1) = false := beq_eq_false_iff_ne.mpr c5
          have c5b1 : (((rd_T41 l0 x5_1).f0) != x1_1) = true := bne_iff_ne.mpr c5
          obtain rfl := Option.some.inj H
          have p199 : 0 ≤ (x5_1 : Int) := dcd
          have q199 : x5_1 < (l0.length : Int) := dcd
          obtain ⟨ad199, e199, hx199_0, hx199_1, hx199_2, hx199_3⟩ := at_T41 HR0.out x5_1 p199 q199
          cases e199
          replace hx199_0 := crd HB hx199_0
          replace hx199_1 := crd HB hx199_1
          replace hx199_2 := crd HB hx199_2
          replace hx199_3 := crd HB hx199_3
          replace p199 := eq_true p199
          replace q199 := eq_true q199
          go_wp2
          go_ret
          exact fin_ (below_later HB.out)
      · rw [if_neg c3] at H
        have c3b0 := decide_eq_false c3
        clear c3
        obtain rfl := Option.some.inj H
        go_wp2
        go_ret
        exact fin_ (below_later HB.out)

/-! ### laws_heldColumnS: function 12 -/
def laws_heldColumnS.l0 : Nat → List (S43) → Int → Int → Option (Int)
  | 0, _, _, _ => none
  | k + 1, x0, x1, x5 => if x5 < (x0.length : Int) then (if 0 ≤ x5 then ((laws_heldTripleS.f k ((rd_T43 x0 x5).f0) x1).bind fun t205 => (if t205 < 0 then (some (-1)) else (laws_heldColumnS.l0 k x0 t205 (wrap64 (x5 + 1))))) else (none)) else (some x1)
def laws_heldColumnS.f (k : Nat) (l0 : List (S43)) (a1 : Int) : Option (Int) := laws_heldColumnS.l0 k l0 a1 0
set_option maxHeartbeats 8000000 in
set_option maxRecDepth 100000 in
theorem laws_heldColumnS.calls (k : Nat) (A0 : Option Addr) (c0 : Nat) (l0 : List (S43)) (a1 : Int) (r : Int) (w : World) (hr0 : Kd.C k43 w A0 l0.length l0) (hc0 : l0.length ≤ c0) (h : laws_heldColumnS.f k l0 a1 = some r) :
    Calls Try.prog 12 #[.slice A0 l0.length c0, .int .i64 a1] w fun e w' => e = .returned (.int .i64 r) ∧ Below w.heap.size w w' := by
  have HR0 := Aside0.mk hr0
  have HC0 := Aside0.mk hc0
  clear hr0 hc0
  have HB := Aside0.mk (Below.refl w.heap.size w)
  have H : (laws_heldColumnS.l0 k l0 a1 0) = some r := h
  clear h
  have H' := Aside0.mk H
  clear H
  go_enter Try.func12, Try.ntmps12
  go_wp2
  go_loopg [1, 5] k (fun kq v1 v5 w' => ∃ (x1_1 : Int) (x5_1 : Int), v1 = .int .i64 x1_1 ∧ v5 = .int .i64 x5_1 ∧ Aside0 (laws_heldColumnS.l0 kq l0 x1_1 x5_1 = some r) ∧ Aside0 (kq ≤ k) ∧ Aside0 (Below w.heap.size w w'))
  case atStart => exact ⟨(a1), (0), sr, sr, H', ⟨Nat.le_refl _⟩, ⟨below_later HB.out⟩⟩
  case round =>
    clear H'
    obtain ⟨x1_1, x5_1, rfl, rfl, HA, HK1, HB⟩ := hrel
    cases gk with
    | zero => exact absurd HA.out (by simp [laws_heldColumnS.l0])
    | succ k1 =>
      have H := HA.out
      clear HA
      simp only [laws_heldColumnS.l0] at H
      by_cases c3 : x5_1 < (l0.length : Int)
      · rw [if_pos c3] at H
        have c3b0 := decide_eq_true c3
        clear c3
        replace H := ifd H
        obtain ⟨c4b0, H⟩ := H
        replace H := bnd H
        obtain ⟨t205, A5, H⟩ := H
        by_cases c6 : t205 < 0
        · rw [if_pos c6] at H
          have c6b0 := decide_eq_true c6
          clear c6
          obtain rfl := Option.some.inj H
          have p204 : 0 ≤ (x5_1 : Int) := dcd
          have q204 : x5_1 < (l0.length : Int) := dcd
          obtain ⟨ad204, A204_0, c204_0, e204, hx204_0, hl204_0, hi204_0⟩ := at_T43 HR0.out x5_1 p204 q204
          cases e204
          replace hx204_0 := crd HB hx204_0
          have HR204_0 := Aside0.mk hi204_0
          have HC204_0 := Aside0.mk hl204_0
          clear hi204_0 hl204_0
          replace p204 := eq_true p204
          replace q204 := eq_true q204
          go_wp2_with (first | ((with_reducible refine gate_callee (f := 19) rfl ?_); refine gl_ (some 18) Try.func19 #[.slice A204_0 ((rd_T43 l0 x5_1).f0).length c204_0, .int .i64 x1_1] rfl ?_; (with_reducible refine (laws_heldTripleS.calls k1 _ _ ((rd_T43 l0 x5_1).f0) x1_1 t205 _ ?side1 ?side2 A5.out).mono ?_); (case side1 => repeat (first | exact (Kd.C_below HR204_0.out HB.out) | (with_reducible refine Kd.C_alloc ?_ _) | (with_reducible refine Kd.C_drewN ?_ _) | (with_reducible refine Kd.C_drew ?_))); (case side2 => exact HC204_0.out); rintro e w7 ⟨rfl, hb⟩; refine ⟨_, rfl, ?_⟩; replace HB := bst HB hb; (try clear hb)))
          go_ret
          exact fin_ (below_later HB.out)
        · rw [if_neg c6] at H
          have c6b0 := decide_eq_false c6
          clear c6
          have H' := Aside0.mk H
          clear H
          have p204 : 0 ≤ (x5_1 : Int) := dcd
          have q204 : x5_1 < (l0.length : Int) := dcd
          obtain ⟨ad204, A204_0, c204_0, e204, hx204_0, hl204_0, hi204_0⟩ := at_T43 HR0.out x5_1 p204 q204
          cases e204
          replace hx204_0 := crd HB hx204_0
          have HR204_0 := Aside0.mk hi204_0
          have HC204_0 := Aside0.mk hl204_0
          clear hi204_0 hl204_0
          replace p204 := eq_true p204
          replace q204 := eq_true q204
          go_wp2_with (first | ((with_reducible refine gate_callee (f := 19) rfl ?_); refine gl_ (some 18) Try.func19 #[.slice A204_0 ((rd_T43 l0 x5_1).f0).length c204_0, .int .i64 x1_1] rfl ?_; (with_reducible refine (laws_heldTripleS.calls k1 _ _ ((rd_T43 l0 x5_1).f0) x1_1 t205 _ ?side1 ?side2 A5.out).mono ?_); (case side1 => repeat (first | exact (Kd.C_below HR204_0.out HB.out) | (with_reducible refine Kd.C_alloc ?_ _) | (with_reducible refine Kd.C_drewN ?_ _) | (with_reducible refine Kd.C_drew ?_))); (case side2 => exact HC204_0.out); rintro e w8 ⟨rfl, hb⟩; refine ⟨_, rfl, ?_⟩; replace HB := bst HB hb; (try clear hb)))
          go_roundg k1
          case measure => have := HK1.out; omega
          case rel => exact ⟨(t205), (wrap64 (x5_1 + 1)), sr, sr, H', ⟨by have := HK1.out; omega⟩, ⟨below_later HB.out⟩⟩
      · rw [if_neg c3] at H
        have c3b0 := decide_eq_false c3
        clear c3
        obtain rfl := Option.some.inj H
        go_wp2
        go_ret
        exact fin_ (below_later HB.out)

/-! ### laws_FnExactChunkCut: function 3 -/
def laws_FnExactChunkCut.j0 : Nat → List (S37) → Int → List (S43) → List (S43) → Bool → Option (Bool)
  | 0, _, _, _, _, _ => none
  | k + 1, x0, x1, x6, x8, x46 => if x46 = true then (some false) else ((laws_markColumnS.f k x8 1).bind fun bt227 => ((laws_heldColumnS.f k bt227.2 1).bind fun t228 => (if t228 < 0 then (some false) else (if t228 = bt227.1 then ((laws_toTripleS.f k x0).bind fun t229 => ((impl_ChunkCut.f k t229 x1).bind fun t232 => ((laws_eqColumnS.f k t232 x6).bind fun t235 => (if t235 = true then ((laws_heldColumnS.f k bt227.2 1).bind fun t236 => (if t236 < 0 then (some false) else (if t236 = bt227.1 then (some true) else (some false)))) else (some false))))) else (some false)))))
def laws_FnExactChunkCut.f (k : Nat) (l0 : List (S37)) (a1 : Int) : Option (Bool) := (laws_szTripleS.f k l0 1048576).bind fun t206 => (if t206 < 0 then (some true) else ((laws_toTripleS.f k l0).bind fun t207 => ((spec_ChunkCut.f k t207 a1).bind fun t210 => ((laws_toTripleS.f k l0).bind fun t213 => ((impl_ChunkCut.f k t213 a1).bind fun t216 => ((laws_eqColumnS.f k t216 t210).bind fun t219 => (if t219 = true then ((laws_toTripleS.f k l0).bind fun t220 => ((laws_eqTripleS.f k t213 t220).bind fun t223 => (if t223 = true then ((laws_markTripleS.f k t213 1).bind fun bt224 => (if bt224.1 < 0 then (laws_FnExactChunkCut.j0 k l0 a1 t210 t216 true) else ((laws_eqColumnS.f k t216 t210).bind fun t226 => (laws_FnExactChunkCut.j0 k l0 a1 t210 t216 (!t226))))) else (some false)))) else (some false))))))))
set_option maxHeartbeats 8000000 in
set_option maxRecDepth 100000 in
theorem laws_FnExactChunkCut.calls (k : Nat) (A0 : Option Addr) (c0 : Nat) (l0 : List (S37)) (a1 : Int) (r : Bool) (w : World) (hr0 : Kd.C k37 w A0 l0.length l0) (hc0 : l0.length ≤ c0) (h : laws_FnExactChunkCut.f k l0 a1 = some true) :
    Calls Try.prog 3 #[.slice A0 l0.length c0, .int .i64 a1] w fun e w' => e = .returned (.bool true) ∧ Below w.heap.size w w' := by
  have HR0 := Aside0.mk hr0
  have HC0 := Aside0.mk hc0
  clear hr0 hc0
  have HB := Aside0.mk (Below.refl w.heap.size w)
  have H : ((laws_szTripleS.f k l0 1048576).bind fun t206 => (if t206 < 0 then (some true) else ((laws_toTripleS.f k l0).bind fun t207 => ((spec_ChunkCut.f k t207 a1).bind fun t210 => ((laws_toTripleS.f k l0).bind fun t213 => ((impl_ChunkCut.f k t213 a1).bind fun t216 => ((laws_eqColumnS.f k t216 t210).bind fun t219 => (if t219 = true then ((laws_toTripleS.f k l0).bind fun t220 => ((laws_eqTripleS.f k t213 t220).bind fun t223 => (if t223 = true then ((laws_markTripleS.f k t213 1).bind fun bt224 => (if bt224.1 < 0 then (laws_FnExactChunkCut.j0 k l0 a1 t210 t216 true) else ((laws_eqColumnS.f k t216 t210).bind fun t226 => (laws_FnExactChunkCut.j0 k l0 a1 t210 t216 (!t226))))) else (some false)))) else (some false))))))))) = some true := h
  clear h
  replace H := bnd H
  obtain ⟨t206, A3, H⟩ := H
  by_cases c4 : t206 < 0
  · rw [if_pos c4] at H
    have c4b0 := decide_eq_true c4
    clear c4
    clear H
    go_enter Try.func3, Try.ntmps3
    go_wp2_with (first | ((with_reducible refine gate_callee (f := 4) rfl ?_); refine gl_ (some 15) Try.func4 #[.slice A0 l0.length c0, .int .i64 1048576] rfl ?_; (with_reducible refine (laws_szTripleS.calls k _ _ l0 1048576 t206 _ ?side1 ?side2 A3.out).mono ?_); (case side1 => exact C_later HR0.out); (case side2 => exact HC0.out); rintro e w5 ⟨rfl, hb⟩; refine ⟨_, rfl, ?_⟩; replace HB := bst HB hb; (try clear hb)))
    go_ret
    exact fin_ (below_later HB.out)
  · rw [if_neg c4] at H
    have c4b0 := decide_eq_false c4
    clear c4
    replace H := bnd H
    obtain ⟨t207, A6, H⟩ := H
    replace H := bnd H
    obtain ⟨t210, A7, H⟩ := H
    replace H := bnd H
    obtain ⟨t213, A8, H⟩ := H
    replace H := bnd H
    obtain ⟨t216, A9, H⟩ := H
    replace H := bnd H
    obtain ⟨t219, A10, H⟩ := H
    by_cases c11 : t219 = true
    · subst c11
      replace H := ifp rfl H
      replace H := bnd H
      obtain ⟨t220, A12, H⟩ := H
      replace H := bnd H
      obtain ⟨t223, A13, H⟩ := H
      by_cases c14 : t223 = true
      · subst c14
        replace H := ifp rfl H
        replace H := Option.bind_eq_some_iff.mp H
        obtain ⟨⟨t224, t225⟩, A150, H⟩ := H
        replace H : (if t224 < 0 then (laws_FnExactChunkCut.j0 k l0 a1 t210 t216 true) else ((laws_eqColumnS.f k t216 t210).bind fun t226 => (laws_FnExactChunkCut.j0 k l0 a1 t210 t216 (!t226)))) = some true := H
        have A15 := Aside0.mk A150
        clear A150
        have HC16 := Aside0.mk H
        clear H
        go_enter Try.func3, Try.ntmps3
        go_upto_region 14 with (first | ((with_reducible refine gate_callee (f := 4) rfl ?_); refine gl_ (some 15) Try.func4 #[.slice A0 l0.length c0, .int .i64 1048576] rfl ?_; (with_reducible refine (laws_szTripleS.calls k _ _ l0 1048576 t206 _ ?side1 ?side2 A3.out).mono ?_); (case side1 => exact C_later HR0.out); (case side2 => exact HC0.out); rintro e w17 ⟨rfl, hb⟩; refine ⟨_, rfl, ?_⟩; replace HB := bst HB hb; (try clear hb)) | ((with_reducible refine gate_callee (f := 6) rfl ?_); refine gl_ (some 19) Try.func6 #[.slice A0 l0.length c0] rfl ?_; (with_reducible refine (laws_toTripleS.calls k _ _ l0 t207 _ ?side1 ?side2 A6.out).mono ?_); (case side1 => repeat (first | exact (Kd.C_below HR0.out HB.out) | (with_reducible refine Kd.C_alloc ?_ _) | (with_reducible refine Kd.C_drewN ?_ _) | (with_reducible refine Kd.C_drew ?_))); (case side2 => exact HC0.out); rintro e w18 ⟨v208, rfl, ho0, hb⟩; refine ⟨_, rfl, ?_⟩; have HO209 := Aside0.mk (Kd.R_lower ho0 (below_size (below_later HB.out))); replace HB := bst HB hb; (try clear hb); (try clear ho0); obtain ⟨Ao19, co19, eo19⟩ := Kd.R_slice HO209.out; subst eo19) | ((with_reducible refine gate_callee (f := 5) rfl ?_); refine gl_ (some 21) Try.func5 #[.slice Ao19 t207.length co19, .int .i64 a1] rfl ?_; (with_reducible refine (spec_ChunkCut.calls k _ _ t207 a1 t210 _ ?side1 ?side2 A7.out).mono ?_); (case side1 => repeat (first | exact (Kd.R_reads' HO209.out).2.2 | (with_reducible refine Kd.C_alloc ?_ _) | (with_reducible refine Kd.C_drewN ?_ _) | (with_reducible refine Kd.C_drew ?_))); (case side2 => exact (Kd.R_reads' HO209.out).2.1); rintro e w20 ⟨v211, rfl, ho0, hb⟩; refine ⟨_, rfl, ?_⟩; have HO212 := Aside0.mk (Kd.S_lower (Kd.S_new' ho0 (Kd.R_lt (R_later HO209.out))) (below_size (below_later HB.out))); replace HO209 := Aside0.mk (Kd.R_below (R_later HO209.out) hb); replace HB := bst HB hb; (try clear hb); (try clear ho0)) | ((with_reducible refine gate_callee (f := 6) rfl ?_); refine gl_ (some 23) Try.func6 #[.slice A0 l0.length c0] rfl ?_; (with_reducible refine (laws_toTripleS.calls k _ _ l0 t213 _ ?side1 ?side2 A8.out).mono ?_); (case side1 => repeat (first | exact (Kd.C_below HR0.out HB.out) | (with_reducible refine Kd.C_alloc ?_ _) | (with_reducible refine Kd.C_drewN ?_ _) | (with_reducible refine Kd.C_drew ?_))); (case side2 => exact HC0.out); rintro e w21 ⟨v214, rfl, ho0, hb⟩; refine ⟨_, rfl, ?_⟩; have HO215 := Aside0.mk (Kd.R_lower (Kd.R_new' ho0 (Kd.R_lt (R_later HO209.out))) (below_size (below_later HB.out))); replace HO209 := Aside0.mk (Kd.R_elder' (R_later HO209.out) (Kd.R_base ho0) hb); replace HO212 := Aside0.mk (Kd.S_elder' (by (with_reducible repeat (first | apply Kd.S_alloc | apply Kd.S_drewN | apply Kd.S_drew)); exact HO212.out) (Kd.R_base ho0) hb); replace HB := bst HB hb; (try clear hb); (try clear ho0); obtain ⟨Ao22, co22, eo22⟩ := Kd.R_slice HO215.out; subst eo22) | ((with_reducible refine gate_callee (f := 7) rfl ?_); refine gl_ (some 26) Try.func7 #[.slice Ao22 t213.length co22, .int .i64 a1] rfl ?_; (with_reducible refine (impl_ChunkCut.calls k _ _ t213 a1 t216 _ ?side1 ?side2 A9.out).mono ?_); (case side1 => repeat (first | exact (Kd.R_reads' HO215.out).2.2 | (with_reducible refine Kd.C_alloc ?_ _) | (with_reducible refine Kd.C_drewN ?_ _) | (with_reducible refine Kd.C_drew ?_))); (case side2 => exact (Kd.R_reads' HO215.out).2.1); rintro e w23 ⟨v217, rfl, ho0, hb⟩; refine ⟨_, rfl, ?_⟩; obtain ⟨m_, hm_⟩ := age_of hb; replace ho0 := Kd.S_mono (ok' := fun k_ => m_ ≤ k_) (Kd.S_bound ho0) (fun k_ hk_ => by rw [hm_]; exact hk_.2.1); replace HO212 := Aside0.mk (Kd.S_mono (ok' := fun k_ => (k_ < m_ ∧ some k_ ≠ (.slice Ao19 t207.length co19 : Value).ownBlock) ∧ some k_ ≠ (.slice Ao22 t213.length co22 : Value).ownBlock) (Kd.S_bound HO212.out) (fun k_ hk_ => ⟨⟨by rw [hm_]; exact hk_.2.2.1, hk_.1.1.2⟩, hk_.1.2⟩)); have HO218 := Aside0.mk (Kd.S_lower (Kd.S_new' (Kd.S_new' (Kd.S_new' ho0 (Kd.R_lt (R_later HO209.out))) (Kd.S_lt (by (with_reducible repeat (first | apply Kd.S_alloc | apply Kd.S_drewN | apply Kd.S_drew)); exact HO212.out))) (Kd.R_lt (R_later HO215.out))) (below_size (below_later HB.out))); replace HO209 := Aside0.mk (Kd.R_below (R_later HO209.out) hb); replace HO212 := Aside0.mk (Kd.S_elder' (by (with_reducible repeat (first | apply Kd.S_alloc | apply Kd.S_drewN | apply Kd.S_drew)); exact HO212.out) (Kd.S_base ho0) hb); replace HO215 := Aside0.mk (Kd.R_below (R_later HO215.out) hb); replace HB := bst HB hb; (try clear hb); (try clear ho0); obtain ⟨Ao24, co24, eo24⟩ := Kd.S_slice HO218.out; subst eo24; obtain ⟨Ao25, co25, eo25⟩ := Kd.S_slice HO212.out; subst eo25) | ((with_reducible refine gate_callee (f := 8) rfl ?_); refine gl_ (some 29) Try.func8 #[.slice Ao24 t216.length co24, .slice Ao25 t210.length co25] rfl ?_; (with_reducible refine (laws_eqColumnS.calls k _ _ t216 _ _ t210 true _ ?side1 ?side2 ?side3 ?side4 A10.out).mono ?_); (case side1 => repeat (first | exact (Kd.S_reads' HO218.out).2.2 | (with_reducible refine Kd.C_alloc ?_ _) | (with_reducible refine Kd.C_drewN ?_ _) | (with_reducible refine Kd.C_drew ?_))); (case side2 => exact (Kd.S_reads' HO218.out).2.1); (case side3 => repeat (first | exact (Kd.S_reads' HO212.out).2.2 | (with_reducible refine Kd.C_alloc ?_ _) | (with_reducible refine Kd.C_drewN ?_ _) | (with_reducible refine Kd.C_drew ?_))); (case side4 => exact (Kd.S_reads' HO212.out).2.1); rintro e w26 ⟨rfl, hb⟩; refine ⟨_, rfl, ?_⟩; replace HO209 := Aside0.mk (Kd.R_below (R_later HO209.out) hb); replace HO212 := Aside0.mk (Kd.S_below (by (with_reducible repeat (first | apply Kd.S_alloc | apply Kd.S_drewN | apply Kd.S_drew)); exact HO212.out) hb); replace HO215 := Aside0.mk (Kd.R_below (R_later HO215.out) hb); replace HO218 := Aside0.mk (Kd.S_below (by (with_reducible repeat (first | apply Kd.S_alloc | apply Kd.S_drewN | apply Kd.S_drew)); exact HO218.out) hb); replace HB := bst HB hb; (try clear hb)) | ((with_reducible refine gate_callee (f := 6) rfl ?_); refine gl_ (some 33) Try.func6 #[.slice A0 l0.length c0] rfl ?_; (with_reducible refine (laws_toTripleS.calls k _ _ l0 t220 _ ?side1 ?side2 A12.out).mono ?_); (case side1 => repeat (first | exact (Kd.C_below HR0.out HB.out) | (with_reducible refine Kd.C_alloc ?_ _) | (with_reducible refine Kd.C_drewN ?_ _) | (with_reducible refine Kd.C_drew ?_))); (case side2 => exact HC0.out); rintro e w27 ⟨v221, rfl, ho0, hb⟩; refine ⟨_, rfl, ?_⟩; have HO222 := Aside0.mk (Kd.R_lower (Kd.R_new' (Kd.R_new' ho0 (Kd.R_lt (R_later HO209.out))) (Kd.R_lt (R_later HO215.out))) (below_size (below_later HB.out))); replace HO209 := Aside0.mk (Kd.R_elder' (R_later HO209.out) (Kd.R_base ho0) hb); replace HO212 := Aside0.mk (Kd.S_elder' (by (with_reducible repeat (first | apply Kd.S_alloc | apply Kd.S_drewN | apply Kd.S_drew)); exact HO212.out) (Kd.R_base ho0) hb); replace HO215 := Aside0.mk (Kd.R_elder' (R_later HO215.out) (Kd.R_base ho0) hb); replace HO218 := Aside0.mk (Kd.S_elder' (by (with_reducible repeat (first | apply Kd.S_alloc | apply Kd.S_drewN | apply Kd.S_drew)); exact HO218.out) (Kd.R_base ho0) hb); replace HB := bst HB hb; (try clear hb); (try clear ho0); obtain ⟨Ao28, co28, eo28⟩ := Kd.R_slice HO222.out; subst eo28) | ((with_reducible refine gate_callee (f := 9) rfl ?_); refine gl_ (some 34) Try.func9 #[.slice Ao22 t213.length co22, .slice Ao28 t220.length co28] rfl ?_; (with_reducible refine (laws_eqTripleS.calls k _ _ t213 _ _ t220 true _ ?side1 ?side2 ?side3 ?side4 A13.out).mono ?_); (case side1 => repeat (first | exact (Kd.R_reads' HO215.out).2.2 | (with_reducible refine Kd.C_alloc ?_ _) | (with_reducible refine Kd.C_drewN ?_ _) | (with_reducible refine Kd.C_drew ?_))); (case side2 => exact (Kd.R_reads' HO215.out).2.1); (case side3 => repeat (first | exact (Kd.R_reads' HO222.out).2.2 | (with_reducible refine Kd.C_alloc ?_ _) | (with_reducible refine Kd.C_drewN ?_ _) | (with_reducible refine Kd.C_drew ?_))); (case side4 => exact (Kd.R_reads' HO222.out).2.1); rintro e w29 ⟨rfl, hb⟩; refine ⟨_, rfl, ?_⟩; replace HO209 := Aside0.mk (Kd.R_below (R_later HO209.out) hb); replace HO212 := Aside0.mk (Kd.S_below (by (with_reducible repeat (first | apply Kd.S_alloc | apply Kd.S_drewN | apply Kd.S_drew)); exact HO212.out) hb); replace HO215 := Aside0.mk (Kd.R_below (R_later HO215.out) hb); replace HO218 := Aside0.mk (Kd.S_below (by (with_reducible repeat (first | apply Kd.S_alloc | apply Kd.S_drewN | apply Kd.S_drew)); exact HO218.out) hb); replace HO222 := Aside0.mk (Kd.R_below (R_later HO222.out) hb); replace HB := bst HB hb; (try clear hb)) | ((with_reducible refine gate_callee (f := 10) rfl ?_); refine gl_ (some 38) Try.func10 #[.slice Ao22 t213.length co22, .int .i64 1] rfl ?_; (with_reducible refine (laws_markTripleS.calls k (fun k_ => some k_ = (.slice Ao22 t213.length co22 : Value).ownBlock) (.slice Ao22 t213.length co22) t213 1 t224 t225 w _ ?side1 ?side2 A15.out).mono ?_); (case side1 => repeat (first | (with_reducible first | exact HB.out | apply below_alloc | apply pw_below_drewN | apply below_drew1) | exact HB.out)); (case side2 => exact Kd.R_tight rfl HO215.out); rintro e w30 ⟨rfl, hy0, hb, hkp⟩; refine ⟨_, rfl, ?_⟩; replace HO209 := Aside0.mk (Kd.R_mono (ok' := fun k_ => some k_ ≠ (.slice Ao22 t213.length co22 : Value).ownBlock ∧ some k_ ≠ (.slice Ao28 t220.length co28 : Value).ownBlock) (Kd.R_keptB (HO209.out) hkp (fun k_ hk_ hs_ => (hk_.1.2) hs_)) (fun k_ hk_ => ⟨hk_.1.1.2, hk_.1.2⟩)); replace HO212 := Aside0.mk (Kd.S_mono (ok' := fun k_ => some k_ ≠ (.slice Ao19 t207.length co19 : Value).ownBlock ∧ some k_ ≠ (.slice Ao22 t213.length co22 : Value).ownBlock ∧ some k_ ≠ (.slice Ao24 t216.length co24 : Value).ownBlock ∧ some k_ ≠ (.slice Ao28 t220.length co28 : Value).ownBlock ∧ k_ < m_) (Kd.S_keptB (HO212.out) hkp (fun k_ hk_ hs_ => (hk_.1.1.2) hs_)) (fun k_ hk_ => ⟨hk_.1.1.1.1.2, hk_.1.1.1.2, hk_.1.1.2, hk_.1.2, hk_.1.1.1.1.1⟩)); replace HO215 := Aside0.mk (Kd.R_reok rfl hy0 (fun k_ e_ => HO215.out.1 k_ e_)); replace HO218 := Aside0.mk (Kd.S_mono (ok' := fun k_ => some k_ ≠ (.slice Ao19 t207.length co19 : Value).ownBlock ∧ some k_ ≠ (.slice Ao25 t210.length co25 : Value).ownBlock ∧ some k_ ≠ (.slice Ao22 t213.length co22 : Value).ownBlock ∧ some k_ ≠ (.slice Ao28 t220.length co28 : Value).ownBlock ∧ m_ ≤ k_) (Kd.S_keptB (HO218.out) hkp (fun k_ hk_ hs_ => (hk_.1.2) hs_)) (fun k_ hk_ => ⟨hk_.1.1.1.1.2, hk_.1.1.1.2, hk_.1.1.2, hk_.1.2, hk_.1.1.1.1.1⟩)); replace HO222 := Aside0.mk (Kd.R_mono (ok' := fun k_ => some k_ ≠ (.slice Ao19 t207.length co19 : Value).ownBlock ∧ some k_ ≠ (.slice Ao22 t213.length co22 : Value).ownBlock) (Kd.R_keptB (HO222.out) hkp (fun k_ hk_ hs_ => (hk_.2) hs_)) (fun k_ hk_ => ⟨hk_.1.1.2, hk_.1.2⟩)); replace HB := Aside0.mk (hb); (try clear hb); (try clear hkp); (try clear hy0)))
        (try simp only [Act.put, List.setIfInBounds_toArray, List.set_cons_zero, List.set_cons_succ])
        go_cut [46] (fun v46 wc => ∃ (kq : Nat) (x46_15 : Bool) (m_ : Nat), v46 = .bool x46_15 ∧ Aside0 (laws_FnExactChunkCut.j0 kq l0 a1 t210 t216 x46_15 = some true) ∧ Aside0 (kq ≤ k) ∧ Aside0 (Kd.S k43 43 wc w.heap.size (fun k_ => k_ < m_) (.slice Ao25 t210.length co25) t210) ∧ Aside0 (Kd.S k43 43 wc w.heap.size (fun k_ => m_ ≤ k_) (.slice Ao24 t216.length co24) t216) ∧ Aside0 (Below w.heap.size w wc))
        case first =>
          have H := HC16.out
          clear HC16
          by_cases c31 : t224 < 0
          · rw [if_pos c31] at H
            have c31b0 := decide_eq_true c31
            clear c31
            (first | rw [c31b0] | (simp only [i64_w, i32_w]; rw [c31b0]) | skip)
            have H' := Aside0.mk H
            clear H
            go_wp2
            go_meet
            case rel => exact ⟨_, (true), m_, sr, H', ⟨by first | omega | exact Nat.le_refl _⟩, ⟨by (with_reducible repeat (first | apply Kd.S_alloc | apply Kd.S_drewN | apply Kd.S_drew)); exact Kd.S_mono HO212.out (fun _ hk => hk.2.2.2.2)⟩, ⟨by (with_reducible repeat (first | apply Kd.S_alloc | apply Kd.S_drewN | apply Kd.S_drew)); exact Kd.S_mono HO218.out (fun _ hk => hk.2.2.2.2)⟩, ⟨below_later HB.out⟩⟩
          · rw [if_neg c31] at H
            have c31b0 := decide_eq_false c31
            clear c31
            (first | rw [c31b0] | (simp only [i64_w, i32_w]; rw [c31b0]) | skip)
            replace H := bnd H
            obtain ⟨t226, A32, H⟩ := H
            have H' := Aside0.mk H
            clear H
            have e_ : t226 = true := by
              cases t226 with
              | true => rfl
              | false => exfalso; have h_ := H'.out; cases k with
                | zero => simp [laws_FnExactChunkCut.j0] at h_
                | succ k_ => simp [laws_FnExactChunkCut.j0] at h_
            subst e_
            go_wp2_with (first | (go_at_call 8; (with_reducible refine (laws_eqColumnS.calls k _ _ t216 _ _ t210 true _ ?side1 ?side2 ?side3 ?side4 A32.out).mono ?_); (case side1 => repeat (first | exact (Kd.S_reads' HO218.out).2.2 | (with_reducible refine Kd.C_alloc ?_ _) | (with_reducible refine Kd.C_drewN ?_ _) | (with_reducible refine Kd.C_drew ?_))); (case side2 => exact (Kd.S_reads' HO218.out).2.1); (case side3 => repeat (first | exact (Kd.S_reads' HO212.out).2.2 | (with_reducible refine Kd.C_alloc ?_ _) | (with_reducible refine Kd.C_drewN ?_ _) | (with_reducible refine Kd.C_drew ?_))); (case side4 => exact (Kd.S_reads' HO212.out).2.1); rintro e w33 ⟨rfl, hb⟩; replace HO209 := Aside0.mk (Kd.R_below (R_later HO209.out) hb); replace HO212 := Aside0.mk (Kd.S_below (by (with_reducible repeat (first | apply Kd.S_alloc | apply Kd.S_drewN | apply Kd.S_drew)); exact HO212.out) hb); replace HO215 := Aside0.mk (Kd.R_below (R_later HO215.out) hb); replace HO218 := Aside0.mk (Kd.S_below (by (with_reducible repeat (first | apply Kd.S_alloc | apply Kd.S_drewN | apply Kd.S_drew)); exact HO218.out) hb); replace HO222 := Aside0.mk (Kd.R_below (R_later HO222.out) hb); replace HB := bst HB hb; (try clear hb)))
            go_meet
            case rel => exact ⟨_, (!true), m_, sr, H', ⟨by first | omega | exact Nat.le_refl _⟩, ⟨by (with_reducible repeat (first | apply Kd.S_alloc | apply Kd.S_drewN | apply Kd.S_drew)); exact Kd.S_mono HO212.out (fun _ hk => hk.2.2.2.2)⟩, ⟨by (with_reducible repeat (first | apply Kd.S_alloc | apply Kd.S_drewN | apply Kd.S_drew)); exact Kd.S_mono HO218.out (fun _ hk => hk.2.2.2.2)⟩, ⟨below_later HB.out⟩⟩
        case rest =>
          clear HC16
          try clear c4
          try clear c4b0
          try clear c11
          try clear c14
          obtain ⟨kq, x46_15, m_, rfl, HA, HJ15, HO_6, HO_8, HB⟩ := hcut
          cases kq with
          | zero => exact absurd HA.out (by simp [laws_FnExactChunkCut.j0])
          | succ kj15 =>
            have H := HA.out
            clear HA
            simp only [laws_FnExactChunkCut.j0] at H
            by_cases c34 : x46_15 = true
            · subst c34
              have H1 : (some false) = some true := by rw [if_pos rfl] at H; exact H
              cases H1
            · replace c34 := Bool.eq_false_iff.mpr c34
              subst c34
              replace H := ifn Bool.false_ne_true H
              replace H := bnd H
              obtain ⟨⟨t227, t227b⟩, A35, H⟩ := H
              dsimp only at H
              replace H := bnd H
              obtain ⟨t228, A36, H⟩ := H
              by_cases c37 : t228 < 0
              · rw [if_pos c37] at H
                cases H
              · rw [if_neg c37] at H
                have c37b0 := decide_eq_false c37
                clear c37
                by_cases c40 : t228 = t227
                · rw [if_pos c40] at H
                  have c40b0 : (t228 == t227) = true := beq_iff_eq.mpr c40
                  have c40b1 : (t228 != t227) = false := bne_eq_false_iff_eq.mpr c40
                  clear c40
                  replace H := bnd H
                  obtain ⟨t229, A41, H⟩ := H
                  replace H := bnd H
                  obtain ⟨t232, A42, H⟩ := H
                  replace H := bnd H
                  obtain ⟨t235, A43, H⟩ := H
                  by_cases c44 : t235 = true
                  · subst c44
                    replace H := ifp rfl H
                    replace H := bnd H
                    obtain ⟨t236, A45, H⟩ := H
                    by_cases c46 : t236 < 0
                    · rw [if_pos c46] at H
                      cases H
                    · rw [if_neg c46] at H
                      have c46b0 := decide_eq_false c46
                      clear c46
                      by_cases c55 : t236 = t227
                      · rw [if_pos c55] at H
                        have c55b0 : (t236 == t227) = true := beq_iff_eq.mpr c55
                        have c55b1 : (t236 != t227) = false := bne_eq_false_iff_eq.mpr c55
                        clear c55
                        clear H
                        go_wp2_with (first | ((with_reducible refine gate_callee (f := 11) rfl ?_); refine gl_ (some 49) Try.func11 #[.slice Ao24 t216.length co24, .int .i64 1] rfl ?_; (with_reducible refine (laws_markColumnS.calls kj15 (fun k_ => m_ ≤ k_) (.slice Ao24 t216.length co24) t216 1 t227 t227b w _ ?side1 ?side2 A35.out).mono ?_); (case side1 => exact below_later HB.out); (case side2 => (with_reducible repeat (first | apply Kd.S_alloc | apply Kd.S_drewN | apply Kd.S_drew)); exact HO_8.out); rintro e wm_ ⟨rfl, hy0, hb, hkp⟩; refine ⟨_, rfl, ?_⟩; have hl_ : t227b.length = t216.length := ((Kd.S_reads' hy0).1).symm; replace HO_6 := Aside0.mk (Kd.S_keptB (HO_6.out) hkp (fun k_ hk_ hs_ => absurd hk_ (Nat.not_lt.mpr hs_))); replace HO_8 := Aside0.mk hy0; replace HB := Aside0.mk hb; clear hb hkp hy0) | ((with_reducible refine gate_callee (f := 12) rfl ?_); refine gl_ (some 52) Try.func12 #[.slice Ao24 t216.length co24, .int .i64 1] rfl ?_; (with_reducible refine (call_len hl_ (laws_heldColumnS.calls kj15 _ _ t227b 1 t228 _ ?side1 ?side2 A36.out)).mono ?_); (case side1 => repeat (first | exact (Kd.S_reads' HO_8.out).2.2 | (with_reducible refine Kd.C_alloc ?_ _) | (with_reducible refine Kd.C_drewN ?_ _) | (with_reducible refine Kd.C_drew ?_))); (case side2 => have h_ := (Kd.S_reads' HO_8.out).2.1; omega); rintro e w57 ⟨rfl, hb⟩; refine ⟨_, rfl, ?_⟩; replace HO_6 := Aside0.mk (Kd.S_below (by (with_reducible repeat (first | apply Kd.S_alloc | apply Kd.S_drewN | apply Kd.S_drew)); exact HO_6.out) hb); replace HO_8 := Aside0.mk (Kd.S_below (by (with_reducible repeat (first | apply Kd.S_alloc | apply Kd.S_drewN | apply Kd.S_drew)); exact HO_8.out) hb); replace HB := bst HB hb; (try clear hb)) | ((with_reducible refine gate_callee (f := 6) rfl ?_); refine gl_ (some 59) Try.func6 #[.slice A0 l0.length c0] rfl ?_; (with_reducible refine (laws_toTripleS.calls kj15 _ _ l0 t229 _ ?side1 ?side2 A41.out).mono ?_); (case side1 => repeat (first | exact (Kd.C_below HR0.out HB.out) | (with_reducible refine Kd.C_alloc ?_ _) | (with_reducible refine Kd.C_drewN ?_ _) | (with_reducible refine Kd.C_drew ?_))); (case side2 => exact HC0.out); rintro e w58 ⟨v230, rfl, ho0, hb⟩; refine ⟨_, rfl, ?_⟩; have HO231 := Aside0.mk (Kd.R_lower ho0 (below_size (below_later HB.out))); replace HO_6 := Aside0.mk (Kd.S_elder' (by (with_reducible repeat (first | apply Kd.S_alloc | apply Kd.S_drewN | apply Kd.S_drew)); exact HO_6.out) (Kd.R_base ho0) hb); replace HO_8 := Aside0.mk (Kd.S_elder' (by (with_reducible repeat (first | apply Kd.S_alloc | apply Kd.S_drewN | apply Kd.S_drew)); exact HO_8.out) (Kd.R_base ho0) hb); replace HB := bst HB hb; (try clear hb); (try clear ho0); obtain ⟨Ao59, co59, eo59⟩ := Kd.R_slice HO231.out; subst eo59) | ((with_reducible refine gate_callee (f := 7) rfl ?_); refine gl_ (some 61) Try.func7 #[.slice Ao59 t229.length co59, .int .i64 a1] rfl ?_; (with_reducible refine (impl_ChunkCut.calls kj15 _ _ t229 a1 t232 _ ?side1 ?side2 A42.out).mono ?_); (case side1 => repeat (first | exact (Kd.R_reads' HO231.out).2.2 | (with_reducible refine Kd.C_alloc ?_ _) | (with_reducible refine Kd.C_drewN ?_ _) | (with_reducible refine Kd.C_drew ?_))); (case side2 => exact (Kd.R_reads' HO231.out).2.1); rintro e w60 ⟨v233, rfl, ho0, hb⟩; refine ⟨_, rfl, ?_⟩; have HO234 := Aside0.mk (Kd.S_lower (Kd.S_new' (Kd.S_new' (Kd.S_new' ho0 (Kd.S_lt (by (with_reducible repeat (first | apply Kd.S_alloc | apply Kd.S_drewN | apply Kd.S_drew)); exact HO_6.out))) (Kd.S_lt (by (with_reducible repeat (first | apply Kd.S_alloc | apply Kd.S_drewN | apply Kd.S_drew)); exact HO_8.out))) (Kd.R_lt (R_later HO231.out))) (below_size (below_later HB.out))); replace HO_6 := Aside0.mk (Kd.S_elder' (by (with_reducible repeat (first | apply Kd.S_alloc | apply Kd.S_drewN | apply Kd.S_drew)); exact HO_6.out) (Kd.S_base ho0) hb); replace HO_8 := Aside0.mk (Kd.S_elder' (by (with_reducible repeat (first | apply Kd.S_alloc | apply Kd.S_drewN | apply Kd.S_drew)); exact HO_8.out) (Kd.S_base ho0) hb); replace HO231 := Aside0.mk (Kd.R_below (R_later HO231.out) hb); replace HB := bst HB hb; (try clear hb); (try clear ho0); obtain ⟨Ao61, co61, eo61⟩ := Kd.S_slice HO234.out; subst eo61) | ((with_reducible refine gate_callee (f := 8) rfl ?_); refine gl_ (some 64) Try.func8 #[.slice Ao61 t232.length co61, .slice Ao25 t210.length co25] rfl ?_; (with_reducible refine (laws_eqColumnS.calls kj15 _ _ t232 _ _ t210 true _ ?side1 ?side2 ?side3 ?side4 A43.out).mono ?_); (case side1 => repeat (first | exact (Kd.S_reads' HO234.out).2.2 | (with_reducible refine Kd.C_alloc ?_ _) | (with_reducible refine Kd.C_drewN ?_ _) | (with_reducible refine Kd.C_drew ?_))); (case side2 => exact (Kd.S_reads' HO234.out).2.1); (case side3 => repeat (first | exact (Kd.S_reads' HO_6.out).2.2 | (with_reducible refine Kd.C_alloc ?_ _) | (with_reducible refine Kd.C_drewN ?_ _) | (with_reducible refine Kd.C_drew ?_))); (case side4 => exact (Kd.S_reads' HO_6.out).2.1); rintro e w62 ⟨rfl, hb⟩; refine ⟨_, rfl, ?_⟩; replace HO_6 := Aside0.mk (Kd.S_below (by (with_reducible repeat (first | apply Kd.S_alloc | apply Kd.S_drewN | apply Kd.S_drew)); exact HO_6.out) hb); replace HO_8 := Aside0.mk (Kd.S_below (by (with_reducible repeat (first | apply Kd.S_alloc | apply Kd.S_drewN | apply Kd.S_drew)); exact HO_8.out) hb); replace HO231 := Aside0.mk (Kd.R_below (R_later HO231.out) hb); replace HO234 := Aside0.mk (Kd.S_below (by (with_reducible repeat (first | apply Kd.S_alloc | apply Kd.S_drewN | apply Kd.S_drew)); exact HO234.out) hb); replace HB := bst HB hb; (try clear hb)) | ((with_reducible refine gate_callee (f := 12) rfl ?_); refine gl_ (some 68) Try.func12 #[.slice Ao24 t216.length co24, .int .i64 1] rfl ?_; (with_reducible refine (call_len hl_ (laws_heldColumnS.calls kj15 _ _ t227b 1 t236 _ ?side1 ?side2 A45.out)).mono ?_); (case side1 => repeat (first | exact (Kd.S_reads' HO_8.out).2.2 | (with_reducible refine Kd.C_alloc ?_ _) | (with_reducible refine Kd.C_drewN ?_ _) | (with_reducible refine Kd.C_drew ?_))); (case side2 => have h_ := (Kd.S_reads' HO_8.out).2.1; omega); rintro e w63 ⟨rfl, hb⟩; refine ⟨_, rfl, ?_⟩; replace HO_6 := Aside0.mk (Kd.S_below (by (with_reducible repeat (first | apply Kd.S_alloc | apply Kd.S_drewN | apply Kd.S_drew)); exact HO_6.out) hb); replace HO_8 := Aside0.mk (Kd.S_below (by (with_reducible repeat (first | apply Kd.S_alloc | apply Kd.S_drewN | apply Kd.S_drew)); exact HO_8.out) hb); replace HO231 := Aside0.mk (Kd.R_below (R_later HO231.out) hb); replace HO234 := Aside0.mk (Kd.S_below (by (with_reducible repeat (first | apply Kd.S_alloc | apply Kd.S_drewN | apply Kd.S_drew)); exact HO234.out) hb); replace HB := bst HB hb; (try clear hb)))
                        go_ret
                        exact fin_ (below_later HB.out)
                      · rw [if_neg c55] at H
                        cases H
                  · replace c44 := Bool.eq_false_iff.mpr c44
                    subst c44
                    have H1 : (some false) = some true := by rw [if_neg (show ¬ (false = true) by decide)] at H; exact H
                    cases H1
                · rw [if_neg c40] at H
                  cases H
      · replace c14 := Bool.eq_false_iff.mpr c14
        subst c14
        have H1 : (some false) = some true := by rw [if_neg (show ¬ (false = true) by decide)] at H; exact H
        cases H1
    · replace c11 := Bool.eq_false_iff.mpr c11
      subst c11
      have H1 : (some false) = some true := by rw [if_neg (show ¬ (false = true) by decide)] at H; exact H
      cases H1
end Go.Proofs.Ytcnfnjfbacmmaaa.PFnExactChunkCut
