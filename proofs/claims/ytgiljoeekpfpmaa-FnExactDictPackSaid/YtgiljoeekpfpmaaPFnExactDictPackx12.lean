/- The machine's side of FnExactDictPack, written by wip/tools/hyb.py of this repo: each Go function as a plain Lean function, and the proof that the call comes to just its answer. No condition. -/
import Derived.Test.YtgiljoeekpfpmaaPFnExactDictPackx0
import Derived.Test.YtgiljoeekpfpmaaPFnExactDictPackx10
import Derived.Test.YtgiljoeekpfpmaaPFnExactDictPackx11
namespace Go.Proofs.Ytgiljoeekpfpmaa.PFnExactDictPack
open Go.RowKit Go.Proofs.YtgiljoeekpfpmaaW.PrintWords Go.Proofs.YtgiljoeekpfpmaaW.PrintLast Go.Proofs.YtgiljoeekpfpmaaW.PrintMore Go.Proofs.YtgiljoeekpfpmaaW.PrintMore2
attribute [local go_sem] max2_int min2_int max_two min_two max_three min_three max_four min_four   -- for this text's walks alone
set_option linter.unusedVariables false
set_option linter.unusedSimpArgs false

/-! ### impl_tree_bytesOf: function 85 -/
mutual
def impl_tree_bytesOf.j1 : Nat → Int → List Int → List (S57) → List Int → Int → Int → Int → ByteArray → Int → Option (List Int)
  | 0, _, _, _, _, _, _, _, _, _ => none
  | k + 1, x1, x6, x1000, x1001, x485000, x485001, x485002, x485003, x485004 => impl_tree_bytesOf.l0 k x6 (wrap64 (x1 + 1)) 0 x485004 0 x1000 x1001 x485000 x485001 x485002 x485003 x485004
def impl_tree_bytesOf.l0 : Nat → List Int → Int → Int → Int → Int → List (S57) → List Int → Int → Int → Int → ByteArray → Int → Option (List Int)
  | 0, _, _, _, _, _, _, _, _, _, _, _, _ => none
  | k + 1, x6, x7, x8, x62, x63, x1000, x1001, x485000, x485001, x485002, x485003, x485004 => if x63 < x62 then (if 0 ≤ x7 then (if x7 < (x1000.length : Int) then (if x485000 = 12 then ((impl_headOf.f k ((rd_T57 x1000 x7).f0) ((rd_T57 x1000 x7).f1) ((rd_T57 x1000 x7).f2) ((rd_T57 x1000 x7).f3) ((rd_T57 x1000 x7).f4) x8).bind fun t514 => (if x6.length + t514.length < 140737488355328 then ((some (x6 ++ t514 : List Int)).bind fun y517 => ((impl_tree_bytesOf.f k x1000 x1001 x7).bind fun t520 => (if y517.length + t520.length < 140737488355328 then (if x7 < (x1001.length : Int) then (impl_tree_bytesOf.l0 k (y517 ++ t520) (rd x1001 x7) ((rd_T57 x1000 x7).f1) x62 (wrap64 (x63 + 1)) x1000 x1001 x485000 x485001 x485002 x485003 x485004) else (none)) else (none)))) else (none))) else ((impl_tree_bytesOf.f k x1000 x1001 x7).bind fun t527 => (if x6.length + t527.length < 140737488355328 then (if x7 < (x1001.length : Int) then (impl_tree_bytesOf.l0 k (x6 ++ t527) (rd x1001 x7) ((rd_T57 x1000 x7).f1) x62 (wrap64 (x63 + 1)) x1000 x1001 x485000 x485001 x485002 x485003 x485004) else (none)) else (none)))) else (none)) else (none)) else (if x485000 = 12 then (if x6.length < 140737488355328 then (some (x6 ++ [0])) else (none)) else (some x6))
def impl_tree_bytesOf.j0 : Nat → Int → List Int → Int → Bool → List (S57) → List Int → Int → Int → Int → ByteArray → Int → Option (List Int)
  | 0, _, _, _, _, _, _, _, _, _, _, _ => none
  | k + 1, x1, x6, x19, x20, x1000, x1001, x485000, x485001, x485002, x485003, x485004 => if x20 = true then ((impl_ZigPut.f k x485002).bind fun t488 => (some t488)) else (if x19 = 8 then ((impl_UvarPut.f k (x485003.size : Int)).bind fun t491 => (if t491.length + x485003.size < 140737488355328 then (some (t491 ++ bytesOf x485003)) else (none))) else (if x19 = 9 then (if x485004 ≤ 14 then (if x6.length < 140737488355328 then (impl_tree_bytesOf.j1 k x1 (x6 ++ [(wrap64 ((wrap64 (16 * x485004)) + x485002)) % 256]) x1000 x1001 x485000 x485001 x485002 x485003 x485004) else (none)) else ((some (([(wrap64 (240 + x485002)) % 256] : List Int) : List Int)).bind fun y500 => ((impl_UvarPut.f k x485004).bind fun t503 => (if y500.length + t503.length < 140737488355328 then (impl_tree_bytesOf.j1 k x1 (y500 ++ t503) x1000 x1001 x485000 x485001 x485002 x485003 x485004) else (none))))) else (impl_tree_bytesOf.j1 k x1 x6 x1000 x1001 x485000 x485001 x485002 x485003 x485004)))
def impl_tree_bytesOf.f : Nat → List (S57) → List Int → Int → Option (List Int)
  | 0, _, _, _ => none
  | k + 1, s0_0, s0_1, a1 => if 0 ≤ a1 then (if a1 < (s0_0.length : Int) then ((some (([] : List Int) : List Int)).bind fun y485 => (if ((rd_T57 s0_0 a1).f0) = 5 then (impl_tree_bytesOf.j0 k a1 y485 ((rd_T57 s0_0 a1).f0) (((rd_T57 s0_0 a1).f0) == 5) s0_0 s0_1 ((rd_T57 s0_0 a1).f0) ((rd_T57 s0_0 a1).f1) ((rd_T57 s0_0 a1).f2) ((rd_T57 s0_0 a1).f3) ((rd_T57 s0_0 a1).f4)) else (impl_tree_bytesOf.j0 k a1 y485 ((rd_T57 s0_0 a1).f0) (((rd_T57 s0_0 a1).f0) == 6) s0_0 s0_1 ((rd_T57 s0_0 a1).f0) ((rd_T57 s0_0 a1).f1) ((rd_T57 s0_0 a1).f2) ((rd_T57 s0_0 a1).f3) ((rd_T57 s0_0 a1).f4)))) else (none)) else (none)
end
def impl_tree_bytesOf.T8 : Bool × List (List Nat × List Nat) := (true, [([], []), ([0], [0]), ([1], [1]), ([2], [2]), ([], []), ([4], [4]), ([3, 5, 3], [3, 5]), ([6, 6, 0, 1, 2, 3, 4, 5, 6], [6])])
def impl_tree_bytesOf.B8 : List Nat := [0, 1, 3, 7, 0, 16, 63, 127]
theorem impl_tree_bytesOf.tab8 : rtab .any (opsOf Try.f85 8) = impl_tree_bytesOf.T8 := by kernel_rfl
theorem impl_tree_bytesOf.bits8 : waitsOk impl_tree_bytesOf.T8.2 impl_tree_bytesOf.B8 = true := by kernel_rfl
def impl_tree_bytesOf.T12 : Bool × List (List Nat × List Nat) := (true, [([], []), ([0], [0]), ([1], [1]), ([2], [2]), ([3], [3]), ([], []), ([5], [5]), ([6], [6]), ([4, 7, 7], [4, 7]), ([8, 8, 0, 1, 2, 3, 4, 5, 6, 7, 8], [8])])
def impl_tree_bytesOf.B12 : List Nat := [0, 1, 3, 7, 15, 0, 32, 96, 255, 511]
theorem impl_tree_bytesOf.tab12 : rtab .any (opsOf Try.f85 12) = impl_tree_bytesOf.T12 := by kernel_rfl
theorem impl_tree_bytesOf.bits12 : waitsOk impl_tree_bytesOf.T12.2 impl_tree_bytesOf.B12 = true := by kernel_rfl
set_option maxHeartbeats 8000000 in
set_option maxRecDepth 100000 in
theorem impl_tree_bytesOf.calls (k : Nat) : ∀ (g : Nat) (s0_0 : List (S57)) (s0_1 : List Int) (a1 : Int) (r : List Int) (w0 w : World) (hI : IsS85 w0 w g s0_0 s0_1) (hB : Below w0.heap.size w0 w) (h : impl_tree_bytesOf.f k s0_0 s0_1 a1 = some r),
    Calls Try.prog 85 #[.pointer (some ⟨g, 0, none⟩), .int .i64 a1] w fun e w' => ∃ v0_ : Value, e = .returned (v0_) ∧ Kd.R (Kd.int .u8) 5 w' w.heap.size (fun _ => True) v0_ r ∧ IsS85 w0 w' g s0_0 s0_1 ∧ Below w0.heap.size w0 w' ∧ KeepBut w w' g none := by
  induction k using Nat.strongRecOn with
  | _ k ih =>
  intro g s0_0 s0_1 a1 r w0 w hI hB h
  cases k with
  | zero => exact absurd h (by simp [impl_tree_bytesOf.f])
  | succ k =>
  simp only [impl_tree_bytesOf.f] at h
  have hu57 := Try.underlying57
  have HI0 := Aside0.mk hI
  have HK := Aside0.mk (KeepBut.refl w g none)
  have HL := Aside0.mk hB.size
  clear hI
  have HW0 := Aside0.mk hB.size
  have HB := Aside0.mk hB
  clear hB
  have H : (if 0 ≤ a1 then (if a1 < (s0_0.length : Int) then ((some (([] : List Int) : List Int)).bind fun y485 => (if ((rd_T57 s0_0 a1).f0) = 5 then (impl_tree_bytesOf.j0 k a1 y485 ((rd_T57 s0_0 a1).f0) (((rd_T57 s0_0 a1).f0) == 5) s0_0 s0_1 ((rd_T57 s0_0 a1).f0) ((rd_T57 s0_0 a1).f1) ((rd_T57 s0_0 a1).f2) ((rd_T57 s0_0 a1).f3) ((rd_T57 s0_0 a1).f4)) else (impl_tree_bytesOf.j0 k a1 y485 ((rd_T57 s0_0 a1).f0) (((rd_T57 s0_0 a1).f0) == 6) s0_0 s0_1 ((rd_T57 s0_0 a1).f0) ((rd_T57 s0_0 a1).f1) ((rd_T57 s0_0 a1).f2) ((rd_T57 s0_0 a1).f3) ((rd_T57 s0_0 a1).f4)))) else (none)) else (none)) = some r := h
  clear h
  replace H := ifd H
  obtain ⟨c3b0, H⟩ := H
  replace H := ifd H
  obtain ⟨c4b0, H⟩ := H
  replace H := bsm H
  obtain ⟨y485, Ny485, H⟩ := H
  have HC5 := Aside0.mk H
  clear H
  obtain ⟨ASz6_0, cSz6_0, ASz6_1, cSz6_1, HGz6, hgz6, HSz6_0, HSz6_1⟩ := HI0.out
  have hcz6_0 := cellS85_0 HGz6
  have hcz6_1 := cellS85_1 HGz6
  clear HGz6 hgz6
  have p483 : 0 ≤ (a1 : Int) := dcd
  have q483 : a1 < (s0_0.length : Int) := dcd
  obtain ⟨ad483, e483, hx483_0, hx483_1, hx483_2, hx483_3, hx483_4⟩ := at_T57 HSz6_0 a1 p483 q483
  cases e483
  replace hx483_0 := pw_cell_below HB.out hx483_0
  replace hx483_1 := pw_cell_below HB.out hx483_1
  replace hx483_2 := pw_cell_below HB.out hx483_2
  replace hx483_3 := pw_cell_below HB.out hx483_3
  replace hx483_4 := pw_cell_below HB.out hx483_4
  replace p483 := eq_true p483
  replace q483 := eq_true q483
  go_enter Try.func85, Try.ntmps85
  go_upto_block 0 with (first | ((with_reducible refine gate_dst (N := 5) rfl ?_); refine bx_ 5 #[.int .i64 0, .int .i64 0, .int .i64 0, .string (⟨#[]⟩ : ByteArray), .int .i64 0] 57 ?_; intro gb484 hg w7 hbox hb; have BK484 := Aside0.mk (hbox); have GW484 := Aside0.mk ((by rw [hg]; exact (keep_size (w := w) (g := g) (row := none) (by repeat (first | (with_reducible first | exact HK.out | apply KeepBut.set_ | apply keep_drewN | apply keep_drew | apply keep_alloc) | exact HK.out))) : w.heap.size ≤ gb484)); have GE484 := Aside0.mk ((Nat.le_trans HW0.out (by rw [hg]; exact (keep_size (w := w) (g := g) (row := none) (by repeat (first | (with_reducible first | exact HK.out | apply KeepBut.set_ | apply keep_drewN | apply keep_drew | apply keep_alloc) | exact HK.out))) : w.heap.size ≤ gb484) : w0.heap.size ≤ gb484)); have NB0_484 := Aside0.mk ((by rw [hg]; exact Nat.ne_of_lt (IsS85.lt (show IsS85 w0 _ g s0_0 s0_1 from by repeat (first | (with_reducible first | exact HI0.out | apply IsS85.alloc | apply IsS85.drewN | apply IsS85.drew) | exact HI0.out))) : g ≠ gb484)); have NB484_0 := Aside0.mk ((by rw [hg]; exact Nat.ne_of_gt (IsS85.lt (show IsS85 w0 _ g s0_0 s0_1 from by repeat (first | (with_reducible first | exact HI0.out | apply IsS85.alloc | apply IsS85.drewN | apply IsS85.drew) | exact HI0.out))) : gb484 ≠ g)); replace HK := Aside0.mk (KeepBut.trans (by repeat (first | (with_reducible first | exact HK.out | apply KeepBut.set_ | apply keep_drewN | apply keep_drew | apply keep_alloc) | exact HK.out)) (KeepBut.of_below hb g none) (.inl rfl)); replace HB := Aside0.mk (below_step (by repeat (first | (with_reducible first | exact HB.out | apply below_alloc | apply pw_below_drewN | apply below_drew1 | refine below_set ?_ (IsS85.ge HI0.out)) | exact HB.out)) hb); replace HI0 := Aside0.mk (IsS85.below (by repeat (first | (with_reducible first | exact HI0.out | apply IsS85.alloc | apply IsS85.drewN | apply IsS85.drew) | exact HI0.out)) hb); clear hb hbox hg; have hnb8 := NB484_0.out; have hnc8 := NB0_484.out; obtain ⟨hcz9_0, hcz9_1, hcz9_2, hcz9_3, hcz9_4, hfz9_0, hfz9_1, hfz9_2, hfz9_3, hfz9_4⟩ := cl5 BK484) | ((with_reducible refine gate_dst (N := 17) rfl ?_); refine Kd.R_lit (Kd.int .u8) _ 5 ?hg (N := 17) ?hd (xs := ([] : List Int)) (inner := []) (ok := fun _ => True) (okp := fun _ => True) ?hr ?hp (fun _ hk => hk) trivial (Below.refl _ _) (Nat.le_refl _) (by simp) ?_; (case hd => rfl); (case hg => rfl); (case hr => first | (go_simp; done) | (go_simp; rfl)); (case hp => exact (Reps.none _ _)); intro v486 w10 ho11 hb hg_ hnew_; clear hg_ hnew_; (first | rw [← Ny485.out] at ho11 | (simp only [Int.reduceToNat] at ho11; rw [← Ny485.out] at ho11)); have HO487 := Aside0.mk (Kd.R_lower ho11 (keep_size (w := w) (g := g) (row := none) (keep_later HK.out))); replace BK484 := Aside0.mk (blk_below (g := gb484) (o := .cells #[.int .i64 ((rd_T57 s0_0 a1).f0), .int .i64 ((rd_T57 s0_0 a1).f1), .int .i64 ((rd_T57 s0_0 a1).f2), .string ((rd_T57 s0_0 a1).f3), .int .i64 ((rd_T57 s0_0 a1).f4)] 57 (0, 0)) (blk_later BK484.out) hb); replace HK := Aside0.mk (KeepBut.trans (keep_later HK.out) (KeepBut.of_below hb g none) (.inl rfl)); replace HB := Aside0.mk (below_step (by repeat (first | (with_reducible first | exact HB.out | apply below_alloc | apply pw_below_drewN | apply below_drew1 | refine below_set ?_ (IsS85.ge HI0.out) | refine below_set ?_ GE484.out) | exact HB.out)) hb); replace HI0 := Aside0.mk (IsS85.below (show IsS85 w0 (((((w7.setCell ⟨gb484, 0, none⟩ (.int .i64 ((rd_T57 s0_0 a1).f0))).setCell ⟨gb484, 1, none⟩ (.int .i64 ((rd_T57 s0_0 a1).f1))).setCell ⟨gb484, 2, none⟩ (.int .i64 ((rd_T57 s0_0 a1).f2))).setCell ⟨gb484, 3, none⟩ (.string ((rd_T57 s0_0 a1).f3))).setCell ⟨gb484, 4, none⟩ (.int .i64 ((rd_T57 s0_0 a1).f4))) g s0_0 s0_1 from by repeat (first | (with_reducible first | exact HI0.out | apply IsS85.alloc | apply IsS85.drewN | apply IsS85.drew | refine IsS85.far ?_ (Aside0.out (by with_reducible assumption)) _) | exact HI0.out)) hb); clear hb ho11; obtain ⟨hcz12_0, hcz12_1, hcz12_2, hcz12_3, hcz12_4, hfz12_0, hfz12_1, hfz12_2, hfz12_3, hfz12_4⟩ := cl5 BK484))
  (try simp only [Act.put, List.setIfInBounds_toArray, List.set_cons_zero, List.set_cons_succ])
  go_cut [6] (fun v6 wc => ∃ (kq : Nat) (x6_4 : List Int), Aside0 (impl_tree_bytesOf.j1 kq a1 x6_4 s0_0 s0_1 ((rd_T57 s0_0 a1).f0) ((rd_T57 s0_0 a1).f1) ((rd_T57 s0_0 a1).f2) ((rd_T57 s0_0 a1).f3) ((rd_T57 s0_0 a1).f4) = some r) ∧ Aside0 (kq ≤ k) ∧ Aside0 (Kd.R (Kd.int .u8) 5 wc w.heap.size (fun _ => True) v6 x6_4) ∧ Aside0 (wc.heap[gb484]? = some (.cells #[.int .i64 ((rd_T57 s0_0 a1).f0), .int .i64 ((rd_T57 s0_0 a1).f1), .int .i64 ((rd_T57 s0_0 a1).f2), .string ((rd_T57 s0_0 a1).f3), .int .i64 ((rd_T57 s0_0 a1).f4)] 57 (0, 0))) ∧ Aside0 (IsS85 w0 wc g s0_0 s0_1) ∧ Aside0 (KeepBut w wc g none) ∧ Aside0 (Below w0.heap.size w0 wc))
  case first =>
    have H := HC5.out
    clear HC5
    have HC13 := Aside0.mk H
    clear H
    go_upto_if 20 with (fail)
    go_cut [20] (fun v20 wc => ∃ (kq : Nat) (x20_12 : Bool), v20 = .bool x20_12 ∧ Aside0 (impl_tree_bytesOf.j0 kq a1 y485 ((rd_T57 s0_0 a1).f0) x20_12 s0_0 s0_1 ((rd_T57 s0_0 a1).f0) ((rd_T57 s0_0 a1).f1) ((rd_T57 s0_0 a1).f2) ((rd_T57 s0_0 a1).f3) ((rd_T57 s0_0 a1).f4) = some r) ∧ Aside0 (kq ≤ k) ∧ Aside0 (Kd.R (Kd.int .u8) 5 wc w.heap.size (fun _ => True) v486 y485) ∧ Aside0 (wc.heap[gb484]? = some (.cells #[.int .i64 ((rd_T57 s0_0 a1).f0), .int .i64 ((rd_T57 s0_0 a1).f1), .int .i64 ((rd_T57 s0_0 a1).f2), .string ((rd_T57 s0_0 a1).f3), .int .i64 ((rd_T57 s0_0 a1).f4)] 57 (0, 0))) ∧ Aside0 (IsS85 w0 wc g s0_0 s0_1) ∧ Aside0 (KeepBut w wc g none) ∧ Aside0 (Below w0.heap.size w0 wc))
    case first =>
      have H := HC13.out
      clear HC13
      by_cases c14 : ((rd_T57 s0_0 a1).f0) = 5
      · rw [if_pos c14] at H
        have c14b0 : (((rd_T57 s0_0 a1).f0) == 5) = true := beq_iff_eq.mpr c14
        have c14b1 : (((rd_T57 s0_0 a1).f0) != 5) = false := bne_eq_false_iff_eq.mpr c14
        clear c14
        (first | rw [c14b0] | rw [c14b1] | (simp only [i64_w, i32_w]; rw [c14b0]) | skip)
        have H' := Aside0.mk H
        clear H
        go_wp2
        go_meet
        case rel => exact ⟨_, ((((rd_T57 s0_0 a1).f0) == 5)), sr, H', ⟨by first | omega | exact Nat.le_refl _⟩, ⟨R_later HO487.out⟩, ⟨blk_later BK484.out⟩, ⟨by repeat (first | (with_reducible first | exact HI0.out | apply IsS85.alloc | apply IsS85.drewN | apply IsS85.drew | refine IsS85.far ?_ (Aside0.out (by with_reducible assumption)) _) | exact HI0.out)⟩, ⟨keep_later HK.out⟩, ⟨by repeat (first | (with_reducible first | exact HB.out | apply below_alloc | apply pw_below_drewN | apply below_drew1 | refine below_set ?_ (IsS85.ge HI0.out) | refine below_set ?_ GE484.out) | exact HB.out)⟩⟩
      · rw [if_neg c14] at H
        have c14b0 : (((rd_T57 s0_0 a1).f0) == 5) = false := beq_eq_false_iff_ne.mpr c14
        have c14b1 : (((rd_T57 s0_0 a1).f0) != 5) = true := bne_iff_ne.mpr c14
        (first | rw [c14b0] | rw [c14b1] | (simp only [i64_w, i32_w]; rw [c14b0]) | skip)
        have H' := Aside0.mk H
        clear H
        go_wp2
        go_meet
        case rel => exact ⟨_, ((((rd_T57 s0_0 a1).f0) == 6)), sr, H', ⟨by first | omega | exact Nat.le_refl _⟩, ⟨R_later HO487.out⟩, ⟨blk_later BK484.out⟩, ⟨by repeat (first | (with_reducible first | exact HI0.out | apply IsS85.alloc | apply IsS85.drewN | apply IsS85.drew | refine IsS85.far ?_ (Aside0.out (by with_reducible assumption)) _) | exact HI0.out)⟩, ⟨keep_later HK.out⟩, ⟨by repeat (first | (with_reducible first | exact HB.out | apply below_alloc | apply pw_below_drewN | apply below_drew1 | refine below_set ?_ (IsS85.ge HI0.out) | refine below_set ?_ GE484.out) | exact HB.out)⟩⟩
    case rest =>
      clear HC13
      try clear c3b0
      try clear c4b0
      try clear hcz12_0
      try clear hcz12_1
      try clear hcz12_2
      try clear hcz12_3
      try clear hcz12_4
      try clear hcz6_0
      try clear hcz6_1
      try clear hcz9_0
      try clear hcz9_1
      try clear hcz9_2
      try clear hcz9_3
      try clear hcz9_4
      try clear hfz12_0
      try clear hfz12_1
      try clear hfz12_2
      try clear hfz12_3
      try clear hfz12_4
      try clear hfz9_0
      try clear hfz9_1
      try clear hfz9_2
      try clear hfz9_3
      try clear hfz9_4
      try clear hx483_0
      try clear hx483_1
      try clear hx483_2
      try clear hx483_3
      try clear hx483_4
      try clear p483
      try clear q483
      obtain ⟨kq, x20_12, rfl, HA, HJ12, HO_6, BK484, HI0, HK, HB⟩ := hcut
      cases kq with
      | zero => exact absurd HA.out (by simp [impl_tree_bytesOf.j0])
      | succ kj12 =>
        have H := HA.out
        clear HA
        simp only [impl_tree_bytesOf.j0] at H
        by_cases c15 : x20_12 = true
        · subst c15
          replace H := ifp rfl H
          replace H := bnd H
          obtain ⟨t488, A16, H⟩ := H
          obtain rfl := Option.some.inj H
          have hnb17 := NB484_0.out
          have hnc17 := NB0_484.out
          obtain ⟨hcz18_0, hcz18_1, hcz18_2, hcz18_3, hcz18_4, hfz18_0, hfz18_1, hfz18_2, hfz18_3, hfz18_4⟩ := cl5 BK484
          go_wp2_with (first | ((with_reducible refine gate_callee (f := 100) rfl ?_); refine gl_ (some 25) Try.func100 #[.int .i64 ((rd_T57 s0_0 a1).f2)] rfl ?_; (with_reducible refine (impl_ZigPut.calls kj12 ((rd_T57 s0_0 a1).f2) t488 _ A16.out).mono ?_); rintro e w19 ⟨v489, rfl, ho0, hb⟩; refine ⟨_, rfl, ?_⟩; have HO490 := Aside0.mk (Kd.R_lower (Kd.R_new' ho0 (Kd.R_lt (R_later HO_6.out))) (keep_size (w := w) (g := g) (row := none) (keep_later HK.out))); replace HO_6 := Aside0.mk (Kd.R_elder' (R_later HO_6.out) (Kd.R_base ho0) hb); replace BK484 := bkb BK484 hb; replace HK := Aside0.mk (KeepBut.trans (keep_later HK.out) (KeepBut.of_below hb g none) (.inl rfl)); replace HB := Aside0.mk (below_step (by repeat (first | (with_reducible first | exact HB.out | apply below_alloc | apply pw_below_drewN | apply below_drew1 | refine below_set ?_ (IsS85.ge HI0.out) | refine below_set ?_ GE484.out) | exact HB.out)) hb); replace HI0 := Aside0.mk (IsS85.below (by repeat (first | (with_reducible first | exact HI0.out | apply IsS85.alloc | apply IsS85.drewN | apply IsS85.drew | refine IsS85.far ?_ (Aside0.out (by with_reducible assumption)) _) | exact HI0.out)) hb); (try clear hb); (try clear ho0)))
          go_ret
          exact ⟨_, by first | rfl | (simp [errW_none, errW_some] <;> rfl) | (simp [*, errW_none, errW_some] <;> rfl), by (with_reducible repeat (first | apply Kd.R_alloc | apply Kd.R_drewN | apply Kd.R_drew)); exact Kd.R_mono HO490.out (fun _ hk => trivial), by repeat (first | (with_reducible first | exact HI0.out | apply IsS85.alloc | apply IsS85.drewN | apply IsS85.drew | refine IsS85.far ?_ (Aside0.out (by with_reducible assumption)) _) | exact HI0.out), by repeat (first | (with_reducible first | exact HB.out | apply below_alloc | apply pw_below_drewN | apply below_drew1 | refine below_set ?_ (IsS85.ge HI0.out) | refine below_set ?_ GE484.out) | exact HB.out), keep_later HK.out⟩
        · replace c15 := Bool.eq_false_iff.mpr c15
          subst c15
          replace H := ifn Bool.false_ne_true H
          by_cases c20 : ((rd_T57 s0_0 a1).f0) = 8
          · rw [if_pos c20] at H
            have c20b0 : (((rd_T57 s0_0 a1).f0) == 8) = true := beq_iff_eq.mpr c20
            have c20b1 : (((rd_T57 s0_0 a1).f0) != 8) = false := bne_eq_false_iff_eq.mpr c20
            clear c20
            replace H := bnd H
            obtain ⟨t491, A21, H⟩ := H
            replace H := ifs H
            obtain ⟨c22, H⟩ := H
            have LMc22 := Aside0.mk c22
            clear c22
            obtain ⟨y494, hy494⟩ : ∃ y_ : List Int, y_ = (t491 ++ bytesOf ((rd_T57 s0_0 a1).f3)) := ⟨_, rfl⟩
            replace H : (some y494) = some r := by first | (rw [hy494]; with_reducible exact H) | (rw [hy494]; exact H) | exact H
            have Ny494 := Aside0.mk hy494
            clear hy494
            obtain rfl := Option.some.inj H
            try go_wp2
            have n0_ := Aside0.mk (Kd.R_drew HO_6.out)
            have n1_ := Aside0.mk (blk_drew BK484.out)
            have n2_ := Aside0.mk (IsS85.drew HI0.out)
            have n3_ := Aside0.mk (keep_drew HK.out)
            have n4_ := Aside0.mk (below_drew1 HB.out)
            clear HO_6
            clear BK484
            clear HI0
            clear HK
            clear HB
            have HO_6 := n0_
            have BK484 := n1_
            have HI0 := n2_
            have HK := n3_
            have HB := n4_
            clear n0_ n1_ n2_ n3_ n4_
            refine start_ (n := 8) (S := fun w' => w'.cell? ⟨gb484, 0, none⟩ = some (.int .i64 ((rd_T57 s0_0 a1).f0)) ∧ w'.cell? ⟨gb484, 1, none⟩ = some (.int .i64 ((rd_T57 s0_0 a1).f1)) ∧ w'.cell? ⟨gb484, 2, none⟩ = some (.int .i64 ((rd_T57 s0_0 a1).f2)) ∧ w'.cell? ⟨gb484, 3, none⟩ = some (.string ((rd_T57 s0_0 a1).f3)) ∧ w'.cell? ⟨gb484, 4, none⟩ = some (.int .i64 ((rd_T57 s0_0 a1).f4))) (ds := []) #[false, false, false, false, false, false, false, false] (by kernel_rfl) rfl rfl ⟨(blk_cell BK484.out 0).trans rfl, (blk_cell BK484.out 1).trans rfl, (blk_cell BK484.out 2).trans rfl, (blk_cell BK484.out 3).trans rfl, (blk_cell BK484.out 4).trans rfl⟩ (fun hHeld => ?_); refine with_tabW impl_tree_bytesOf.tab8 impl_tree_bytesOf.bits8 (fun HT_ HW_ => ?_)
            generalize wc.drew = w23 at HO_6 BK484 HI0 HK HB hHeld ⊢
            refine pure_ (i := 0) (N := some 28) (v := ?_) (a' := ?_) #[true, false, false, false, false, false, false, false] rfl rfl (any_of HT_.out (by kernel_rfl)) (fun _ _ _ h => h) (Or.inl ⟨by rfl, ?_⟩) ?_ ?_
            rotate_left
            · intro w'
              go_simp
              with_reducible rfl
            rotate_left
            · simp only [Act.put, List.setIfInBounds_toArray, List.set_cons_zero, List.set_cons_succ, i64_w, i32_w]
              rfl
            refine pure_ (i := 4) (N := some 32) (v := ?_) (a' := ?_) #[true, false, false, false, true, false, false, false] rfl rfl (any_of HT_.out (by kernel_rfl)) (fun _ _ _ h => h) (Or.inl ⟨by rfl, ?_⟩) ?_ ?_
            rotate_left
            · intro w'
              go_simp
              with_reducible rfl
            rotate_left
            · simp only [Act.put, List.setIfInBounds_toArray, List.set_cons_zero, List.set_cons_succ, i64_w, i32_w]
              rfl
            refine take_ (i := 1) (N := some 29) (v := ?_) (a' := ?_) #[true, true, false, false, true, false, false, false] rfl rfl (take_ofW HT_.out HW_.out (by kernel_rfl)) (fun _ _ _ h => h) (Or.inl ⟨by rfl, ?_⟩) hHeld ?_ ?_
            rotate_left
            · rintro w' ⟨s0, s1, s2, s3, s4⟩
              go_simp
              with_reducible rfl
            rotate_left
            · simp only [Act.put, List.setIfInBounds_toArray, List.set_cons_zero, List.set_cons_succ, i64_w, i32_w]
              rfl
            refine pure_ (i := 2) (N := some 30) (v := ?_) (a' := ?_) #[true, true, true, false, true, false, false, false] rfl rfl (any_of HT_.out (by kernel_rfl)) (fun _ _ _ h => h) (Or.inl ⟨by rfl, ?_⟩) ?_ ?_
            rotate_left
            · intro w'
              go_simp
              with_reducible rfl
            rotate_left
            · simp only [Act.put, List.setIfInBounds_toArray, List.set_cons_zero, List.set_cons_succ, i64_w, i32_w]
              rfl
            refine take_ (i := 5) (N := some 33) (v := ?_) (a' := ?_) #[true, true, true, false, true, true, false, false] rfl rfl (take_ofW HT_.out HW_.out (by kernel_rfl)) (fun _ _ _ h => h) (Or.inl ⟨by rfl, ?_⟩) hHeld ?_ ?_
            rotate_left
            · rintro w' ⟨s0, s1, s2, s3, s4⟩
              go_simp
              with_reducible rfl
            rotate_left
            · simp only [Act.put, List.setIfInBounds_toArray, List.set_cons_zero, List.set_cons_succ, i64_w, i32_w]
              rfl
            refine one_ (i := 3) (N := some 31) #[true, true, true, true, true, true, false, false] rfl rfl (one_of HT_.out (by kernel_rfl)) (by decide) (fun K hK => ?_)
            refine goes_ Try.func101 (by kernel_rfl) rfl #[.int .i64 (((rd_T57 s0_0 a1).f3).size : Int)] (by rfl) rfl rfl (by (try simp only [List.map_toArray, List.map_cons, List.map_nil]); first | done | rfl | (simp only [List.length_drop, List.length_take]; rfl)) ?_
            with_reducible refine (impl_UvarPut.calls kj12 (((rd_T57 s0_0 a1).f3).size : Int) t491 _ A21.out).mono ?_
            rintro e w24 ⟨v492, rfl, ho0, hb⟩
            refine ⟨_, rfl, ?_⟩
            have n0_ := Aside0.mk (Kd.R_elder' (R_later HO_6.out) (Kd.R_base ho0) hb)
            have n1_ := Aside0.mk (Kd.R_lower (Kd.R_new' ho0 (Kd.R_lt (R_later HO_6.out))) (keep_size (w := w) (g := g) (row := none) (keep_later HK.out)))
            have n2_ := bkb BK484 hb
            have n3_ := Aside0.mk (IsS85.below (by repeat (first | (with_reducible first | exact HI0.out | apply IsS85.alloc | apply IsS85.drewN | apply IsS85.drew | refine IsS85.far ?_ (Aside0.out (by with_reducible assumption)) _) | exact HI0.out)) hb)
            have n4_ := Aside0.mk (KeepBut.trans (keep_later HK.out) (KeepBut.of_below hb g none) (.inl rfl))
            have n5_ := Aside0.mk (below_step (by repeat (first | (with_reducible first | exact HB.out | apply below_alloc | apply pw_below_drewN | apply below_drew1 | refine below_set ?_ (IsS85.ge HI0.out) | refine below_set ?_ GE484.out) | exact HB.out)) hb)
            clear HO_6
            clear BK484
            clear HI0
            clear HK
            clear HB
            have HO_6 := n0_
            have HO493 := n1_
            have BK484 := n2_
            have HI0 := n3_
            have HK := n4_
            have HB := n5_
            clear n0_ n1_ n2_ n3_ n4_ n5_
            (try clear hb)
            (try clear hb2)
            (try clear hk)
            (try clear hi)
            (try clear ho0)
            refine hK.out _ _ ⟨(blk_cell BK484.out 0).trans rfl, (blk_cell BK484.out 1).trans rfl, (blk_cell BK484.out 2).trans rfl, (blk_cell BK484.out 3).trans rfl, (blk_cell BK484.out 4).trans rfl⟩ (fun hHeld => ?_)
            clear hK K
            refine norm_ (a' := ?_) ?_ ?_
            rotate_left
            · show Act.put _ (some 31) _ = _
              simp only [Act.put, List.setIfInBounds_toArray, List.set_cons_zero, List.set_cons_succ, i64_w, i32_w]
              rfl
            refine one_ (i := 6) (N := some 34) #[true, true, true, true, true, true, true, false] rfl rfl (one_of HT_.out (by kernel_rfl)) (by decide) (fun K hK => ?_)
            refine Go.Proofs.YtgiljoeekpfpmaaW.PrintMore2.R_append_str_step w.heap.size (by rfl) (.tmp 31) _ 41 9 5 rfl Try.underlying41 Try.underlying9 info5 v492 t491 ((rd_T57 s0_0 a1).f3) (fun k_ => some k_ ≠ (v486 : Value).ownBlock) rfl rfl ?aO ?aF (Below.refl _ _) ?aS ?aL ?_
            (case aF => exact (fun k_ hk => Kd.fresh' (Kd.R_lt (R_later HO_6.out)) k_ hk))
            (case aO => exact (by (with_reducible repeat (first | apply Kd.R_alloc | apply Kd.R_drewN | apply Kd.R_drew)); exact Kd.R_mono HO493.out (fun _ hk => hk.2)))
            (case aS => exact (keep_size (w := w) (g := g) (row := none) (keep_later HK.out)))
            (case aL => have := LMc22.out; omega)
            intro v495 w25 ho hb hg hat
            rw [← Ny494.out] at ho
            have n0_ := Aside0.mk (Kd.R_after (ok := (fun _ => True)) (R_later HO_6.out) hg hat)
            have n1_ := Aside0.mk (blk_grown (blk_later BK484.out) hg (Kd.R_ne HO493.out BK484.out (by decide)))
            have n2_ := Aside0.mk (IsS85.grown (by repeat (first | (with_reducible first | exact HI0.out | apply IsS85.alloc | apply IsS85.drewN | apply IsS85.drew | refine IsS85.far ?_ (Aside0.out (by with_reducible assumption)) _) | exact HI0.out)) hg (IsS85.own_ne HI0.out HO493.out (by decide)))
            have n3_ := Aside0.mk (below_weaken (by repeat (first | (with_reducible first | exact HB.out | apply below_alloc | apply pw_below_drewN | apply below_drew1 | refine below_set ?_ (IsS85.ge HI0.out) | refine below_set ?_ GE484.out) | exact HB.out)) HL.out hb)
            have n4_ := Aside0.mk (KeepBut.trans (keep_later HK.out) (KeepBut.of_grown hg g) (Kd.R_base2 HO493.out))
            have n5_ := Aside0.mk (ho)
            clear HO_6
            clear BK484
            clear HI0
            clear HB
            clear HK
            clear HO493
            have HO_6 := n0_
            have BK484 := n1_
            have HI0 := n2_
            have HB := n3_
            have HK := n4_
            have HO496 := n5_
            clear n0_ n1_ n2_ n3_ n4_ n5_
            clear ho hb hg hat
            refine hK.out _ _ ⟨(blk_cell BK484.out 0).trans rfl, (blk_cell BK484.out 1).trans rfl, (blk_cell BK484.out 2).trans rfl, (blk_cell BK484.out 3).trans rfl, (blk_cell BK484.out 4).trans rfl⟩ (fun hHeld => ?_)
            clear hK K
            refine norm_ (a' := ?_) ?_ ?_
            rotate_left
            · show Act.put _ (some 34) _ = _
              simp only [Act.put, List.setIfInBounds_toArray, List.set_cons_zero, List.set_cons_succ, i64_w, i32_w]
              rfl
            refine pure_ (i := 7) (N := some 4) (v := ?_) (a' := ?_) #[true, true, true, true, true, true, true, true] rfl rfl (any_of HT_.out (by kernel_rfl)) (fun _ _ _ h => h) (Or.inl ⟨by rfl, ?_⟩) ?_ ?_
            rotate_left
            · intro w'
              go_simp
              with_reducible rfl
            rotate_left
            · simp only [Act.put, List.setIfInBounds_toArray, List.set_cons_zero, List.set_cons_succ, i64_w, i32_w]
              rfl
            refine done_ (done_of HT_.out (by kernel_rfl)) ?_
            try go_wp2
            go_ret
            exact ⟨_, by first | rfl | (simp [errW_none, errW_some] <;> rfl) | (simp [*, errW_none, errW_some] <;> rfl), by (with_reducible repeat (first | apply Kd.R_alloc | apply Kd.R_drewN | apply Kd.R_drew)); exact Kd.R_mono HO496.out (fun _ hk => trivial), by repeat (first | (with_reducible first | exact HI0.out | apply IsS85.alloc | apply IsS85.drewN | apply IsS85.drew | refine IsS85.far ?_ (Aside0.out (by with_reducible assumption)) _) | exact HI0.out), by repeat (first | (with_reducible first | exact HB.out | apply below_alloc | apply pw_below_drewN | apply below_drew1 | refine below_set ?_ (IsS85.ge HI0.out) | refine below_set ?_ GE484.out) | exact HB.out), keep_later HK.out⟩
          · rw [if_neg c20] at H
            have c20b0 : (((rd_T57 s0_0 a1).f0) == 8) = false := beq_eq_false_iff_ne.mpr c20
            have c20b1 : (((rd_T57 s0_0 a1).f0) != 8) = true := bne_iff_ne.mpr c20
            by_cases c26 : ((rd_T57 s0_0 a1).f0) = 9
            · rw [if_pos c26] at H
              have c26b0 : (((rd_T57 s0_0 a1).f0) == 9) = true := beq_iff_eq.mpr c26
              have c26b1 : (((rd_T57 s0_0 a1).f0) != 9) = false := bne_eq_false_iff_eq.mpr c26
              clear c26
              by_cases c27 : ((rd_T57 s0_0 a1).f4) ≤ 14
              · rw [if_pos c27] at H
                have c27b0 := decide_eq_true c27
                clear c27
                replace H := ifs H
                obtain ⟨c28, H⟩ := H
                have LMc28 := Aside0.mk c28
                clear c28
                obtain ⟨y497, hy497⟩ : ∃ y_ : List Int, y_ = (y485 ++ [(wrap64 ((wrap64 (16 * ((rd_T57 s0_0 a1).f4))) + ((rd_T57 s0_0 a1).f2))) % 256]) := ⟨_, rfl⟩
                replace H : (impl_tree_bytesOf.j1 kj12 a1 y497 s0_0 s0_1 ((rd_T57 s0_0 a1).f0) ((rd_T57 s0_0 a1).f1) ((rd_T57 s0_0 a1).f2) ((rd_T57 s0_0 a1).f3) ((rd_T57 s0_0 a1).f4)) = some r := by first | (rw [hy497]; with_reducible exact H) | (rw [hy497]; exact H) | exact H
                have Ny497 := Aside0.mk hy497
                clear hy497
                have H' := Aside0.mk H
                clear H
                have hnb29 := NB484_0.out
                have hnc29 := NB0_484.out
                obtain ⟨hcz30_0, hcz30_1, hcz30_2, hcz30_3, hcz30_4, hfz30_0, hfz30_1, hfz30_2, hfz30_3, hfz30_4⟩ := cl5 BK484
                go_wp2_with (first | ((with_reducible refine gate_builtin (b := .append) (xs := #[.tmp 40, .tmp 48]) rfl ?_); at_builtin; refine Kd.R_append (Kd.int .u8) w.heap.size rfl (.tmp 40) (.tmp 48) 41 5 (.int .u8 0) 1 rfl Try.underlying41 info5 rfl (by decide) (by omega) v486 y485 ((wrap64 ((wrap64 (16 * ((rd_T57 s0_0 a1).f4))) + ((rd_T57 s0_0 a1).f2))) % 256) [.int .u8 ((wrap64 ((wrap64 (16 * ((rd_T57 s0_0 a1).f4))) + ((rd_T57 s0_0 a1).f2))) % 256)] (fun _ => True) (fun _ => False) rfl rfl ?aP (fun _ hk => hk.elim) ?aF ?aO (Below.refl _ _) ?aS ?aL ?_; (case aP => exact rfl); (case aF => exact (fun _ _ => trivial)); (case aO => exact (R_later HO_6.out)); (case aS => exact (keep_size (w := w) (g := g) (row := none) (keep_later HK.out))); (case aL => have := LMc28.out; omega); intro v498 w31 ho hb hg hat; rw [← Ny497.out] at ho; have n0_ := Aside0.mk (blk_grown (blk_later BK484.out) hg (Kd.R_ne HO_6.out BK484.out (by decide))); have n1_ := Aside0.mk (IsS85.grown (by repeat (first | (with_reducible first | exact HI0.out | apply IsS85.alloc | apply IsS85.drewN | apply IsS85.drew | refine IsS85.far ?_ (Aside0.out (by with_reducible assumption)) _) | exact HI0.out)) hg (IsS85.own_ne HI0.out HO_6.out (by decide))); have n2_ := Aside0.mk (below_weaken (by repeat (first | (with_reducible first | exact HB.out | apply below_alloc | apply pw_below_drewN | apply below_drew1 | refine below_set ?_ (IsS85.ge HI0.out) | refine below_set ?_ GE484.out) | exact HB.out)) HL.out hb); have n3_ := Aside0.mk (KeepBut.trans (keep_later HK.out) (KeepBut.of_grown hg g) (Kd.R_base2 HO_6.out)); have n4_ := Aside0.mk (ho); clear BK484; clear HI0; clear HB; clear HK; clear HO_6; have BK484 := n0_; have HI0 := n1_; have HB := n2_; have HK := n3_; have HO499 := n4_; clear n0_ n1_ n2_ n3_ n4_; clear ho hb hg hat))
                go_meet
                case rel => exact ⟨_, (y497), H', ⟨by have := HJ12.out; first | omega | exact Nat.le_refl _⟩, ⟨R_later HO499.out⟩, ⟨blk_later BK484.out⟩, ⟨by repeat (first | (with_reducible first | exact HI0.out | apply IsS85.alloc | apply IsS85.drewN | apply IsS85.drew | refine IsS85.far ?_ (Aside0.out (by with_reducible assumption)) _) | exact HI0.out)⟩, ⟨keep_later HK.out⟩, ⟨by repeat (first | (with_reducible first | exact HB.out | apply below_alloc | apply pw_below_drewN | apply below_drew1 | refine below_set ?_ (IsS85.ge HI0.out) | refine below_set ?_ GE484.out) | exact HB.out)⟩⟩
              · rw [if_neg c27] at H
                have c27b0 := decide_eq_false c27
                clear c27
                replace H := bsm H
                obtain ⟨y500, Ny500, H⟩ := H
                replace H := bnd H
                obtain ⟨t503, A32, H⟩ := H
                replace H := ifs H
                obtain ⟨c33, H⟩ := H
                have LMc33 := Aside0.mk c33
                clear c33
                obtain ⟨y506, hy506⟩ : ∃ y_ : List Int, y_ = (y500 ++ t503) := ⟨_, rfl⟩
                replace H : (impl_tree_bytesOf.j1 kj12 a1 y506 s0_0 s0_1 ((rd_T57 s0_0 a1).f0) ((rd_T57 s0_0 a1).f1) ((rd_T57 s0_0 a1).f2) ((rd_T57 s0_0 a1).f3) ((rd_T57 s0_0 a1).f4)) = some r := by first | (rw [hy506]; with_reducible exact H) | (rw [hy506]; exact H) | exact H
                have Ny506 := Aside0.mk hy506
                clear hy506
                have H' := Aside0.mk H
                clear H
                have hnb34 := NB484_0.out
                have hnc34 := NB0_484.out
                obtain ⟨hcz35_0, hcz35_1, hcz35_2, hcz35_3, hcz35_4, hfz35_0, hfz35_1, hfz35_2, hfz35_3, hfz35_4⟩ := cl5 BK484
                try go_wp2
                have n0_ := Aside0.mk (Kd.R_drew HO_6.out)
                have n1_ := Aside0.mk (blk_drew BK484.out)
                have n2_ := Aside0.mk (IsS85.drew HI0.out)
                have n3_ := Aside0.mk (keep_drew HK.out)
                have n4_ := Aside0.mk (below_drew1 HB.out)
                clear HO_6
                clear BK484
                clear HI0
                clear HK
                clear HB
                have HO_6 := n0_
                have BK484 := n1_
                have HI0 := n2_
                have HK := n3_
                have HB := n4_
                clear n0_ n1_ n2_ n3_ n4_
                refine start_ (n := 10) (S := fun w' => w'.cell? ⟨gb484, 0, none⟩ = some (.int .i64 ((rd_T57 s0_0 a1).f0)) ∧ w'.cell? ⟨gb484, 1, none⟩ = some (.int .i64 ((rd_T57 s0_0 a1).f1)) ∧ w'.cell? ⟨gb484, 2, none⟩ = some (.int .i64 ((rd_T57 s0_0 a1).f2)) ∧ w'.cell? ⟨gb484, 3, none⟩ = some (.string ((rd_T57 s0_0 a1).f3)) ∧ w'.cell? ⟨gb484, 4, none⟩ = some (.int .i64 ((rd_T57 s0_0 a1).f4))) (ds := []) #[false, false, false, false, false, false, false, false, false, false] (by kernel_rfl) rfl rfl ⟨(blk_cell BK484.out 0).trans rfl, (blk_cell BK484.out 1).trans rfl, (blk_cell BK484.out 2).trans rfl, (blk_cell BK484.out 3).trans rfl, (blk_cell BK484.out 4).trans rfl⟩ (fun hHeld => ?_); refine with_tabW impl_tree_bytesOf.tab12 impl_tree_bytesOf.bits12 (fun HT_ HW_ => ?_)
                generalize wc.drew = w36 at HO_6 BK484 HI0 HK HB hHeld ⊢
                refine pure_ (i := 0) (N := some 50) (v := ?_) (a' := ?_) #[true, false, false, false, false, false, false, false, false, false] rfl rfl (any_of HT_.out (by kernel_rfl)) (fun _ _ _ h => h) (Or.inl ⟨by rfl, ?_⟩) ?_ ?_
                rotate_left
                · intro w'
                  go_simp
                  with_reducible rfl
                rotate_left
                · simp only [Act.put, List.setIfInBounds_toArray, List.set_cons_zero, List.set_cons_succ, i64_w, i32_w]
                  rfl
                refine pure_ (i := 5) (N := some 55) (v := ?_) (a' := ?_) #[true, false, false, false, false, true, false, false, false, false] rfl rfl (any_of HT_.out (by kernel_rfl)) (fun _ _ _ h => h) (Or.inl ⟨by rfl, ?_⟩) ?_ ?_
                rotate_left
                · intro w'
                  go_simp
                  with_reducible rfl
                rotate_left
                · simp only [Act.put, List.setIfInBounds_toArray, List.set_cons_zero, List.set_cons_succ, i64_w, i32_w]
                  rfl
                refine take_ (i := 1) (N := some 51) (v := ?_) (a' := ?_) #[true, true, false, false, false, true, false, false, false, false] rfl rfl (take_ofW HT_.out HW_.out (by kernel_rfl)) (fun _ _ _ h => h) (Or.inl ⟨by rfl, ?_⟩) hHeld ?_ ?_
                rotate_left
                · rintro w' ⟨s0, s1, s2, s3, s4⟩
                  go_simp
                  with_reducible rfl
                rotate_left
                · simp only [Act.put, List.setIfInBounds_toArray, List.set_cons_zero, List.set_cons_succ, i64_w, i32_w]
                  rfl
                refine pure_ (i := 2) (N := some 52) (v := ?_) (a' := ?_) #[true, true, true, false, false, true, false, false, false, false] rfl rfl (any_of HT_.out (by kernel_rfl)) (fun _ _ _ h => h) (Or.inl ⟨by rfl, ?_⟩) ?_ ?_
                rotate_left
                · intro w'
                  go_simp
                  with_reducible rfl
                rotate_left
                · simp only [Act.put, List.setIfInBounds_toArray, List.set_cons_zero, List.set_cons_succ, i64_w, i32_w]
                  rfl
                refine pure_ (i := 3) (N := some 53) (v := ?_) (a' := ?_) #[true, true, true, true, false, true, false, false, false, false] rfl rfl (any_of HT_.out (by kernel_rfl)) (fun _ _ _ h => h) (Or.inl ⟨by rfl, ?_⟩) ?_ ?_
                rotate_left
                · intro w'
                  go_simp
                  with_reducible rfl
                rotate_left
                · simp only [Act.put, List.setIfInBounds_toArray, List.set_cons_zero, List.set_cons_succ, i64_w, i32_w]
                  rfl
                refine take_ (i := 6) (N := some 56) (v := ?_) (a' := ?_) #[true, true, true, true, false, true, true, false, false, false] rfl rfl (take_ofW HT_.out HW_.out (by kernel_rfl)) (fun _ _ _ h => h) (Or.inl ⟨by rfl, ?_⟩) hHeld ?_ ?_
                rotate_left
                · rintro w' ⟨s0, s1, s2, s3, s4⟩
                  go_simp
                  with_reducible rfl
                rotate_left
                · simp only [Act.put, List.setIfInBounds_toArray, List.set_cons_zero, List.set_cons_succ, i64_w, i32_w]
                  rfl
                refine join_ (σ := Value × Value) 2 #[true, true, true, true, true, true, true, true, false, false] (fun s_ => [(54, s_.1), (57, s_.2)]) (fun s_ w' => (w'.cell? ⟨gb484, 0, none⟩ = some (.int .i64 ((rd_T57 s0_0 a1).f0)) ∧ w'.cell? ⟨gb484, 1, none⟩ = some (.int .i64 ((rd_T57 s0_0 a1).f1)) ∧ w'.cell? ⟨gb484, 2, none⟩ = some (.int .i64 ((rd_T57 s0_0 a1).f2)) ∧ w'.cell? ⟨gb484, 3, none⟩ = some (.string ((rd_T57 s0_0 a1).f3)) ∧ w'.cell? ⟨gb484, 4, none⟩ = some (.int .i64 ((rd_T57 s0_0 a1).f4))) ∧ (Kd.R (Kd.int .u8) 5 w' w.heap.size (fun k_ => some k_ ≠ (s_.2 : Value).ownBlock ∧ some k_ ≠ (v486 : Value).ownBlock) s_.1 y500) ∧ (Kd.R (Kd.int .u8) 5 w' w.heap.size (fun k_ => some k_ ≠ (s_.1 : Value).ownBlock ∧ some k_ ≠ (v486 : Value).ownBlock) s_.2 t503) ∧ (Kd.R (Kd.int .u8) 5 w' w.heap.size (fun k_ => some k_ ≠ (s_.1 : Value).ownBlock ∧ some k_ ≠ (s_.2 : Value).ownBlock) v486 y485) ∧ (w'.heap[gb484]? = some (.cells #[.int .i64 ((rd_T57 s0_0 a1).f0), .int .i64 ((rd_T57 s0_0 a1).f1), .int .i64 ((rd_T57 s0_0 a1).f2), .string ((rd_T57 s0_0 a1).f3), .int .i64 ((rd_T57 s0_0 a1).f4)] 57 (0, 0))) ∧ (IsS85 w0 w' g s0_0 s0_1) ∧ (KeepBut w w' g none) ∧ (Below w0.heap.size w0 w')) ?_ ?_
                rotate_left
                · intro hCont
                  refine two_ (i := 4) (j := 7) (Ni := some 54) (Nj := some 57) #[true, true, true, true, true, true, true, false, false, false] #[true, true, true, true, false, true, true, true, false, false] rfl rfl rfl rfl (two_of HT_.out (by kernel_rfl)) (by decide) (by decide) (fun K hK => ?_) (fun K hK => ?_)
                  · skip
                    refine Kd.R_lit_step (Kd.int .u8) _ 5 ?hg (N := 54) ?hd (xs := ([(wrap64 (240 + ((rd_T57 s0_0 a1).f2))) % 256] : List Int)) (inner := [.int .u8 ((wrap64 (240 + ((rd_T57 s0_0 a1).f2))) % 256)]) (ok := fun _ => True) (okp := fun _ => True) ?hr ?hp (fun _ hk => hk) trivial (Below.refl _ _) (Nat.le_refl _) (by simp) ?_; (case hd => rfl); (case hg => rfl); (case hr => first | (go_simp; done) | (go_simp; rfl)); (case hp => exact (Reps.one (show Kd.M (Kd.int .u8) _ _ _ ((wrap64 (240 + ((rd_T57 s0_0 a1).f2))) % 256) [.int .u8 ((wrap64 (240 + ((rd_T57 s0_0 a1).f2))) % 256)] from rfl) (Reps.none _ _)))
                    intro v501 w37 ho38 hb hg_ hnew_
                    clear hg_ hnew_
                    (first | rw [← Ny500.out] at ho38 | (simp only [Int.reduceToNat] at ho38; rw [← Ny500.out] at ho38))
                    have n0_ := Aside0.mk (Kd.R_elder' (R_later HO_6.out) (Kd.R_base ho38) hb)
                    have n1_ := Aside0.mk (Kd.R_lower (Kd.R_new' ho38 (Kd.R_lt (R_later HO_6.out))) (keep_size (w := w) (g := g) (row := none) (keep_later HK.out)))
                    have n2_ := bkb BK484 hb
                    have n3_ := Aside0.mk (IsS85.below (by repeat (first | (with_reducible first | exact HI0.out | apply IsS85.alloc | apply IsS85.drewN | apply IsS85.drew | refine IsS85.far ?_ (Aside0.out (by with_reducible assumption)) _) | exact HI0.out)) hb)
                    have n4_ := Aside0.mk (KeepBut.trans (keep_later HK.out) (KeepBut.of_below hb g none) (.inl rfl))
                    have n5_ := Aside0.mk (below_step (by repeat (first | (with_reducible first | exact HB.out | apply below_alloc | apply pw_below_drewN | apply below_drew1 | refine below_set ?_ (IsS85.ge HI0.out) | refine below_set ?_ GE484.out) | exact HB.out)) hb)
                    clear HO_6
                    clear BK484
                    clear HI0
                    clear HK
                    clear HB
                    have HO_6 := n0_
                    have HO502 := n1_
                    have BK484 := n2_
                    have HI0 := n3_
                    have HK := n4_
                    have HB := n5_
                    clear n0_ n1_ n2_ n3_ n4_ n5_
                    clear hb ho38
                    refine hK.out _ _ ⟨(blk_cell BK484.out 0).trans rfl, (blk_cell BK484.out 1).trans rfl, (blk_cell BK484.out 2).trans rfl, (blk_cell BK484.out 3).trans rfl, (blk_cell BK484.out 4).trans rfl⟩ (fun hHeld => ?_)
                    clear hK K
                    refine norm_ (a' := ?_) ?_ ?_
                    rotate_left
                    · show Act.put _ (some 54) _ = _
                      simp only [Act.put, List.setIfInBounds_toArray, List.set_cons_zero, List.set_cons_succ, i64_w, i32_w]
                      rfl
                    refine one_ (i := 7) (N := some 57) #[true, true, true, true, true, true, true, true, false, false] rfl rfl (one_of HT_.out (by kernel_rfl)) (by decide) (fun K hK => ?_)
                    refine goes_ Try.func101 (by kernel_rfl) rfl #[.int .i64 ((rd_T57 s0_0 a1).f4)] (by rfl) rfl rfl (by (try simp only [List.map_toArray, List.map_cons, List.map_nil]); first | done | rfl | (simp only [List.length_drop, List.length_take]; rfl)) ?_
                    with_reducible refine (impl_UvarPut.calls kj12 ((rd_T57 s0_0 a1).f4) t503 _ A32.out).mono ?_
                    rintro e w39 ⟨v504, rfl, ho0, hb⟩
                    refine ⟨_, rfl, ?_⟩
                    have n0_ := Aside0.mk (Kd.R_elder' (R_later HO_6.out) (Kd.R_base ho0) hb)
                    have n1_ := Aside0.mk (Kd.R_elder' (R_later HO502.out) (Kd.R_base ho0) hb)
                    have n2_ := Aside0.mk (Kd.R_lower (Kd.R_new' (Kd.R_new' ho0 (Kd.R_lt (R_later HO_6.out))) (Kd.R_lt (R_later HO502.out))) (keep_size (w := w) (g := g) (row := none) (keep_later HK.out)))
                    have n3_ := bkb BK484 hb
                    have n4_ := Aside0.mk (IsS85.below (by repeat (first | (with_reducible first | exact HI0.out | apply IsS85.alloc | apply IsS85.drewN | apply IsS85.drew | refine IsS85.far ?_ (Aside0.out (by with_reducible assumption)) _) | exact HI0.out)) hb)
                    have n5_ := Aside0.mk (KeepBut.trans (keep_later HK.out) (KeepBut.of_below hb g none) (.inl rfl))
                    have n6_ := Aside0.mk (below_step (by repeat (first | (with_reducible first | exact HB.out | apply below_alloc | apply pw_below_drewN | apply below_drew1 | refine below_set ?_ (IsS85.ge HI0.out) | refine below_set ?_ GE484.out) | exact HB.out)) hb)
                    clear HO_6
                    clear HO502
                    clear BK484
                    clear HI0
                    clear HK
                    clear HB
                    have HO_6 := n0_
                    have HO502 := n1_
                    have HO505 := n2_
                    have BK484 := n3_
                    have HI0 := n4_
                    have HK := n5_
                    have HB := n6_
                    clear n0_ n1_ n2_ n3_ n4_ n5_ n6_
                    (try clear hb)
                    (try clear hb2)
                    (try clear hk)
                    (try clear hi)
                    (try clear ho0)
                    refine hK.out _ _ ⟨(blk_cell BK484.out 0).trans rfl, (blk_cell BK484.out 1).trans rfl, (blk_cell BK484.out 2).trans rfl, (blk_cell BK484.out 3).trans rfl, (blk_cell BK484.out 4).trans rfl⟩ (fun hHeld => ?_)
                    clear hK K
                    refine norm_ (a' := ?_) ?_ ?_
                    rotate_left
                    · show Act.put _ (some 57) _ = _
                      simp only [Act.put, List.setIfInBounds_toArray, List.set_cons_zero, List.set_cons_succ, i64_w, i32_w]
                      rfl
                    exact norm_ (by simp only [putAll, Act.put, List.setIfInBounds_toArray, List.set_cons_zero, List.set_cons_succ]) (hCont (v501, v504) _ ⟨hHeld, (by (with_reducible repeat (first | apply Kd.R_alloc | apply Kd.R_drewN | apply Kd.R_drew)); exact Kd.R_mono HO502.out (fun _ hk => ⟨hk.2, hk.1.2⟩)), (by (with_reducible repeat (first | apply Kd.R_alloc | apply Kd.R_drewN | apply Kd.R_drew)); exact Kd.R_mono HO505.out (fun _ hk => ⟨hk.2, hk.1.2⟩)), (by (with_reducible repeat (first | apply Kd.R_alloc | apply Kd.R_drewN | apply Kd.R_drew)); exact Kd.R_mono HO_6.out (fun _ hk => ⟨hk.1.2, hk.2⟩)), (blk_later BK484.out), (by repeat (first | (with_reducible first | exact HI0.out | apply IsS85.alloc | apply IsS85.drewN | apply IsS85.drew | refine IsS85.far ?_ (Aside0.out (by with_reducible assumption)) _) | exact HI0.out)), (keep_later HK.out), (by repeat (first | (with_reducible first | exact HB.out | apply below_alloc | apply pw_below_drewN | apply below_drew1 | refine below_set ?_ (IsS85.ge HI0.out) | refine below_set ?_ GE484.out) | exact HB.out))⟩)
                  · skip
                    refine goes_ Try.func101 (by kernel_rfl) rfl #[.int .i64 ((rd_T57 s0_0 a1).f4)] (by rfl) rfl rfl (by (try simp only [List.map_toArray, List.map_cons, List.map_nil]); first | done | rfl | (simp only [List.length_drop, List.length_take]; rfl)) ?_
                    with_reducible refine (impl_UvarPut.calls kj12 ((rd_T57 s0_0 a1).f4) t503 _ A32.out).mono ?_
                    rintro e w37 ⟨v504, rfl, ho0, hb⟩
                    refine ⟨_, rfl, ?_⟩
                    have n0_ := Aside0.mk (Kd.R_elder' (R_later HO_6.out) (Kd.R_base ho0) hb)
                    have n1_ := Aside0.mk (Kd.R_lower (Kd.R_new' ho0 (Kd.R_lt (R_later HO_6.out))) (keep_size (w := w) (g := g) (row := none) (keep_later HK.out)))
                    have n2_ := bkb BK484 hb
                    have n3_ := Aside0.mk (IsS85.below (by repeat (first | (with_reducible first | exact HI0.out | apply IsS85.alloc | apply IsS85.drewN | apply IsS85.drew | refine IsS85.far ?_ (Aside0.out (by with_reducible assumption)) _) | exact HI0.out)) hb)
                    have n4_ := Aside0.mk (KeepBut.trans (keep_later HK.out) (KeepBut.of_below hb g none) (.inl rfl))
                    have n5_ := Aside0.mk (below_step (by repeat (first | (with_reducible first | exact HB.out | apply below_alloc | apply pw_below_drewN | apply below_drew1 | refine below_set ?_ (IsS85.ge HI0.out) | refine below_set ?_ GE484.out) | exact HB.out)) hb)
                    clear HO_6
                    clear BK484
                    clear HI0
                    clear HK
                    clear HB
                    have HO_6 := n0_
                    have HO505 := n1_
                    have BK484 := n2_
                    have HI0 := n3_
                    have HK := n4_
                    have HB := n5_
                    clear n0_ n1_ n2_ n3_ n4_ n5_
                    (try clear hb)
                    (try clear hb2)
                    (try clear hk)
                    (try clear hi)
                    (try clear ho0)
                    refine hK.out _ _ ⟨(blk_cell BK484.out 0).trans rfl, (blk_cell BK484.out 1).trans rfl, (blk_cell BK484.out 2).trans rfl, (blk_cell BK484.out 3).trans rfl, (blk_cell BK484.out 4).trans rfl⟩ (fun hHeld => ?_)
                    clear hK K
                    refine norm_ (a' := ?_) ?_ ?_
                    rotate_left
                    · show Act.put _ (some 57) _ = _
                      simp only [Act.put, List.setIfInBounds_toArray, List.set_cons_zero, List.set_cons_succ, i64_w, i32_w]
                      rfl
                    refine one_ (i := 4) (N := some 54) #[true, true, true, true, true, true, true, true, false, false] rfl rfl (one_of HT_.out (by kernel_rfl)) (by decide) (fun K hK => ?_)
                    refine Kd.R_lit_step (Kd.int .u8) _ 5 ?hg (N := 54) ?hd (xs := ([(wrap64 (240 + ((rd_T57 s0_0 a1).f2))) % 256] : List Int)) (inner := [.int .u8 ((wrap64 (240 + ((rd_T57 s0_0 a1).f2))) % 256)]) (ok := fun _ => True) (okp := fun _ => True) ?hr ?hp (fun _ hk => hk) trivial (Below.refl _ _) (Nat.le_refl _) (by simp) ?_; (case hd => rfl); (case hg => rfl); (case hr => first | (go_simp; done) | (go_simp; rfl)); (case hp => exact (Reps.one (show Kd.M (Kd.int .u8) _ _ _ ((wrap64 (240 + ((rd_T57 s0_0 a1).f2))) % 256) [.int .u8 ((wrap64 (240 + ((rd_T57 s0_0 a1).f2))) % 256)] from rfl) (Reps.none _ _)))
                    intro v501 w38 ho39 hb hg_ hnew_
                    clear hg_ hnew_
                    (first | rw [← Ny500.out] at ho39 | (simp only [Int.reduceToNat] at ho39; rw [← Ny500.out] at ho39))
                    have n0_ := Aside0.mk (Kd.R_elder' (R_later HO_6.out) (Kd.R_base ho39) hb)
                    have n1_ := Aside0.mk (Kd.R_elder' (R_later HO505.out) (Kd.R_base ho39) hb)
                    have n2_ := Aside0.mk (Kd.R_lower (Kd.R_new' (Kd.R_new' ho39 (Kd.R_lt (R_later HO_6.out))) (Kd.R_lt (R_later HO505.out))) (keep_size (w := w) (g := g) (row := none) (keep_later HK.out)))
                    have n3_ := bkb BK484 hb
                    have n4_ := Aside0.mk (IsS85.below (by repeat (first | (with_reducible first | exact HI0.out | apply IsS85.alloc | apply IsS85.drewN | apply IsS85.drew | refine IsS85.far ?_ (Aside0.out (by with_reducible assumption)) _) | exact HI0.out)) hb)
                    have n5_ := Aside0.mk (KeepBut.trans (keep_later HK.out) (KeepBut.of_below hb g none) (.inl rfl))
                    have n6_ := Aside0.mk (below_step (by repeat (first | (with_reducible first | exact HB.out | apply below_alloc | apply pw_below_drewN | apply below_drew1 | refine below_set ?_ (IsS85.ge HI0.out) | refine below_set ?_ GE484.out) | exact HB.out)) hb)
                    clear HO_6
                    clear HO505
                    clear BK484
                    clear HI0
                    clear HK
                    clear HB
                    have HO_6 := n0_
                    have HO505 := n1_
                    have HO502 := n2_
                    have BK484 := n3_
                    have HI0 := n4_
                    have HK := n5_
                    have HB := n6_
                    clear n0_ n1_ n2_ n3_ n4_ n5_ n6_
                    clear hb ho39
                    refine hK.out _ _ ⟨(blk_cell BK484.out 0).trans rfl, (blk_cell BK484.out 1).trans rfl, (blk_cell BK484.out 2).trans rfl, (blk_cell BK484.out 3).trans rfl, (blk_cell BK484.out 4).trans rfl⟩ (fun hHeld => ?_)
                    clear hK K
                    refine norm_ (a' := ?_) ?_ ?_
                    rotate_left
                    · show Act.put _ (some 54) _ = _
                      simp only [Act.put, List.setIfInBounds_toArray, List.set_cons_zero, List.set_cons_succ, i64_w, i32_w]
                      rfl
                    exact norm_ (by simp only [putAll, Act.put, List.setIfInBounds_toArray, List.set_cons_zero, List.set_cons_succ]) (hCont (v501, v504) _ ⟨hHeld, (by (with_reducible repeat (first | apply Kd.R_alloc | apply Kd.R_drewN | apply Kd.R_drew)); exact Kd.R_mono HO502.out (fun _ hk => ⟨hk.2, hk.1.2⟩)), (by (with_reducible repeat (first | apply Kd.R_alloc | apply Kd.R_drewN | apply Kd.R_drew)); exact Kd.R_mono HO505.out (fun _ hk => ⟨hk.2, hk.1.2⟩)), (by (with_reducible repeat (first | apply Kd.R_alloc | apply Kd.R_drewN | apply Kd.R_drew)); exact Kd.R_mono HO_6.out (fun _ hk => ⟨hk.2, hk.1.2⟩)), (blk_later BK484.out), (by repeat (first | (with_reducible first | exact HI0.out | apply IsS85.alloc | apply IsS85.drewN | apply IsS85.drew | refine IsS85.far ?_ (Aside0.out (by with_reducible assumption)) _) | exact HI0.out)), (keep_later HK.out), (by repeat (first | (with_reducible first | exact HB.out | apply below_alloc | apply pw_below_drewN | apply below_drew1 | refine below_set ?_ (IsS85.ge HI0.out) | refine below_set ?_ GE484.out) | exact HB.out))⟩)
                rintro ⟨v501, v504⟩ w40 ⟨hS_, h0_, h1_, h2_, h3_, h4_, h5_, h6_⟩
                have n0_ : Aside0 (Kd.R (Kd.int .u8) 5 w40 w.heap.size (fun k_ => some k_ ≠ (v504 : Value).ownBlock ∧ some k_ ≠ (v486 : Value).ownBlock) v501 y500) := ⟨h0_⟩
                have n1_ : Aside0 (Kd.R (Kd.int .u8) 5 w40 w.heap.size (fun k_ => some k_ ≠ (v501 : Value).ownBlock ∧ some k_ ≠ (v486 : Value).ownBlock) v504 t503) := ⟨h1_⟩
                have n2_ : Aside0 (Kd.R (Kd.int .u8) 5 w40 w.heap.size (fun k_ => some k_ ≠ (v501 : Value).ownBlock ∧ some k_ ≠ (v504 : Value).ownBlock) v486 y485) := ⟨h2_⟩
                have n3_ : Aside0 (w40.heap[gb484]? = some (.cells #[.int .i64 ((rd_T57 s0_0 a1).f0), .int .i64 ((rd_T57 s0_0 a1).f1), .int .i64 ((rd_T57 s0_0 a1).f2), .string ((rd_T57 s0_0 a1).f3), .int .i64 ((rd_T57 s0_0 a1).f4)] 57 (0, 0))) := ⟨h3_⟩
                have n4_ : Aside0 (IsS85 w0 w40 g s0_0 s0_1) := ⟨h4_⟩
                have n5_ : Aside0 (KeepBut w w40 g none) := ⟨h5_⟩
                have n6_ : Aside0 (Below w0.heap.size w0 w40) := ⟨h6_⟩
                clear HO_6
                clear BK484
                clear HI0
                clear HK
                clear HB
                clear h0_ h1_ h2_ h3_ h4_ h5_ h6_
                have HO502 := n0_
                have HO505 := n1_
                have HO_6 := n2_
                have BK484 := n3_
                have HI0 := n4_
                have HK := n5_
                have HB := n6_
                clear n0_ n1_ n2_ n3_ n4_ n5_ n6_
                have hHeld : w40.cell? ⟨gb484, 0, none⟩ = some (.int .i64 ((rd_T57 s0_0 a1).f0)) ∧ w40.cell? ⟨gb484, 1, none⟩ = some (.int .i64 ((rd_T57 s0_0 a1).f1)) ∧ w40.cell? ⟨gb484, 2, none⟩ = some (.int .i64 ((rd_T57 s0_0 a1).f2)) ∧ w40.cell? ⟨gb484, 3, none⟩ = some (.string ((rd_T57 s0_0 a1).f3)) ∧ w40.cell? ⟨gb484, 4, none⟩ = some (.int .i64 ((rd_T57 s0_0 a1).f4)) := hS_
                obtain ⟨Ao42, co42, eo42⟩ := Kd.R_slice HO505.out
                (first | subst eo42 | (injection eo42 with f1_ f2_ f3_; have f4_ := f1_.symm; have f5_ := f3_.symm; clear f1_ f2_ f3_; subst f4_; subst f5_))
                refine norm_ (a' := ?_) ?_ ?_
                rotate_left
                · simp only [putAll, Act.put, List.setIfInBounds_toArray, List.set_cons_zero, List.set_cons_succ]
                  rfl
                refine one_ (i := 8) (N := some 58) #[true, true, true, true, true, true, true, true, true, false] rfl rfl (one_of HT_.out (by kernel_rfl)) (by decide) (fun K hK => ?_)
                refine Kd.R_append_rows_step (Kd.int .u8) w.heap.size (by rfl) (.tmp 54) (.tmp 57) 41 5 (.int .u8 0) 1 rfl Try.underlying41 info5 rfl (by decide) (by omega) v501 y500 t503 _ _ _ (fun k_ => some k_ ≠ (v486 : Value).ownBlock ∧ some k_ ≠ (.slice Ao42 t503.length co42 : Value).ownBlock) (fun _ => False) rfl rfl ?aO ?aR (fun _ _ h => h) (fun _ h => h.elim) ?aF (Below.refl _ _) ?aS ?aL ?_
                (case aR => repeat (first | exact (Kd.R_reads' HO505.out).2.2 | (with_reducible refine Kd.C_alloc ?_ _) | (with_reducible refine Kd.C_drewN ?_ _) | (with_reducible refine Kd.C_drew ?_)))
                (case aF => exact (fun k_ hk => ⟨Kd.fresh' (Kd.R_lt (R_later HO_6.out)) k_ hk, Kd.fresh' (Kd.R_lt (R_later HO505.out)) k_ hk⟩))
                (case aO => exact (by (with_reducible repeat (first | apply Kd.R_alloc | apply Kd.R_drewN | apply Kd.R_drew)); exact Kd.R_mono HO502.out (fun _ hk => ⟨hk.2, hk.1⟩)))
                (case aS => exact (keep_size (w := w) (g := g) (row := none) (keep_later HK.out)))
                (case aL => have := LMc33.out; omega)
                intro v507 w41 ho hb hg hat
                rw [← Ny506.out] at ho
                have n0_ := Aside0.mk (Kd.R_after (ok := (fun k_ => some k_ ≠ (.slice Ao42 t503.length co42 : Value).ownBlock)) (by (with_reducible repeat (first | apply Kd.R_alloc | apply Kd.R_drewN | apply Kd.R_drew)); exact Kd.R_mono HO_6.out (fun _ hk => ⟨hk.2, hk.1⟩)) hg hat)
                have n1_ := Aside0.mk (blk_grown (blk_later BK484.out) hg (Kd.R_ne HO502.out BK484.out (by decide)))
                have n2_ := Aside0.mk (IsS85.grown (by repeat (first | (with_reducible first | exact HI0.out | apply IsS85.alloc | apply IsS85.drewN | apply IsS85.drew | refine IsS85.far ?_ (Aside0.out (by with_reducible assumption)) _) | exact HI0.out)) hg (IsS85.own_ne HI0.out HO502.out (by decide)))
                have n3_ := Aside0.mk (Kd.R_after (ok := (fun k_ => some k_ ≠ (v486 : Value).ownBlock)) (by (with_reducible repeat (first | apply Kd.R_alloc | apply Kd.R_drewN | apply Kd.R_drew)); exact Kd.R_mono HO505.out (fun _ hk => ⟨hk.2, hk.1⟩)) hg hat)
                have n4_ := Aside0.mk (below_weaken (by repeat (first | (with_reducible first | exact HB.out | apply below_alloc | apply pw_below_drewN | apply below_drew1 | refine below_set ?_ (IsS85.ge HI0.out) | refine below_set ?_ GE484.out) | exact HB.out)) HL.out hb)
                have n5_ := Aside0.mk (KeepBut.trans (keep_later HK.out) (KeepBut.of_grown hg g) (Kd.R_base2 HO502.out))
                have n6_ := Aside0.mk (ho)
                clear HO_6
                clear BK484
                clear HI0
                clear HO505
                clear HB
                clear HK
                clear HO502
                have HO_6 := n0_
                have BK484 := n1_
                have HI0 := n2_
                have HO505 := n3_
                have HB := n4_
                have HK := n5_
                have HO508 := n6_
                clear n0_ n1_ n2_ n3_ n4_ n5_ n6_
                clear ho hb hg hat
                refine hK.out _ _ ⟨(blk_cell BK484.out 0).trans rfl, (blk_cell BK484.out 1).trans rfl, (blk_cell BK484.out 2).trans rfl, (blk_cell BK484.out 3).trans rfl, (blk_cell BK484.out 4).trans rfl⟩ (fun hHeld => ?_)
                clear hK K
                refine norm_ (a' := ?_) ?_ ?_
                rotate_left
                · show Act.put _ (some 58) _ = _
                  simp only [Act.put, List.setIfInBounds_toArray, List.set_cons_zero, List.set_cons_succ, i64_w, i32_w]
                  rfl
                refine pure_ (i := 9) (N := some 6) (v := ?_) (a' := ?_) #[true, true, true, true, true, true, true, true, true, true] rfl rfl (any_of HT_.out (by kernel_rfl)) (fun _ _ _ h => h) (Or.inl ⟨by rfl, ?_⟩) ?_ ?_
                rotate_left
                · intro w'
                  go_simp
                  with_reducible rfl
                rotate_left
                · simp only [Act.put, List.setIfInBounds_toArray, List.set_cons_zero, List.set_cons_succ, i64_w, i32_w]
                  rfl
                refine done_ (done_of HT_.out (by kernel_rfl)) ?_
                try go_wp2
                go_meet
                case rel => exact ⟨_, (y506), H', ⟨by have := HJ12.out; first | omega | exact Nat.le_refl _⟩, ⟨R_later (Kd.R_mono HO508.out (fun _ hk => trivial))⟩, ⟨blk_later BK484.out⟩, ⟨by repeat (first | (with_reducible first | exact HI0.out | apply IsS85.alloc | apply IsS85.drewN | apply IsS85.drew | refine IsS85.far ?_ (Aside0.out (by with_reducible assumption)) _) | exact HI0.out)⟩, ⟨keep_later HK.out⟩, ⟨by repeat (first | (with_reducible first | exact HB.out | apply below_alloc | apply pw_below_drewN | apply below_drew1 | refine below_set ?_ (IsS85.ge HI0.out) | refine below_set ?_ GE484.out) | exact HB.out)⟩⟩
            · rw [if_neg c26] at H
              have c26b0 : (((rd_T57 s0_0 a1).f0) == 9) = false := beq_eq_false_iff_ne.mpr c26
              have c26b1 : (((rd_T57 s0_0 a1).f0) != 9) = true := bne_iff_ne.mpr c26
              have H' := Aside0.mk H
              clear H
              go_wp2
              go_meet
              case rel => exact ⟨_, (y485), H', ⟨by have := HJ12.out; first | omega | exact Nat.le_refl _⟩, ⟨R_later HO_6.out⟩, ⟨blk_later BK484.out⟩, ⟨by repeat (first | (with_reducible first | exact HI0.out | apply IsS85.alloc | apply IsS85.drewN | apply IsS85.drew | refine IsS85.far ?_ (Aside0.out (by with_reducible assumption)) _) | exact HI0.out)⟩, ⟨keep_later HK.out⟩, ⟨by repeat (first | (with_reducible first | exact HB.out | apply below_alloc | apply pw_below_drewN | apply below_drew1 | refine below_set ?_ (IsS85.ge HI0.out) | refine below_set ?_ GE484.out) | exact HB.out)⟩⟩
  case rest =>
    clear HC5
    try clear hcz9_0
    try clear hcz9_1
    try clear hcz9_2
    try clear hcz9_3
    try clear hcz9_4
    try clear hfz12_0
    try clear hfz12_1
    try clear hfz12_2
    try clear hfz12_3
    try clear hfz12_4
    try clear hfz9_0
    try clear hfz9_1
    try clear hfz9_2
    try clear hfz9_3
    try clear hfz9_4
    try clear hx483_0
    try clear hx483_1
    try clear hx483_2
    try clear hx483_3
    try clear hx483_4
    try clear p483
    try clear q483
    obtain ⟨kq, x6_4, HA, HJ4, HO_6, BK484, HI0, HK, HB⟩ := hcut
    cases kq with
    | zero => exact absurd HA.out (by simp [impl_tree_bytesOf.j1])
    | succ kj4 =>
      have H := HA.out
      clear HA
      simp only [impl_tree_bytesOf.j1] at H
      have H' := Aside0.mk H
      clear H
      have hnb43 := NB484_0.out
      have hnc43 := NB0_484.out
      obtain ⟨hcz44_0, hcz44_1, hcz44_2, hcz44_3, hcz44_4, hfz44_0, hfz44_1, hfz44_2, hfz44_3, hfz44_4⟩ := cl5 BK484
      go_wp2
      go_loopg [6, 7, 8, 63] kj4 (fun kq v6 v7 v8 v63 w' => ∃ (x6_2 : List Int) (x7_2 : Int) (x8_2 : Int) (x63_2 : Int), v7 = .int .i64 x7_2 ∧ v8 = .int .i64 x8_2 ∧ v63 = .int .i64 x63_2 ∧ Aside0 (impl_tree_bytesOf.l0 kq x6_2 x7_2 x8_2 ((rd_T57 s0_0 a1).f4) x63_2 s0_0 s0_1 ((rd_T57 s0_0 a1).f0) ((rd_T57 s0_0 a1).f1) ((rd_T57 s0_0 a1).f2) ((rd_T57 s0_0 a1).f3) ((rd_T57 s0_0 a1).f4) = some r) ∧ Aside0 (kq ≤ kj4) ∧ Aside0 (Kd.R (Kd.int .u8) 5 w' w.heap.size (fun _ => True) v6 x6_2) ∧ Aside0 (w'.heap[gb484]? = some (.cells #[.int .i64 ((rd_T57 s0_0 a1).f0), .int .i64 ((rd_T57 s0_0 a1).f1), .int .i64 ((rd_T57 s0_0 a1).f2), .string ((rd_T57 s0_0 a1).f3), .int .i64 ((rd_T57 s0_0 a1).f4)] 57 (0, 0))) ∧ Aside0 (IsS85 w0 w' g s0_0 s0_1) ∧ Aside0 (KeepBut w w' g none) ∧ Aside0 (Below w0.heap.size w0 w'))
      case atStart => exact ⟨(x6_4), (wrap64 (a1 + 1)), (0), (0), sr, sr, sr, H', ⟨Nat.le_refl _⟩, ⟨R_later HO_6.out⟩, ⟨blk_later BK484.out⟩, ⟨by repeat (first | (with_reducible first | exact HI0.out | apply IsS85.alloc | apply IsS85.drewN | apply IsS85.drew | refine IsS85.far ?_ (Aside0.out (by with_reducible assumption)) _) | exact HI0.out)⟩, ⟨keep_later HK.out⟩, ⟨by repeat (first | (with_reducible first | exact HB.out | apply below_alloc | apply pw_below_drewN | apply below_drew1 | refine below_set ?_ (IsS85.ge HI0.out) | refine below_set ?_ GE484.out) | exact HB.out)⟩⟩
      case round =>
        clear H'
        try clear hcz44_0
        try clear hcz44_1
        try clear hcz44_2
        try clear hcz44_3
        try clear hcz44_4
        try clear hcz9_0
        try clear hcz9_1
        try clear hcz9_2
        try clear hcz9_3
        try clear hcz9_4
        try clear hfz12_0
        try clear hfz12_1
        try clear hfz12_2
        try clear hfz12_3
        try clear hfz12_4
        try clear hfz44_0
        try clear hfz44_1
        try clear hfz44_2
        try clear hfz44_3
        try clear hfz44_4
        try clear hfz9_0
        try clear hfz9_1
        try clear hfz9_2
        try clear hfz9_3
        try clear hfz9_4
        try clear hx483_0
        try clear hx483_1
        try clear hx483_2
        try clear hx483_3
        try clear hx483_4
        try clear p483
        try clear q483
        obtain ⟨x6_2, x7_2, x8_2, x63_2, rfl, rfl, rfl, HA, HK2, HO_6, BK484, HI0, HK, HB⟩ := hrel
        cases gk with
        | zero => exact absurd HA.out (by simp [impl_tree_bytesOf.l0])
        | succ k2 =>
          have H := HA.out
          clear HA
          simp only [impl_tree_bytesOf.l0] at H
          by_cases c45 : x63_2 < ((rd_T57 s0_0 a1).f4)
          · rw [if_pos c45] at H
            have c45b0 := decide_eq_true c45
            clear c45
            replace H := ifd H
            obtain ⟨c46b0, H⟩ := H
            replace H := ifd H
            obtain ⟨c47b0, H⟩ := H
            by_cases c48 : ((rd_T57 s0_0 a1).f0) = 12
            · rw [if_pos c48] at H
              have c48b0 : (((rd_T57 s0_0 a1).f0) == 12) = true := beq_iff_eq.mpr c48
              have c48b1 : (((rd_T57 s0_0 a1).f0) != 12) = false := bne_eq_false_iff_eq.mpr c48
              clear c48
              replace H := bnd H
              obtain ⟨t514, A49, H⟩ := H
              replace H := ifs H
              obtain ⟨c50, H⟩ := H
              have LMc50 := Aside0.mk c50
              clear c50
              replace H := bsm H
              obtain ⟨y517, Ny517, H⟩ := H
              replace H := bnd H
              obtain ⟨t520, A51, H⟩ := H
              replace H := ifs H
              obtain ⟨c52, H⟩ := H
              have LMc52 := Aside0.mk c52
              clear c52
              obtain ⟨y523, hy523⟩ : ∃ y_ : List Int, y_ = (y517 ++ t520) := ⟨_, rfl⟩
              replace H : (if x7_2 < (s0_1.length : Int) then (impl_tree_bytesOf.l0 k2 y523 (rd s0_1 x7_2) ((rd_T57 s0_0 x7_2).f1) ((rd_T57 s0_0 a1).f4) (wrap64 (x63_2 + 1)) s0_0 s0_1 ((rd_T57 s0_0 a1).f0) ((rd_T57 s0_0 a1).f1) ((rd_T57 s0_0 a1).f2) ((rd_T57 s0_0 a1).f3) ((rd_T57 s0_0 a1).f4)) else (none)) = some r := by first | (rw [hy523]; with_reducible exact H) | (rw [hy523]; exact H) | exact H
              have Ny523 := Aside0.mk hy523
              clear hy523
              replace H := ifd H
              obtain ⟨c53b0, H⟩ := H
              have H' := Aside0.mk H
              clear H
              obtain ⟨ASz54_0, cSz54_0, ASz54_1, cSz54_1, HGz54, hgz54, HSz54_0, HSz54_1⟩ := HI0.out
              have hcz54_0 := cellS85_0 HGz54
              have hcz54_1 := cellS85_1 HGz54
              clear HGz54 hgz54
              have p512 : 0 ≤ (x7_2 : Int) := dcd
              have q512 : x7_2 < (s0_0.length : Int) := dcd
              obtain ⟨ad512, e512, hx512_0, hx512_1, hx512_2, hx512_3, hx512_4⟩ := at_T57 HSz54_0 x7_2 p512 q512
              cases e512
              replace hx512_0 := pw_cell_below HB.out hx512_0
              replace hx512_1 := pw_cell_below HB.out hx512_1
              replace hx512_2 := pw_cell_below HB.out hx512_2
              replace hx512_3 := pw_cell_below HB.out hx512_3
              replace hx512_4 := pw_cell_below HB.out hx512_4
              replace p512 := eq_true p512
              replace q512 := eq_true q512
              go_wp2_with (first | ((with_reducible refine gate_dst (N := 9) rfl ?_); refine bx_ 9 #[.int .i64 0, .int .i64 0, .int .i64 0, .string (⟨#[]⟩ : ByteArray), .int .i64 0] 57 ?_; intro gb513 hg w55 hbox hb; have BK513 := Aside0.mk (hbox); have GW513 := Aside0.mk ((by rw [hg]; exact (keep_size (w := w) (g := g) (row := none) (keep_later HK.out)) : w.heap.size ≤ gb513)); have GE513 := Aside0.mk ((Nat.le_trans HW0.out (by rw [hg]; exact (keep_size (w := w) (g := g) (row := none) (keep_later HK.out)) : w.heap.size ≤ gb513) : w0.heap.size ≤ gb513)); have NB484_513 := nbl BK484 hg; have NB513_484 := nbr (nbl BK484 hg); have NB0_513 := Aside0.mk ((by rw [hg]; exact Nat.ne_of_lt (IsS85.lt (show IsS85 w0 _ g s0_0 s0_1 from by repeat (first | (with_reducible first | exact HI0.out | apply IsS85.alloc | apply IsS85.drewN | apply IsS85.drew | refine IsS85.far ?_ (Aside0.out (by with_reducible assumption)) _) | exact HI0.out))) : g ≠ gb513)); have NB513_0 := Aside0.mk ((by rw [hg]; exact Nat.ne_of_gt (IsS85.lt (show IsS85 w0 _ g s0_0 s0_1 from by repeat (first | (with_reducible first | exact HI0.out | apply IsS85.alloc | apply IsS85.drewN | apply IsS85.drew | refine IsS85.far ?_ (Aside0.out (by with_reducible assumption)) _) | exact HI0.out))) : gb513 ≠ g)); replace HO_6 := Aside0.mk (Kd.R_below (R_later HO_6.out) hb); replace BK484 := bkb BK484 hb; replace HK := Aside0.mk (KeepBut.trans (keep_later HK.out) (KeepBut.of_below hb g none) (.inl rfl)); replace HB := Aside0.mk (below_step (by repeat (first | (with_reducible first | exact HB.out | apply below_alloc | apply pw_below_drewN | apply below_drew1 | refine below_set ?_ (IsS85.ge HI0.out) | refine below_set ?_ GE484.out) | exact HB.out)) hb); replace HI0 := Aside0.mk (IsS85.below (by repeat (first | (with_reducible first | exact HI0.out | apply IsS85.alloc | apply IsS85.drewN | apply IsS85.drew | refine IsS85.far ?_ (Aside0.out (by with_reducible assumption)) _) | exact HI0.out)) hb); clear hb hbox hg; have hnb56 := NB513_484.out; have hnc56 := NB484_513.out; have hnb57 := NB513_0.out; have hnc57 := NB0_513.out; obtain ⟨hcz58_0, hcz58_1, hcz58_2, hcz58_3, hcz58_4, hfz58_0, hfz58_1, hfz58_2, hfz58_3, hfz58_4⟩ := cl5 BK513; have hnb59 := NB484_0.out; have hnc59 := NB0_484.out; obtain ⟨hcz60_0, hcz60_1, hcz60_2, hcz60_3, hcz60_4, hfz60_0, hfz60_1, hfz60_2, hfz60_3, hfz60_4⟩ := cl5 BK484) | ((with_reducible refine gate_callee (f := 102) rfl ?_); refine gl_ (some 78) Try.func102 #[.agg #[.int .i64 ((rd_T57 s0_0 x7_2).f0), .int .i64 ((rd_T57 s0_0 x7_2).f1), .int .i64 ((rd_T57 s0_0 x7_2).f2), .string ((rd_T57 s0_0 x7_2).f3), .int .i64 ((rd_T57 s0_0 x7_2).f4)], .int .i64 x8_2] rfl ?_; (with_reducible refine (impl_headOf.calls k2 ((rd_T57 s0_0 x7_2).f0) ((rd_T57 s0_0 x7_2).f1) ((rd_T57 s0_0 x7_2).f2) ((rd_T57 s0_0 x7_2).f3) ((rd_T57 s0_0 x7_2).f4) x8_2 t514 _ A49.out).mono ?_); rintro e w61 ⟨v515, rfl, ho0, hb⟩; refine ⟨_, rfl, ?_⟩; have HO516 := Aside0.mk (Kd.R_lower (Kd.R_new' ho0 (Kd.R_lt (by (with_reducible repeat (first | apply Kd.R_alloc | apply Kd.R_drewN | apply Kd.R_drew)); exact (Kd.R_mono (Kd.R_far (p := ⟨gb513, 4, none⟩) (Kd.R_far (p := ⟨gb513, 3, none⟩) (Kd.R_far (p := ⟨gb513, 2, none⟩) (Kd.R_far (p := ⟨gb513, 1, none⟩) (Kd.R_far (p := ⟨gb513, 0, none⟩) (Kd.R_types HO_6.out BK513.out (by decide)) (fun _ hk => hk.2) (.int .i64 ((rd_T57 s0_0 x7_2).f0))) (fun _ hk => hk.2) (.int .i64 ((rd_T57 s0_0 x7_2).f1))) (fun _ hk => hk.2) (.int .i64 ((rd_T57 s0_0 x7_2).f2))) (fun _ hk => hk.2) (.string ((rd_T57 s0_0 x7_2).f3))) (fun _ hk => hk.2) (.int .i64 ((rd_T57 s0_0 x7_2).f4))) (fun _ h_ => h_.1))))) (keep_size (w := w) (g := g) (row := none) (keep_later HK.out))); replace HO_6 := Aside0.mk (Kd.R_elder' (by (with_reducible repeat (first | apply Kd.R_alloc | apply Kd.R_drewN | apply Kd.R_drew)); exact (Kd.R_mono (Kd.R_far (p := ⟨gb513, 4, none⟩) (Kd.R_far (p := ⟨gb513, 3, none⟩) (Kd.R_far (p := ⟨gb513, 2, none⟩) (Kd.R_far (p := ⟨gb513, 1, none⟩) (Kd.R_far (p := ⟨gb513, 0, none⟩) (Kd.R_types HO_6.out BK513.out (by decide)) (fun _ hk => hk.2) (.int .i64 ((rd_T57 s0_0 x7_2).f0))) (fun _ hk => hk.2) (.int .i64 ((rd_T57 s0_0 x7_2).f1))) (fun _ hk => hk.2) (.int .i64 ((rd_T57 s0_0 x7_2).f2))) (fun _ hk => hk.2) (.string ((rd_T57 s0_0 x7_2).f3))) (fun _ hk => hk.2) (.int .i64 ((rd_T57 s0_0 x7_2).f4))) (fun _ h_ => h_.1))) (Kd.R_base ho0) hb); replace BK484 := bkb BK484 hb; replace BK513 := Aside0.mk (blk_below (g := gb513) (o := .cells #[.int .i64 ((rd_T57 s0_0 x7_2).f0), .int .i64 ((rd_T57 s0_0 x7_2).f1), .int .i64 ((rd_T57 s0_0 x7_2).f2), .string ((rd_T57 s0_0 x7_2).f3), .int .i64 ((rd_T57 s0_0 x7_2).f4)] 57 (0, 0)) (blk_later BK513.out) hb); replace HK := Aside0.mk (KeepBut.trans (keep_later HK.out) (KeepBut.of_below hb g none) (.inl rfl)); replace HB := Aside0.mk (below_step (by repeat (first | (with_reducible first | exact HB.out | apply below_alloc | apply pw_below_drewN | apply below_drew1 | refine below_set ?_ (IsS85.ge HI0.out) | refine below_set ?_ GE484.out | refine below_set ?_ GE513.out) | exact HB.out)) hb); replace HI0 := Aside0.mk (IsS85.below (show IsS85 w0 (((((w55.setCell ⟨gb513, 0, none⟩ (.int .i64 ((rd_T57 s0_0 x7_2).f0))).setCell ⟨gb513, 1, none⟩ (.int .i64 ((rd_T57 s0_0 x7_2).f1))).setCell ⟨gb513, 2, none⟩ (.int .i64 ((rd_T57 s0_0 x7_2).f2))).setCell ⟨gb513, 3, none⟩ (.string ((rd_T57 s0_0 x7_2).f3))).setCell ⟨gb513, 4, none⟩ (.int .i64 ((rd_T57 s0_0 x7_2).f4))) g s0_0 s0_1 from by repeat (first | (with_reducible first | exact HI0.out | apply IsS85.alloc | apply IsS85.drewN | apply IsS85.drew | refine IsS85.far ?_ (Aside0.out (by with_reducible assumption)) _) | exact HI0.out)) hb); (try clear hb); (try clear hk); (try clear hi); (try clear ho0); obtain ⟨Ao63, co63, eo63⟩ := Kd.R_slice HO516.out; subst eo63) | ((with_reducible refine gate_builtin (b := .append) (xs := #[.tmp 75, .tmp 78]) rfl ?_); at_builtin; refine Kd.R_append_rows (Kd.int .u8) w.heap.size rfl (.tmp 75) (.tmp 78) 41 5 (.int .u8 0) 1 rfl Try.underlying41 info5 rfl (by decide) (by omega) u6 x6_2 t514 _ _ _ (fun k_ => some k_ ≠ (.slice Ao63 t514.length co63 : Value).ownBlock) (fun _ => False) rfl rfl ?aO ?aR (fun _ _ h => h) (fun _ h => h.elim) ?aF (Below.refl _ _) ?aS ?aL ?_; (case aR => repeat (first | exact (Kd.R_reads' HO516.out).2.2 | (with_reducible refine Kd.C_alloc ?_ _) | (with_reducible refine Kd.C_drewN ?_ _) | (with_reducible refine Kd.C_drew ?_))); (case aF => exact (fun k_ hk => Kd.fresh' (Kd.R_lt (R_later HO516.out)) k_ hk)); (case aO => exact (by (with_reducible repeat (first | apply Kd.R_alloc | apply Kd.R_drewN | apply Kd.R_drew)); exact Kd.R_mono HO_6.out (fun _ hk => hk.2))); (case aS => exact (keep_size (w := w) (g := g) (row := none) (keep_later HK.out))); (case aL => have := LMc50.out; omega); intro v518 w62 ho hb hg hat; rw [← Ny517.out] at ho; have n0_ := Aside0.mk (blk_grown (blk_later BK484.out) hg (Kd.R_ne HO_6.out BK484.out (by decide))); have n1_ := Aside0.mk (IsS85.grown (by repeat (first | (with_reducible first | exact HI0.out | apply IsS85.alloc | apply IsS85.drewN | apply IsS85.drew | refine IsS85.far ?_ (Aside0.out (by with_reducible assumption)) _) | exact HI0.out)) hg (IsS85.own_ne HI0.out HO_6.out (by decide))); have n2_ := Aside0.mk (blk_grown (blk_later BK513.out) hg (Kd.R_ne HO_6.out BK513.out (by decide))); have n3_ := Aside0.mk (Kd.R_after (ok := (fun _ => True)) (R_later HO516.out) hg hat); have n4_ := Aside0.mk (below_weaken (by repeat (first | (with_reducible first | exact HB.out | apply below_alloc | apply pw_below_drewN | apply below_drew1 | refine below_set ?_ (IsS85.ge HI0.out) | refine below_set ?_ GE484.out | refine below_set ?_ GE513.out) | exact HB.out)) HL.out hb); have n5_ := Aside0.mk (KeepBut.trans (keep_later HK.out) (KeepBut.of_grown hg g) (Kd.R_base2 HO_6.out)); have n6_ := Aside0.mk (ho); clear BK484; clear HI0; clear BK513; clear HO516; clear HB; clear HK; clear HO_6; have BK484 := n0_; have HI0 := n1_; have BK513 := n2_; have HO516 := n3_; have HB := n4_; have HK := n5_; have HO519 := n6_; clear n0_ n1_ n2_ n3_ n4_ n5_ n6_; clear ho hb hg hat; obtain ⟨hcz64_0, hcz64_1, hcz64_2, hcz64_3, hcz64_4, hfz64_0, hfz64_1, hfz64_2, hfz64_3, hfz64_4⟩ := cl5 BK513) | ((with_reducible refine gate_callee (f := 85) rfl ?_); refine gl_ (some 85) Try.func85 #[.pointer (some ⟨g, 0, none⟩), .int .i64 x7_2] rfl ?_; (with_reducible refine (ih k2 (by have := HJ4.out; have := HK2.out; omega) g s0_0 s0_1 x7_2 t520 w0 _ ?side1 ?side2 A51.out).mono ?_); (case side1 => repeat (first | (with_reducible first | exact HI0.out | apply IsS85.alloc | apply IsS85.drewN | apply IsS85.drew | refine IsS85.far ?_ (Aside0.out (by with_reducible assumption)) _) | exact HI0.out)); (case side2 => repeat (first | (with_reducible first | exact HB.out | apply below_alloc | apply pw_below_drewN | apply below_drew1 | refine below_set ?_ (IsS85.ge HI0.out) | refine below_set ?_ GE484.out | refine below_set ?_ GE513.out) | exact HB.out)); rintro e w65 ⟨v521, rfl, ho0, hi, hb, hk⟩; refine ⟨_, rfl, ?_⟩; have HO522 := Aside0.mk (Kd.R_lower (Kd.R_new' (Kd.R_new' ho0 (Kd.R_lt (R_later HO516.out))) (Kd.R_lt (R_later HO519.out))) (keep_size (w := w) (g := g) (row := none) (keep_later HK.out))); replace BK484 := Aside0.mk (KeepBut.blk hk (g' := gb484) (o := .cells #[.int .i64 ((rd_T57 s0_0 a1).f0), .int .i64 ((rd_T57 s0_0 a1).f1), .int .i64 ((rd_T57 s0_0 a1).f2), .string ((rd_T57 s0_0 a1).f3), .int .i64 ((rd_T57 s0_0 a1).f4)] 57 (0, 0)) (blk_later BK484.out) NB484_0.out (by simp)); replace BK513 := Aside0.mk (KeepBut.blk hk (g' := gb513) (o := .cells #[.int .i64 ((rd_T57 s0_0 x7_2).f0), .int .i64 ((rd_T57 s0_0 x7_2).f1), .int .i64 ((rd_T57 s0_0 x7_2).f2), .string ((rd_T57 s0_0 x7_2).f3), .int .i64 ((rd_T57 s0_0 x7_2).f4)] 57 (0, 0)) (blk_later BK513.out) NB513_0.out (by simp)); replace HO516 := Aside0.mk (Kd.R_mono (Kd.R_told (Kd.R_oldK (IsS85.apart (show IsS85 w0 _ g s0_0 s0_1 from by repeat (first | (with_reducible first | exact HI0.out | apply IsS85.alloc | apply IsS85.drewN | apply IsS85.drew | refine IsS85.far ?_ (Aside0.out (by with_reducible assumption)) _) | exact HI0.out)) (R_later HO516.out) (by decide)) hk) (Kd.R_base ho0)) (fun _ h_ => h_.1)); replace HO519 := Aside0.mk (Kd.R_mono (Kd.R_told (Kd.R_oldK (IsS85.apart (show IsS85 w0 _ g s0_0 s0_1 from by repeat (first | (with_reducible first | exact HI0.out | apply IsS85.alloc | apply IsS85.drewN | apply IsS85.drew | refine IsS85.far ?_ (Aside0.out (by with_reducible assumption)) _) | exact HI0.out)) (R_later HO519.out) (by decide)) hk) (Kd.R_base ho0)) (fun _ h_ => h_.1)); replace HK := Aside0.mk (KeepBut.trans (keep_later HK.out) hk (.inl rfl)); replace HB := Aside0.mk (hb); replace HI0 := Aside0.mk (hi); (try clear hb); (try clear hk); (try clear hi); (try clear ho0); obtain ⟨Ao67, co67, eo67⟩ := Kd.R_slice HO522.out; subst eo67) | ((with_reducible refine gate_builtin (b := .append) (xs := #[.tmp 82, .tmp 85]) rfl ?_); at_builtin; refine Kd.R_append_rows (Kd.int .u8) w.heap.size rfl (.tmp 82) (.tmp 85) 41 5 (.int .u8 0) 1 rfl Try.underlying41 info5 rfl (by decide) (by omega) v518 y517 t520 _ _ _ (fun k_ => some k_ ≠ (.slice Ao63 t514.length co63 : Value).ownBlock ∧ some k_ ≠ (.slice Ao67 t520.length co67 : Value).ownBlock) (fun _ => False) rfl rfl ?aO ?aR (fun _ _ h => h) (fun _ h => h.elim) ?aF (Below.refl _ _) ?aS ?aL ?_; (case aR => repeat (first | exact (Kd.R_reads' HO522.out).2.2 | (with_reducible refine Kd.C_alloc ?_ _) | (with_reducible refine Kd.C_drewN ?_ _) | (with_reducible refine Kd.C_drew ?_))); (case aF => exact (fun k_ hk => ⟨Kd.fresh' (Kd.R_lt (R_later HO516.out)) k_ hk, Kd.fresh' (Kd.R_lt (R_later HO522.out)) k_ hk⟩)); (case aO => exact (R_later HO519.out)); (case aS => exact (keep_size (w := w) (g := g) (row := none) (keep_later HK.out))); (case aL => have := LMc52.out; omega); intro v524 w66 ho hb hg hat; rw [← Ny523.out] at ho; have n0_ := Aside0.mk (blk_grown (blk_later BK484.out) hg (Kd.R_ne HO519.out BK484.out (by decide))); have n1_ := Aside0.mk (IsS85.grown (by repeat (first | (with_reducible first | exact HI0.out | apply IsS85.alloc | apply IsS85.drewN | apply IsS85.drew | refine IsS85.far ?_ (Aside0.out (by with_reducible assumption)) _) | exact HI0.out)) hg (IsS85.own_ne HI0.out HO519.out (by decide))); have n2_ := Aside0.mk (blk_grown (blk_later BK513.out) hg (Kd.R_ne HO519.out BK513.out (by decide))); have n3_ := Aside0.mk (Kd.R_after (ok := (fun k_ => some k_ ≠ (.slice Ao67 t520.length co67 : Value).ownBlock)) (by (with_reducible repeat (first | apply Kd.R_alloc | apply Kd.R_drewN | apply Kd.R_drew)); exact Kd.R_mono HO516.out (fun _ hk => ⟨hk.2, hk.1.2⟩)) hg hat); have n4_ := Aside0.mk (Kd.R_after (ok := (fun k_ => some k_ ≠ (.slice Ao63 t514.length co63 : Value).ownBlock)) (by (with_reducible repeat (first | apply Kd.R_alloc | apply Kd.R_drewN | apply Kd.R_drew)); exact Kd.R_mono HO522.out (fun _ hk => ⟨hk.1.2, hk.2⟩)) hg hat); have n5_ := Aside0.mk (below_weaken (by repeat (first | (with_reducible first | exact HB.out | apply below_alloc | apply pw_below_drewN | apply below_drew1 | refine below_set ?_ (IsS85.ge HI0.out) | refine below_set ?_ GE484.out | refine below_set ?_ GE513.out) | exact HB.out)) HL.out hb); have n6_ := Aside0.mk (KeepBut.trans (keep_later HK.out) (KeepBut.of_grown hg g) (Kd.R_base2 HO519.out)); have n7_ := Aside0.mk (ho); clear BK484; clear HI0; clear BK513; clear HO516; clear HO522; clear HB; clear HK; clear HO519; have BK484 := n0_; have HI0 := n1_; have BK513 := n2_; have HO516 := n3_; have HO522 := n4_; have HB := n5_; have HK := n6_; have HO525 := n7_; clear n0_ n1_ n2_ n3_ n4_ n5_ n6_ n7_; clear ho hb hg hat; obtain ⟨ASz68_0, cSz68_0, ASz68_1, cSz68_1, HGz68, hgz68, HSz68_0, HSz68_1⟩ := HI0.out; have hcz68_0 := cellS85_0 HGz68; have hcz68_1 := cellS85_1 HGz68; clear HGz68 hgz68; have p526 : 0 ≤ (x7_2 : Int) := dcd; have q526 : x7_2 < (s0_1.length : Int) := dcd; obtain ⟨ad526, e526, hx526_0⟩ := Kd.at_int HSz68_1 x7_2 p526 q526; cases e526; replace hx526_0 := pw_cell_below HB.out hx526_0; replace p526 := eq_true p526; replace q526 := eq_true q526))
              go_roundg k2
              case measure => have := HJ4.out; have := HK2.out; omega
              case rel => exact ⟨(y523), (rd s0_1 x7_2), ((rd_T57 s0_0 x7_2).f1), (wrap64 (x63_2 + 1)), sr, sr, sr, H', ⟨by have := HJ4.out; have := HK2.out; omega⟩, ⟨R_later (Kd.R_mono HO525.out (fun _ hk => trivial))⟩, ⟨blk_later BK484.out⟩, ⟨by repeat (first | (with_reducible first | exact HI0.out | apply IsS85.alloc | apply IsS85.drewN | apply IsS85.drew | refine IsS85.far ?_ (Aside0.out (by with_reducible assumption)) _) | exact HI0.out)⟩, ⟨keep_later HK.out⟩, ⟨by repeat (first | (with_reducible first | exact HB.out | apply below_alloc | apply pw_below_drewN | apply below_drew1 | refine below_set ?_ (IsS85.ge HI0.out) | refine below_set ?_ GE484.out | refine below_set ?_ GE513.out) | exact HB.out)⟩⟩
            · rw [if_neg c48] at H
              have c48b0 : (((rd_T57 s0_0 a1).f0) == 12) = false := beq_eq_false_iff_ne.mpr c48
              have c48b1 : (((rd_T57 s0_0 a1).f0) != 12) = true := bne_iff_ne.mpr c48
              replace H := bnd H
              obtain ⟨t527, A69, H⟩ := H
              replace H := ifs H
              obtain ⟨c70, H⟩ := H
              have LMc70 := Aside0.mk c70
              clear c70
              obtain ⟨y530, hy530⟩ : ∃ y_ : List Int, y_ = (x6_2 ++ t527) := ⟨_, rfl⟩
              replace H : (if x7_2 < (s0_1.length : Int) then (impl_tree_bytesOf.l0 k2 y530 (rd s0_1 x7_2) ((rd_T57 s0_0 x7_2).f1) ((rd_T57 s0_0 a1).f4) (wrap64 (x63_2 + 1)) s0_0 s0_1 ((rd_T57 s0_0 a1).f0) ((rd_T57 s0_0 a1).f1) ((rd_T57 s0_0 a1).f2) ((rd_T57 s0_0 a1).f3) ((rd_T57 s0_0 a1).f4)) else (none)) = some r := by first | (rw [hy530]; with_reducible exact H) | (rw [hy530]; exact H) | exact H
              have Ny530 := Aside0.mk hy530
              clear hy530
              replace H := ifd H
              obtain ⟨c71b0, H⟩ := H
              have H' := Aside0.mk H
              clear H
              obtain ⟨ASz72_0, cSz72_0, ASz72_1, cSz72_1, HGz72, hgz72, HSz72_0, HSz72_1⟩ := HI0.out
              have hcz72_0 := cellS85_0 HGz72
              have hcz72_1 := cellS85_1 HGz72
              clear HGz72 hgz72
              have p512 : 0 ≤ (x7_2 : Int) := dcd
              have q512 : x7_2 < (s0_0.length : Int) := dcd
              obtain ⟨ad512, e512, hx512_0, hx512_1, hx512_2, hx512_3, hx512_4⟩ := at_T57 HSz72_0 x7_2 p512 q512
              cases e512
              replace hx512_0 := pw_cell_below HB.out hx512_0
              replace hx512_1 := pw_cell_below HB.out hx512_1
              replace hx512_2 := pw_cell_below HB.out hx512_2
              replace hx512_3 := pw_cell_below HB.out hx512_3
              replace hx512_4 := pw_cell_below HB.out hx512_4
              replace p512 := eq_true p512
              replace q512 := eq_true q512
              go_wp2_with (first | ((with_reducible refine gate_dst (N := 9) rfl ?_); refine bx_ 9 #[.int .i64 0, .int .i64 0, .int .i64 0, .string (⟨#[]⟩ : ByteArray), .int .i64 0] 57 ?_; intro gb513 hg w73 hbox hb; have BK513 := Aside0.mk (hbox); have GW513 := Aside0.mk ((by rw [hg]; exact (keep_size (w := w) (g := g) (row := none) (keep_later HK.out)) : w.heap.size ≤ gb513)); have GE513 := Aside0.mk ((Nat.le_trans HW0.out (by rw [hg]; exact (keep_size (w := w) (g := g) (row := none) (keep_later HK.out)) : w.heap.size ≤ gb513) : w0.heap.size ≤ gb513)); have NB484_513 := nbl BK484 hg; have NB513_484 := nbr (nbl BK484 hg); have NB0_513 := Aside0.mk ((by rw [hg]; exact Nat.ne_of_lt (IsS85.lt (show IsS85 w0 _ g s0_0 s0_1 from by repeat (first | (with_reducible first | exact HI0.out | apply IsS85.alloc | apply IsS85.drewN | apply IsS85.drew | refine IsS85.far ?_ (Aside0.out (by with_reducible assumption)) _) | exact HI0.out))) : g ≠ gb513)); have NB513_0 := Aside0.mk ((by rw [hg]; exact Nat.ne_of_gt (IsS85.lt (show IsS85 w0 _ g s0_0 s0_1 from by repeat (first | (with_reducible first | exact HI0.out | apply IsS85.alloc | apply IsS85.drewN | apply IsS85.drew | refine IsS85.far ?_ (Aside0.out (by with_reducible assumption)) _) | exact HI0.out))) : gb513 ≠ g)); replace HO_6 := Aside0.mk (Kd.R_below (R_later HO_6.out) hb); replace BK484 := bkb BK484 hb; replace HK := Aside0.mk (KeepBut.trans (keep_later HK.out) (KeepBut.of_below hb g none) (.inl rfl)); replace HB := Aside0.mk (below_step (by repeat (first | (with_reducible first | exact HB.out | apply below_alloc | apply pw_below_drewN | apply below_drew1 | refine below_set ?_ (IsS85.ge HI0.out) | refine below_set ?_ GE484.out) | exact HB.out)) hb); replace HI0 := Aside0.mk (IsS85.below (by repeat (first | (with_reducible first | exact HI0.out | apply IsS85.alloc | apply IsS85.drewN | apply IsS85.drew | refine IsS85.far ?_ (Aside0.out (by with_reducible assumption)) _) | exact HI0.out)) hb); clear hb hbox hg; have hnb74 := NB513_484.out; have hnc74 := NB484_513.out; have hnb75 := NB513_0.out; have hnc75 := NB0_513.out; obtain ⟨hcz76_0, hcz76_1, hcz76_2, hcz76_3, hcz76_4, hfz76_0, hfz76_1, hfz76_2, hfz76_3, hfz76_4⟩ := cl5 BK513; have hnb77 := NB484_0.out; have hnc77 := NB0_484.out; obtain ⟨hcz78_0, hcz78_1, hcz78_2, hcz78_3, hcz78_4, hfz78_0, hfz78_1, hfz78_2, hfz78_3, hfz78_4⟩ := cl5 BK484) | ((with_reducible refine gate_callee (f := 85) rfl ?_); refine gl_ (some 85) Try.func85 #[.pointer (some ⟨g, 0, none⟩), .int .i64 x7_2] rfl ?_; (with_reducible refine (ih k2 (by have := HJ4.out; have := HK2.out; omega) g s0_0 s0_1 x7_2 t527 w0 _ ?side1 ?side2 A69.out).mono ?_); (case side1 => repeat (first | (with_reducible first | exact HI0.out | apply IsS85.alloc | apply IsS85.drewN | apply IsS85.drew | refine IsS85.far ?_ (Aside0.out (by with_reducible assumption)) _) | exact HI0.out)); (case side2 => repeat (first | (with_reducible first | exact HB.out | apply below_alloc | apply pw_below_drewN | apply below_drew1 | refine below_set ?_ (IsS85.ge HI0.out) | refine below_set ?_ GE484.out | refine below_set ?_ GE513.out) | exact HB.out)); rintro e w79 ⟨v528, rfl, ho0, hi, hb, hk⟩; refine ⟨_, rfl, ?_⟩; have HO529 := Aside0.mk (Kd.R_lower (Kd.R_new' ho0 (Kd.R_lt (by (with_reducible repeat (first | apply Kd.R_alloc | apply Kd.R_drewN | apply Kd.R_drew)); exact (Kd.R_mono (Kd.R_far (p := ⟨gb513, 4, none⟩) (Kd.R_far (p := ⟨gb513, 3, none⟩) (Kd.R_far (p := ⟨gb513, 2, none⟩) (Kd.R_far (p := ⟨gb513, 1, none⟩) (Kd.R_far (p := ⟨gb513, 0, none⟩) (Kd.R_types HO_6.out BK513.out (by decide)) (fun _ hk => hk.2) (.int .i64 ((rd_T57 s0_0 x7_2).f0))) (fun _ hk => hk.2) (.int .i64 ((rd_T57 s0_0 x7_2).f1))) (fun _ hk => hk.2) (.int .i64 ((rd_T57 s0_0 x7_2).f2))) (fun _ hk => hk.2) (.string ((rd_T57 s0_0 x7_2).f3))) (fun _ hk => hk.2) (.int .i64 ((rd_T57 s0_0 x7_2).f4))) (fun _ h_ => h_.1))))) (keep_size (w := w) (g := g) (row := none) (keep_later HK.out))); replace HO_6 := Aside0.mk (Kd.R_mono (Kd.R_told (Kd.R_oldK (IsS85.apart (show IsS85 w0 _ g s0_0 s0_1 from by repeat (first | (with_reducible first | exact HI0.out | apply IsS85.alloc | apply IsS85.drewN | apply IsS85.drew | refine IsS85.far ?_ (Aside0.out (by with_reducible assumption)) _) | exact HI0.out)) (by (with_reducible repeat (first | apply Kd.R_alloc | apply Kd.R_drewN | apply Kd.R_drew)); exact (Kd.R_mono (Kd.R_far (p := ⟨gb513, 4, none⟩) (Kd.R_far (p := ⟨gb513, 3, none⟩) (Kd.R_far (p := ⟨gb513, 2, none⟩) (Kd.R_far (p := ⟨gb513, 1, none⟩) (Kd.R_far (p := ⟨gb513, 0, none⟩) (Kd.R_types HO_6.out BK513.out (by decide)) (fun _ hk => hk.2) (.int .i64 ((rd_T57 s0_0 x7_2).f0))) (fun _ hk => hk.2) (.int .i64 ((rd_T57 s0_0 x7_2).f1))) (fun _ hk => hk.2) (.int .i64 ((rd_T57 s0_0 x7_2).f2))) (fun _ hk => hk.2) (.string ((rd_T57 s0_0 x7_2).f3))) (fun _ hk => hk.2) (.int .i64 ((rd_T57 s0_0 x7_2).f4))) (fun _ h_ => h_.1))) (by decide)) hk) (Kd.R_base ho0)) (fun _ h_ => h_.1)); replace BK484 := Aside0.mk (KeepBut.blk hk (g' := gb484) (o := .cells #[.int .i64 ((rd_T57 s0_0 a1).f0), .int .i64 ((rd_T57 s0_0 a1).f1), .int .i64 ((rd_T57 s0_0 a1).f2), .string ((rd_T57 s0_0 a1).f3), .int .i64 ((rd_T57 s0_0 a1).f4)] 57 (0, 0)) (blk_later BK484.out) NB484_0.out (by simp)); replace BK513 := Aside0.mk (KeepBut.blk hk (g' := gb513) (o := .cells #[.int .i64 ((rd_T57 s0_0 x7_2).f0), .int .i64 ((rd_T57 s0_0 x7_2).f1), .int .i64 ((rd_T57 s0_0 x7_2).f2), .string ((rd_T57 s0_0 x7_2).f3), .int .i64 ((rd_T57 s0_0 x7_2).f4)] 57 (0, 0)) (blk_later BK513.out) NB513_0.out (by simp)); replace HK := Aside0.mk (KeepBut.trans (keep_later HK.out) hk (.inl rfl)); replace HB := Aside0.mk (hb); replace HI0 := Aside0.mk (hi); (try clear hb); (try clear hk); (try clear hi); (try clear ho0); obtain ⟨Ao81, co81, eo81⟩ := Kd.R_slice HO529.out; subst eo81) | ((with_reducible refine gate_builtin (b := .append) (xs := #[.tmp 82, .tmp 85]) rfl ?_); at_builtin; refine Kd.R_append_rows (Kd.int .u8) w.heap.size rfl (.tmp 82) (.tmp 85) 41 5 (.int .u8 0) 1 rfl Try.underlying41 info5 rfl (by decide) (by omega) u6 x6_2 t527 _ _ _ (fun k_ => some k_ ≠ (.slice Ao81 t527.length co81 : Value).ownBlock) (fun _ => False) rfl rfl ?aO ?aR (fun _ _ h => h) (fun _ h => h.elim) ?aF (Below.refl _ _) ?aS ?aL ?_; (case aR => repeat (first | exact (Kd.R_reads' HO529.out).2.2 | (with_reducible refine Kd.C_alloc ?_ _) | (with_reducible refine Kd.C_drewN ?_ _) | (with_reducible refine Kd.C_drew ?_))); (case aF => exact (fun k_ hk => Kd.fresh' (Kd.R_lt (R_later HO529.out)) k_ hk)); (case aO => exact (by (with_reducible repeat (first | apply Kd.R_alloc | apply Kd.R_drewN | apply Kd.R_drew)); exact Kd.R_mono HO_6.out (fun _ hk => hk.2))); (case aS => exact (keep_size (w := w) (g := g) (row := none) (keep_later HK.out))); (case aL => have := LMc70.out; omega); intro v531 w80 ho hb hg hat; rw [← Ny530.out] at ho; have n0_ := Aside0.mk (blk_grown (blk_later BK484.out) hg (Kd.R_ne HO_6.out BK484.out (by decide))); have n1_ := Aside0.mk (IsS85.grown (by repeat (first | (with_reducible first | exact HI0.out | apply IsS85.alloc | apply IsS85.drewN | apply IsS85.drew | refine IsS85.far ?_ (Aside0.out (by with_reducible assumption)) _) | exact HI0.out)) hg (IsS85.own_ne HI0.out HO_6.out (by decide))); have n2_ := Aside0.mk (blk_grown (blk_later BK513.out) hg (Kd.R_ne HO_6.out BK513.out (by decide))); have n3_ := Aside0.mk (Kd.R_after (ok := (fun _ => True)) (R_later HO529.out) hg hat); have n4_ := Aside0.mk (below_weaken (by repeat (first | (with_reducible first | exact HB.out | apply below_alloc | apply pw_below_drewN | apply below_drew1 | refine below_set ?_ (IsS85.ge HI0.out) | refine below_set ?_ GE484.out | refine below_set ?_ GE513.out) | exact HB.out)) HL.out hb); have n5_ := Aside0.mk (KeepBut.trans (keep_later HK.out) (KeepBut.of_grown hg g) (Kd.R_base2 HO_6.out)); have n6_ := Aside0.mk (ho); clear BK484; clear HI0; clear BK513; clear HO529; clear HB; clear HK; clear HO_6; have BK484 := n0_; have HI0 := n1_; have BK513 := n2_; have HO529 := n3_; have HB := n4_; have HK := n5_; have HO532 := n6_; clear n0_ n1_ n2_ n3_ n4_ n5_ n6_; clear ho hb hg hat; obtain ⟨ASz82_0, cSz82_0, ASz82_1, cSz82_1, HGz82, hgz82, HSz82_0, HSz82_1⟩ := HI0.out; have hcz82_0 := cellS85_0 HGz82; have hcz82_1 := cellS85_1 HGz82; clear HGz82 hgz82; have p533 : 0 ≤ (x7_2 : Int) := dcd; have q533 : x7_2 < (s0_1.length : Int) := dcd; obtain ⟨ad533, e533, hx533_0⟩ := Kd.at_int HSz82_1 x7_2 p533 q533; cases e533; replace hx533_0 := pw_cell_below HB.out hx533_0; replace p533 := eq_true p533; replace q533 := eq_true q533))
              go_roundg k2
              case measure => have := HJ4.out; have := HK2.out; omega
              case rel => exact ⟨(y530), (rd s0_1 x7_2), ((rd_T57 s0_0 x7_2).f1), (wrap64 (x63_2 + 1)), sr, sr, sr, H', ⟨by have := HJ4.out; have := HK2.out; omega⟩, ⟨R_later (Kd.R_mono HO532.out (fun _ hk => trivial))⟩, ⟨blk_later BK484.out⟩, ⟨by repeat (first | (with_reducible first | exact HI0.out | apply IsS85.alloc | apply IsS85.drewN | apply IsS85.drew | refine IsS85.far ?_ (Aside0.out (by with_reducible assumption)) _) | exact HI0.out)⟩, ⟨keep_later HK.out⟩, ⟨by repeat (first | (with_reducible first | exact HB.out | apply below_alloc | apply pw_below_drewN | apply below_drew1 | refine below_set ?_ (IsS85.ge HI0.out) | refine below_set ?_ GE484.out | refine below_set ?_ GE513.out) | exact HB.out)⟩⟩
          · rw [if_neg c45] at H
            have c45b0 := decide_eq_false c45
            clear c45
            by_cases c83 : ((rd_T57 s0_0 a1).f0) = 12
            · rw [if_pos c83] at H
              have c83b0 : (((rd_T57 s0_0 a1).f0) == 12) = true := beq_iff_eq.mpr c83
              have c83b1 : (((rd_T57 s0_0 a1).f0) != 12) = false := bne_eq_false_iff_eq.mpr c83
              clear c83
              replace H := ifs H
              obtain ⟨c84, H⟩ := H
              have LMc84 := Aside0.mk c84
              clear c84
              obtain ⟨y509, hy509⟩ : ∃ y_ : List Int, y_ = (x6_2 ++ [0]) := ⟨_, rfl⟩
              replace H : (some y509) = some r := by first | (rw [hy509]; with_reducible exact H) | (rw [hy509]; exact H) | exact H
              have Ny509 := Aside0.mk hy509
              clear hy509
              obtain rfl := Option.some.inj H
              have hnb85 := NB484_0.out
              have hnc85 := NB0_484.out
              obtain ⟨hcz86_0, hcz86_1, hcz86_2, hcz86_3, hcz86_4, hfz86_0, hfz86_1, hfz86_2, hfz86_3, hfz86_4⟩ := cl5 BK484
              go_wp2_with (first | ((with_reducible refine gate_builtin (b := .append) (xs := #[.tmp 98, .tmp 99]) rfl ?_); at_builtin; refine Kd.R_append (Kd.int .u8) w.heap.size rfl (.tmp 98) (.tmp 99) 41 5 (.int .u8 0) 1 rfl Try.underlying41 info5 rfl (by decide) (by omega) u6 x6_2 0 [.int .u8 0] (fun _ => True) (fun _ => False) rfl rfl ?aP (fun _ hk => hk.elim) ?aF ?aO (Below.refl _ _) ?aS ?aL ?_; (case aP => exact rfl); (case aF => exact (fun _ _ => trivial)); (case aO => exact (R_later HO_6.out)); (case aS => exact (keep_size (w := w) (g := g) (row := none) (keep_later HK.out))); (case aL => have := LMc84.out; omega); intro v510 w87 ho hb hg hat; rw [← Ny509.out] at ho; have n0_ := Aside0.mk (blk_grown (blk_later BK484.out) hg (Kd.R_ne HO_6.out BK484.out (by decide))); have n1_ := Aside0.mk (IsS85.grown (by repeat (first | (with_reducible first | exact HI0.out | apply IsS85.alloc | apply IsS85.drewN | apply IsS85.drew | refine IsS85.far ?_ (Aside0.out (by with_reducible assumption)) _) | exact HI0.out)) hg (IsS85.own_ne HI0.out HO_6.out (by decide))); have n2_ := Aside0.mk (below_weaken (by repeat (first | (with_reducible first | exact HB.out | apply below_alloc | apply pw_below_drewN | apply below_drew1 | refine below_set ?_ (IsS85.ge HI0.out) | refine below_set ?_ GE484.out) | exact HB.out)) HL.out hb); have n3_ := Aside0.mk (KeepBut.trans (keep_later HK.out) (KeepBut.of_grown hg g) (Kd.R_base2 HO_6.out)); have n4_ := Aside0.mk (ho); clear BK484; clear HI0; clear HB; clear HK; clear HO_6; have BK484 := n0_; have HI0 := n1_; have HB := n2_; have HK := n3_; have HO511 := n4_; clear n0_ n1_ n2_ n3_ n4_; clear ho hb hg hat))
              go_ret
              exact ⟨_, by first | rfl | (simp [errW_none, errW_some] <;> rfl) | (simp [*, errW_none, errW_some] <;> rfl), by (with_reducible repeat (first | apply Kd.R_alloc | apply Kd.R_drewN | apply Kd.R_drew)); exact HO511.out, by repeat (first | (with_reducible first | exact HI0.out | apply IsS85.alloc | apply IsS85.drewN | apply IsS85.drew | refine IsS85.far ?_ (Aside0.out (by with_reducible assumption)) _) | exact HI0.out), by repeat (first | (with_reducible first | exact HB.out | apply below_alloc | apply pw_below_drewN | apply below_drew1 | refine below_set ?_ (IsS85.ge HI0.out) | refine below_set ?_ GE484.out) | exact HB.out), keep_later HK.out⟩
            · rw [if_neg c83] at H
              have c83b0 : (((rd_T57 s0_0 a1).f0) == 12) = false := beq_eq_false_iff_ne.mpr c83
              have c83b1 : (((rd_T57 s0_0 a1).f0) != 12) = true := bne_iff_ne.mpr c83
              obtain rfl := Option.some.inj H
              have hnb88 := NB484_0.out
              have hnc88 := NB0_484.out
              obtain ⟨hcz89_0, hcz89_1, hcz89_2, hcz89_3, hcz89_4, hfz89_0, hfz89_1, hfz89_2, hfz89_3, hfz89_4⟩ := cl5 BK484
              go_wp2
              go_ret
              exact ⟨_, by first | rfl | (simp [errW_none, errW_some] <;> rfl) | (simp [*, errW_none, errW_some] <;> rfl), by (with_reducible repeat (first | apply Kd.R_alloc | apply Kd.R_drewN | apply Kd.R_drew)); exact HO_6.out, by repeat (first | (with_reducible first | exact HI0.out | apply IsS85.alloc | apply IsS85.drewN | apply IsS85.drew | refine IsS85.far ?_ (Aside0.out (by with_reducible assumption)) _) | exact HI0.out), by repeat (first | (with_reducible first | exact HB.out | apply below_alloc | apply pw_below_drewN | apply below_drew1 | refine below_set ?_ (IsS85.ge HI0.out) | refine below_set ?_ GE484.out) | exact HB.out), keep_later HK.out⟩
/-! ### impl_TreePack: function 68 -/
def impl_TreePack.f (k : Nat) (l0 : List (S57)) : Option (List Int × Bool) := (impl_treeOf.f k l0).bind fun bt534 => (if bt534.2 = true then ((impl_tree_bytesOf.f k l0 bt534.1 0).bind fun t538 => (some (t538, true))) else (some (([] : List Int), false)))
set_option maxHeartbeats 8000000 in
set_option maxRecDepth 100000 in
theorem impl_TreePack.calls (k : Nat) (A0 : Option Addr) (c0 : Nat) (l0 : List (S57)) (r1 : List Int) (r2 : Bool) (w : World) (hr0 : Kd.C k57 w A0 l0.length l0) (hc0 : l0.length ≤ c0) (h : impl_TreePack.f k l0 = some (r1, r2)) :
    Calls Try.prog 68 #[.slice A0 l0.length c0] w fun e w' => ∃ v0_ : Value, e = .returned (.tuple #[v0_, .bool r2]) ∧ Kd.R (Kd.int .u8) 5 w' w.heap.size (fun _ => True) v0_ r1 ∧ Below w.heap.size w w' := by
  have HR0 := Aside0.mk hr0
  have HC0 := Aside0.mk hc0
  clear hr0 hc0
  have HB := Aside0.mk (Below.refl w.heap.size w)
  have H : ((impl_treeOf.f k l0).bind fun bt534 => (if bt534.2 = true then ((impl_tree_bytesOf.f k l0 bt534.1 0).bind fun t538 => (some (t538, true))) else (some (([] : List Int), false)))) = some (r1, r2) := h
  clear h
  replace H := Option.bind_eq_some_iff.mp H
  obtain ⟨⟨t535, t537⟩, A20, H⟩ := H
  replace H : (if t537 = true then ((impl_tree_bytesOf.f k l0 t535 0).bind fun t538 => (some (t538, true))) else (some (([] : List Int), false))) = some (r1, r2) := H
  have A2 := Aside0.mk A20
  clear A20
  by_cases c3 : t537 = true
  · subst c3
    replace H := ifp rfl H
    replace H := bnd H
    obtain ⟨t538, A4, H⟩ := H
    simp only [Option.some.injEq, Prod.mk.injEq] at H
    obtain ⟨rfl, rfl⟩ := H
    go_enter Try.func68, Try.ntmps68
    go_wp2_with (first | ((with_reducible refine gate_callee (f := 27) rfl ?_); refine gl_ (some 8) Try.func27 #[.slice A0 l0.length c0] rfl ?_; (with_reducible refine (impl_treeOf.calls k _ _ l0 t535 true _ ?side1 ?side2 A2.out).mono ?_); (case side1 => exact C_later (Kd.C_below HR0.out HB.out)); (case side2 => exact HC0.out); rintro e w5 ⟨p_, rfl, hp_⟩; obtain ⟨hb2, _, hp2_⟩ := hp_; obtain ⟨g536, wz, rfl, hi, hbz, hz⟩ := hp2_ rfl; have HZ := Aside0.mk hbz; have HS := Aside0.mk (Nat.le_trans (below_size (below_later HB.out)) hz); have hb := below_step (below_later HB.out) hb2; clear hp2_ hbz hz; refine ⟨_, rfl, ?_⟩; have HI536 := Aside0.mk (hi); replace HB := Aside0.mk (hb); (try clear hb); (try clear hb2); (try clear hk); (try clear hi)) | ((with_reducible refine gate_callee (f := 85) rfl ?_); refine gl_ (some 14) Try.func85 #[.pointer (some ⟨g536, 0, none⟩), .int .i64 0] rfl ?_; (with_reducible refine (impl_tree_bytesOf.calls k g536 l0 t535 0 t538 wz _ ?side1 ?side2 A4.out).mono ?_); (case side1 => repeat (first | (with_reducible first | exact HI536.out | apply IsS85.alloc | apply IsS85.drewN | apply IsS85.drew) | exact HI536.out)); (case side2 => exact below_later HZ.out); rintro e w6 ⟨v539, rfl, ho0, hi, hbz, hk⟩; have hb := below_via HB.out HZ.out hbz HS.out HS.out; replace HZ := Aside0.mk hbz; clear hbz; refine ⟨_, rfl, ?_⟩; have HO540 := Aside0.mk (Kd.R_lower ho0 (below_size (by repeat (first | (with_reducible first | exact HB.out | apply below_alloc | apply pw_below_drewN | apply below_drew1 | refine below_set ?_ (IsS85.ge HI536.out)) | exact HB.out)))); replace HB := Aside0.mk (hb); replace HI536 := Aside0.mk (hi); (try clear hb); (try clear hb2); (try clear hk); (try clear hi); (try clear ho0)))
    go_ret2
    exact ⟨_, by first | rfl | (simp [errW_none, errW_some] <;> rfl) | (simp [*, errW_none, errW_some] <;> rfl), by (with_reducible repeat (first | apply Kd.R_alloc | apply Kd.R_drewN | apply Kd.R_drew)); exact HO540.out, by repeat (first | (with_reducible first | exact HB.out | apply below_alloc | apply pw_below_drewN | apply below_drew1 | refine below_set ?_ (IsS85.ge HI536.out)) | exact HB.out)⟩
  · replace c3 := Bool.eq_false_iff.mpr c3
    subst c3
    replace H := ifn Bool.false_ne_true H
    simp only [Option.some.injEq, Prod.mk.injEq] at H
    obtain ⟨rfl, rfl⟩ := H
    go_enter Try.func68, Try.ntmps68
    go_wp2_with (first | ((with_reducible refine gate_callee (f := 27) rfl ?_); refine gl_ (some 8) Try.func27 #[.slice A0 l0.length c0] rfl ?_; (with_reducible refine (impl_treeOf.calls k _ _ l0 t535 false _ ?side1 ?side2 A2.out).mono ?_); (case side1 => exact C_later (Kd.C_below HR0.out HB.out)); (case side2 => exact HC0.out); rintro e w7 ⟨p_, rfl, hp_⟩; obtain ⟨hb2, hp1_, _⟩ := hp_; obtain rfl := hp1_ rfl; have hb := below_step (below_later HB.out) hb2; clear hp1_; refine ⟨_, rfl, ?_⟩; replace HB := Aside0.mk (hb); (try clear hb); (try clear hb2)))
    go_ret2
    exact ⟨_, by first | rfl | (simp [errW_none, errW_some] <;> rfl) | (simp [*, errW_none, errW_some] <;> rfl), by first | exact Kd.R_nil _ _ _ _ _ | exact Kd.N_nil _ _ _ _ _ | exact Kd.V_nil _ _ _ _ _ | exact Kd.Q_nil _ _ _ _ _ | exact Kd.S_nil _ _ _ _ _, by repeat (first | (with_reducible first | exact HB.out | apply below_alloc | apply pw_below_drewN | apply below_drew1 | refine below_set ?_ (IsS85.ge HI536.out)) | exact HB.out)⟩

end Go.Proofs.Ytgiljoeekpfpmaa.PFnExactDictPack
