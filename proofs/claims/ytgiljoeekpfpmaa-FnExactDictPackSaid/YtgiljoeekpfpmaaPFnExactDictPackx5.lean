/- The machine's side of FnExactDictPack, written by wip/tools/hyb.py of this repo: each Go function as a plain Lean function, and the proof that the call comes to just its answer. No condition. -/
import Derived.Test.YtgiljoeekpfpmaaPFnExactDictPackx0
import Derived.Test.YtgiljoeekpfpmaaPFnExactDictPackx4
namespace Go.Proofs.Ytgiljoeekpfpmaa.PFnExactDictPack
open Go.RowKit Go.Proofs.YtgiljoeekpfpmaaW.PrintWords Go.Proofs.YtgiljoeekpfpmaaW.PrintLast Go.Proofs.YtgiljoeekpfpmaaW.PrintMore Go.Proofs.YtgiljoeekpfpmaaW.PrintMore2
attribute [local go_sem] max2_int min2_int max_two min_two max_three min_three max_four min_four   -- for this text's walks alone
set_option linter.unusedVariables false
set_option linter.unusedSimpArgs false

/-! ### spec_l4Pack: function 83 -/
mutual
def spec_l4Pack.j0 : Nat → List (S57) → Int → List Int → Int → Bool → Int → Int → Int → ByteArray → Int → Option (List Int × Int)
  | 0, _, _, _, _, _, _, _, _, _, _ => none
  | k + 1, x0, x7, x8, x25, x26, x210000, x210001, x210002, x210003, x210004 => if x26 = true then ((spec_ZigPut.f k x210002).bind fun t213 => (some (t213, x7))) else (if x25 = 8 then ((spec_UvarPut.f k (x210003.size : Int)).bind fun t216 => (if t216.length + x210003.size < 140737488355328 then (some ((t216 ++ bytesOf x210003), x7)) else (none))) else (if x25 = 9 then (if x210004 ≤ 14 then (if x8.length < 140737488355328 then (spec_l4Pack.j1 k x0 x7 (x8 ++ [(wrap64 ((wrap64 (16 * x210004)) + x210002)) % 256]) x210000 x210001 x210002 x210003 x210004) else (none)) else (if x8.length < 140737488355328 then ((some (x8 ++ [(wrap64 (240 + x210002)) % 256] : List Int)).bind fun y225 => ((spec_UvarPut.f k x210004).bind fun t228 => (if y225.length + t228.length < 140737488355328 then (spec_l4Pack.j1 k x0 x7 (y225 ++ t228) x210000 x210001 x210002 x210003 x210004) else (none)))) else (none))) else (if x25 = 12 then (spec_l4Pack.l1 k x0 x7 x8 0 0 x210000 x210001 x210002 x210003 x210004) else (some (x8, x7)))))
def spec_l4Pack.j1 : Nat → List (S57) → Int → List Int → Int → Int → Int → ByteArray → Int → Option (List Int × Int)
  | 0, _, _, _, _, _, _, _, _ => none
  | k + 1, x0, x7, x8, x210000, x210001, x210002, x210003, x210004 => spec_l4Pack.l0 k x0 x7 x8 0 x210000 x210001 x210002 x210003 x210004
def spec_l4Pack.l0 : Nat → List (S57) → Int → List Int → Int → Int → Int → Int → ByteArray → Int → Option (List Int × Int)
  | 0, _, _, _, _, _, _, _, _, _ => none
  | k + 1, x0, x7, x8, x9, x210000, x210001, x210002, x210003, x210004 => if x9 < x210004 then ((spec_l4Pack.f k x0 x7).bind fun bt234 => (if x8.length + bt234.1.length < 140737488355328 then (spec_l4Pack.l0 k x0 bt234.2 (x8 ++ bt234.1) (wrap64 (x9 + 1)) x210000 x210001 x210002 x210003 x210004) else (none))) else (some (x8, x7))
def spec_l4Pack.l1 : Nat → List (S57) → Int → List Int → Int → Int → Int → Int → Int → ByteArray → Int → Option (List Int × Int)
  | 0, _, _, _, _, _, _, _, _, _, _ => none
  | k + 1, x0, x7, x8, x12, x13, x210000, x210001, x210002, x210003, x210004 => if x13 < x210004 then (if 0 ≤ x7 then (if x7 < (x0.length : Int) then (if (wrap64 (((rd_T57 x0 x7).f1) - x12)) ≤ 15 then (if x8.length < 140737488355328 then ((some (x8 ++ [(wrap64 ((wrap64 (16 * (wrap64 (((rd_T57 x0 x7).f1) - x12)))) + ((rd_T57 x0 x7).f0))) % 256] : List Int)).bind fun y246 => ((spec_l4Pack.f k x0 x7).bind fun bt249 => (if y246.length + bt249.1.length < 140737488355328 then (spec_l4Pack.l1 k x0 bt249.2 (y246 ++ bt249.1) ((rd_T57 x0 x7).f1) (wrap64 (x13 + 1)) x210000 x210001 x210002 x210003 x210004) else (none)))) else (none)) else (if x8.length < 140737488355328 then ((some (x8 ++ [((rd_T57 x0 x7).f0) % 256] : List Int)).bind fun y256 => ((spec_ZigPut.f k ((rd_T57 x0 x7).f1)).bind fun t259 => (if y256.length + t259.length < 140737488355328 then ((some (y256 ++ t259 : List Int)).bind fun y262 => ((spec_l4Pack.f k x0 x7).bind fun bt265 => (if y262.length + bt265.1.length < 140737488355328 then (spec_l4Pack.l1 k x0 bt265.2 (y262 ++ bt265.1) ((rd_T57 x0 x7).f1) (wrap64 (x13 + 1)) x210000 x210001 x210002 x210003 x210004) else (none)))) else (none)))) else (none))) else (none)) else (none)) else (if x8.length < 140737488355328 then (some ((x8 ++ [0]), x7)) else (none))
def spec_l4Pack.f : Nat → List (S57) → Int → Option (List Int × Int)
  | 0, _, _ => none
  | k + 1, l0, a1 => if 0 ≤ a1 then (if a1 < (l0.length : Int) then ((some (([] : List Int) : List Int)).bind fun y210 => (if ((rd_T57 l0 a1).f0) = 5 then (spec_l4Pack.j0 k l0 (wrap64 (a1 + 1)) y210 ((rd_T57 l0 a1).f0) (((rd_T57 l0 a1).f0) == 5) ((rd_T57 l0 a1).f0) ((rd_T57 l0 a1).f1) ((rd_T57 l0 a1).f2) ((rd_T57 l0 a1).f3) ((rd_T57 l0 a1).f4)) else (spec_l4Pack.j0 k l0 (wrap64 (a1 + 1)) y210 ((rd_T57 l0 a1).f0) (((rd_T57 l0 a1).f0) == 6) ((rd_T57 l0 a1).f0) ((rd_T57 l0 a1).f1) ((rd_T57 l0 a1).f2) ((rd_T57 l0 a1).f3) ((rd_T57 l0 a1).f4)))) else (none)) else (none)
end
def spec_l4Pack.T9 : Bool × List (List Nat × List Nat) := (true, [([], []), ([0], [0]), ([1], [1]), ([2], [2]), ([], []), ([4], [4]), ([5], [5]), ([3, 6, 3], [3, 6]), ([], []), ([7, 7, 0, 1, 2, 3, 4, 5, 6, 7], [7]), ([8, 9, 0, 1, 2, 3, 4, 5, 6, 7, 8, 9], [8])])
def spec_l4Pack.B9 : List Nat := [0, 1, 3, 7, 0, 16, 48, 127, 0, 255, 1023]
theorem spec_l4Pack.tab9 : rtab .any (opsOf Try.f83 9) = spec_l4Pack.T9 := by kernel_rfl
theorem spec_l4Pack.bits9 : waitsOk spec_l4Pack.T9.2 spec_l4Pack.B9 = true := by kernel_rfl
set_option maxHeartbeats 8000000 in
set_option maxRecDepth 100000 in
theorem spec_l4Pack.calls (k : Nat) : ∀ (A0 : Option Addr) (c0 : Nat) (l0 : List (S57)) (a1 : Int) (r1 : List Int) (r2 : Int) (w : World) (hr0 : Kd.C k57 w A0 l0.length l0) (hc0 : l0.length ≤ c0) (h : spec_l4Pack.f k l0 a1 = some (r1, r2)),
    Calls Try.prog 83 #[.slice A0 l0.length c0, .int .i64 a1] w fun e w' => ∃ v0_ : Value, e = .returned (.tuple #[v0_, .int .i64 r2]) ∧ Kd.R (Kd.int .u8) 5 w' w.heap.size (fun _ => True) v0_ r1 ∧ Below w.heap.size w w' := by
  induction k using Nat.strongRecOn with
  | _ k ih =>
  intro A0 c0 l0 a1 r1 r2 w hr0 hc0 h
  cases k with
  | zero => exact absurd h (by simp [spec_l4Pack.f])
  | succ k =>
  simp only [spec_l4Pack.f] at h
  have hu57 := Try.underlying57
  have HR0 := Aside0.mk hr0
  have HC0 := Aside0.mk hc0
  clear hr0 hc0
  have HB := Aside0.mk (Below.refl w.heap.size w)
  have H : (if 0 ≤ a1 then (if a1 < (l0.length : Int) then ((some (([] : List Int) : List Int)).bind fun y210 => (if ((rd_T57 l0 a1).f0) = 5 then (spec_l4Pack.j0 k l0 (wrap64 (a1 + 1)) y210 ((rd_T57 l0 a1).f0) (((rd_T57 l0 a1).f0) == 5) ((rd_T57 l0 a1).f0) ((rd_T57 l0 a1).f1) ((rd_T57 l0 a1).f2) ((rd_T57 l0 a1).f3) ((rd_T57 l0 a1).f4)) else (spec_l4Pack.j0 k l0 (wrap64 (a1 + 1)) y210 ((rd_T57 l0 a1).f0) (((rd_T57 l0 a1).f0) == 6) ((rd_T57 l0 a1).f0) ((rd_T57 l0 a1).f1) ((rd_T57 l0 a1).f2) ((rd_T57 l0 a1).f3) ((rd_T57 l0 a1).f4)))) else (none)) else (none)) = some (r1, r2) := h
  clear h
  replace H := ifd H
  obtain ⟨c3b0, H⟩ := H
  replace H := ifd H
  obtain ⟨c4b0, H⟩ := H
  replace H := bsm H
  obtain ⟨y210, Ny210, H⟩ := H
  have HC5 := Aside0.mk H
  clear H
  have p208 : 0 ≤ (a1 : Int) := dcd
  have q208 : a1 < (l0.length : Int) := dcd
  obtain ⟨ad208, e208, hx208_0, hx208_1, hx208_2, hx208_3, hx208_4⟩ := at_T57 HR0.out a1 p208 q208
  cases e208
  replace p208 := eq_true p208
  replace q208 := eq_true q208
  go_enter Try.func83, Try.ntmps83
  go_upto_if 26 with (first | ((with_reducible refine gate_dst (N := 6) rfl ?_); refine bx_ 6 #[.int .i64 0, .int .i64 0, .int .i64 0, .string (⟨#[]⟩ : ByteArray), .int .i64 0] 57 ?_; intro gb209 hg w6 hbox hb; have BK209 := Aside0.mk (hbox); have GW209 := gwe HB hg; have GE209 := GW209; replace HB := bst HB hb; clear hb hbox hg; obtain ⟨hcz7_0, hcz7_1, hcz7_2, hcz7_3, hcz7_4, hfz7_0, hfz7_1, hfz7_2, hfz7_3, hfz7_4⟩ := cl5 BK209) | ((with_reducible refine gate_dst (N := 23) rfl ?_); refine Kd.R_lit (Kd.int .u8) _ 5 ?hg (N := 23) ?hd (xs := ([] : List Int)) (inner := []) (ok := fun _ => True) (okp := fun _ => True) ?hr ?hp (fun _ hk => hk) trivial (Below.refl _ _) (Nat.le_refl _) (by simp) ?_; (case hd => rfl); (case hg => rfl); (case hr => first | (go_simp; done) | (go_simp; rfl)); (case hp => exact (Reps.none _ _)); intro v211 w8 ho9 hb hg_ hnew_; clear hg_ hnew_; (first | rw [← Ny210.out] at ho9 | (simp only [Int.reduceToNat] at ho9; rw [← Ny210.out] at ho9)); have HO212 := Aside0.mk (Kd.R_lower ho9 (below_size (below_later HB.out))); replace BK209 := Aside0.mk (blk_below (g := gb209) (o := .cells #[.int .i64 ((rd_T57 l0 a1).f0), .int .i64 ((rd_T57 l0 a1).f1), .int .i64 ((rd_T57 l0 a1).f2), .string ((rd_T57 l0 a1).f3), .int .i64 ((rd_T57 l0 a1).f4)] 57 (0, 0)) (blk_later BK209.out) hb); replace HB := bst HB hb; clear hb ho9; obtain ⟨hcz10_0, hcz10_1, hcz10_2, hcz10_3, hcz10_4, hfz10_0, hfz10_1, hfz10_2, hfz10_3, hfz10_4⟩ := cl5 BK209))
  (try simp only [Act.put, List.setIfInBounds_toArray, List.set_cons_zero, List.set_cons_succ])
  go_cut [26] (fun v26 wc => ∃ (kq : Nat) (x26_4 : Bool), v26 = .bool x26_4 ∧ Aside0 (spec_l4Pack.j0 kq l0 (wrap64 (a1 + 1)) y210 ((rd_T57 l0 a1).f0) x26_4 ((rd_T57 l0 a1).f0) ((rd_T57 l0 a1).f1) ((rd_T57 l0 a1).f2) ((rd_T57 l0 a1).f3) ((rd_T57 l0 a1).f4) = some (r1, r2)) ∧ Aside0 (kq ≤ k) ∧ Aside0 (Kd.R (Kd.int .u8) 5 wc w.heap.size (fun _ => True) v211 y210) ∧ Aside0 (wc.heap[gb209]? = some (.cells #[.int .i64 ((rd_T57 l0 a1).f0), .int .i64 ((rd_T57 l0 a1).f1), .int .i64 ((rd_T57 l0 a1).f2), .string ((rd_T57 l0 a1).f3), .int .i64 ((rd_T57 l0 a1).f4)] 57 (0, 0))) ∧ Aside0 (Below w.heap.size w wc))
  case first =>
    have H := HC5.out
    clear HC5
    by_cases c11 : ((rd_T57 l0 a1).f0) = 5
    · rw [if_pos c11] at H
      have c11b0 : (((rd_T57 l0 a1).f0) == 5) = true := beq_iff_eq.mpr c11
      have c11b1 : (((rd_T57 l0 a1).f0) != 5) = false := bne_eq_false_iff_eq.mpr c11
      clear c11
      (first | rw [c11b0] | rw [c11b1] | (simp only [i64_w, i32_w]; rw [c11b0]) | skip)
      have H' := Aside0.mk H
      clear H
      go_wp2
      go_meet
      case rel => exact ⟨_, ((((rd_T57 l0 a1).f0) == 5)), sr, H', ⟨by first | omega | exact Nat.le_refl _⟩, ⟨R_later HO212.out⟩, ⟨blk_later BK209.out⟩, ⟨below_later HB.out⟩⟩
    · rw [if_neg c11] at H
      have c11b0 : (((rd_T57 l0 a1).f0) == 5) = false := beq_eq_false_iff_ne.mpr c11
      have c11b1 : (((rd_T57 l0 a1).f0) != 5) = true := bne_iff_ne.mpr c11
      (first | rw [c11b0] | rw [c11b1] | (simp only [i64_w, i32_w]; rw [c11b0]) | skip)
      have H' := Aside0.mk H
      clear H
      go_wp2
      go_meet
      case rel => exact ⟨_, ((((rd_T57 l0 a1).f0) == 6)), sr, H', ⟨by first | omega | exact Nat.le_refl _⟩, ⟨R_later HO212.out⟩, ⟨blk_later BK209.out⟩, ⟨below_later HB.out⟩⟩
  case rest =>
    clear HC5
    try clear c3b0
    try clear c4b0
    try clear hcz10_0
    try clear hcz10_1
    try clear hcz10_2
    try clear hcz10_3
    try clear hcz10_4
    try clear hcz7_0
    try clear hcz7_1
    try clear hcz7_2
    try clear hcz7_3
    try clear hcz7_4
    try clear hfz10_0
    try clear hfz10_1
    try clear hfz10_2
    try clear hfz10_3
    try clear hfz10_4
    try clear hfz7_0
    try clear hfz7_1
    try clear hfz7_2
    try clear hfz7_3
    try clear hfz7_4
    try clear hx208_0
    try clear hx208_1
    try clear hx208_2
    try clear hx208_3
    try clear hx208_4
    try clear p208
    try clear q208
    obtain ⟨kq, x26_4, rfl, HA, HJ4, HO_8, BK209, HB⟩ := hcut
    cases kq with
    | zero => exact absurd HA.out (by simp [spec_l4Pack.j0])
    | succ kj4 =>
      have H := HA.out
      clear HA
      simp only [spec_l4Pack.j0] at H
      by_cases c12 : x26_4 = true
      · subst c12
        replace H := ifp rfl H
        replace H := bnd H
        obtain ⟨t213, A13, H⟩ := H
        simp only [Option.some.injEq, Prod.mk.injEq] at H
        obtain ⟨rfl, rfl⟩ := H
        obtain ⟨hcz14_0, hcz14_1, hcz14_2, hcz14_3, hcz14_4, hfz14_0, hfz14_1, hfz14_2, hfz14_3, hfz14_4⟩ := cl5 BK209
        go_wp2_with (first | ((with_reducible refine gate_callee (f := 97) rfl ?_); refine gl_ (some 31) Try.func97 #[.int .i64 ((rd_T57 l0 a1).f2)] rfl ?_; (with_reducible refine (spec_ZigPut.calls kj4 ((rd_T57 l0 a1).f2) t213 _ A13.out).mono ?_); rintro e w15 ⟨v214, rfl, ho0, hb⟩; refine ⟨_, rfl, ?_⟩; have HO215 := Aside0.mk (Kd.R_lower (Kd.R_new' ho0 (Kd.R_lt (R_later HO_8.out))) (below_size (below_later HB.out))); replace HO_8 := Aside0.mk (Kd.R_elder' (R_later HO_8.out) (Kd.R_base ho0) hb); replace BK209 := bkb BK209 hb; replace HB := bst HB hb; (try clear hb); (try clear ho0)))
        go_ret2
        exact ⟨_, by first | rfl | (simp [errW_none, errW_some] <;> rfl) | (simp [*, errW_none, errW_some] <;> rfl), by (with_reducible repeat (first | apply Kd.R_alloc | apply Kd.R_drewN | apply Kd.R_drew)); exact Kd.R_mono HO215.out (fun _ hk => trivial), below_later HB.out⟩
      · replace c12 := Bool.eq_false_iff.mpr c12
        subst c12
        replace H := ifn Bool.false_ne_true H
        by_cases c16 : ((rd_T57 l0 a1).f0) = 8
        · rw [if_pos c16] at H
          have c16b0 : (((rd_T57 l0 a1).f0) == 8) = true := beq_iff_eq.mpr c16
          have c16b1 : (((rd_T57 l0 a1).f0) != 8) = false := bne_eq_false_iff_eq.mpr c16
          clear c16
          replace H := bnd H
          obtain ⟨t216, A17, H⟩ := H
          replace H := ifs H
          obtain ⟨c18, H⟩ := H
          have LMc18 := Aside0.mk c18
          clear c18
          obtain ⟨y219, hy219⟩ : ∃ y_ : List Int, y_ = (t216 ++ bytesOf ((rd_T57 l0 a1).f3)) := ⟨_, rfl⟩
          replace H : (some (y219, (wrap64 (a1 + 1)))) = some (r1, r2) := by first | (rw [hy219]; with_reducible exact H) | (rw [hy219]; exact H) | exact H
          have Ny219 := Aside0.mk hy219
          clear hy219
          simp only [Option.some.injEq, Prod.mk.injEq] at H
          obtain ⟨rfl, rfl⟩ := H
          try go_wp2
          have n0_ := Aside0.mk (Kd.R_drew HO_8.out)
          have n1_ := Aside0.mk (blk_drew BK209.out)
          have n2_ := Aside0.mk (below_drew1 HB.out)
          clear HO_8
          clear BK209
          clear HB
          have HO_8 := n0_
          have BK209 := n1_
          have HB := n2_
          clear n0_ n1_ n2_
          refine start_ (n := 11) (S := fun w' => w'.cell? ⟨gb209, 0, none⟩ = some (.int .i64 ((rd_T57 l0 a1).f0)) ∧ w'.cell? ⟨gb209, 1, none⟩ = some (.int .i64 ((rd_T57 l0 a1).f1)) ∧ w'.cell? ⟨gb209, 2, none⟩ = some (.int .i64 ((rd_T57 l0 a1).f2)) ∧ w'.cell? ⟨gb209, 3, none⟩ = some (.string ((rd_T57 l0 a1).f3)) ∧ w'.cell? ⟨gb209, 4, none⟩ = some (.int .i64 ((rd_T57 l0 a1).f4))) (ds := []) #[false, false, false, false, false, false, false, false, false, false, false] (by kernel_rfl) rfl rfl ⟨(blk_cell BK209.out 0).trans rfl, (blk_cell BK209.out 1).trans rfl, (blk_cell BK209.out 2).trans rfl, (blk_cell BK209.out 3).trans rfl, (blk_cell BK209.out 4).trans rfl⟩ (fun hHeld => ?_); refine with_tabW spec_l4Pack.tab9 spec_l4Pack.bits9 (fun HT_ HW_ => ?_)
          generalize wc.drew = w19 at HO_8 BK209 HB hHeld ⊢
          refine pure_ (i := 0) (N := some 35) (v := ?_) (a' := ?_) #[true, false, false, false, false, false, false, false, false, false, false] rfl rfl (any_of HT_.out (by kernel_rfl)) (fun _ _ _ h => h) (Or.inl ⟨by rfl, ?_⟩) ?_ ?_
          rotate_left
          · intro w'
            go_simp
            with_reducible rfl
          rotate_left
          · simp only [Act.put, List.setIfInBounds_toArray, List.set_cons_zero, List.set_cons_succ, i64_w, i32_w]
            rfl
          refine pure_ (i := 4) (N := some 39) (v := ?_) (a' := ?_) #[true, false, false, false, true, false, false, false, false, false, false] rfl rfl (any_of HT_.out (by kernel_rfl)) (fun _ _ _ h => h) (Or.inl ⟨by rfl, ?_⟩) ?_ ?_
          rotate_left
          · intro w'
            go_simp
            with_reducible rfl
          rotate_left
          · simp only [Act.put, List.setIfInBounds_toArray, List.set_cons_zero, List.set_cons_succ, i64_w, i32_w]
            rfl
          refine pure_ (i := 8) (N := some 43) (v := ?_) (a' := ?_) #[true, false, false, false, true, false, false, false, true, false, false] rfl rfl (any_of HT_.out (by kernel_rfl)) (fun _ _ _ h => h) (Or.inl ⟨by rfl, ?_⟩) ?_ ?_
          rotate_left
          · intro w'
            go_simp
            with_reducible rfl
          rotate_left
          · simp only [Act.put, List.setIfInBounds_toArray, List.set_cons_zero, List.set_cons_succ, i64_w, i32_w]
            rfl
          refine take_ (i := 1) (N := some 36) (v := ?_) (a' := ?_) #[true, true, false, false, true, false, false, false, true, false, false] rfl rfl (take_ofW HT_.out HW_.out (by kernel_rfl)) (fun _ _ _ h => h) (Or.inl ⟨by rfl, ?_⟩) hHeld ?_ ?_
          rotate_left
          · rintro w' ⟨s0, s1, s2, s3, s4⟩
            go_simp
            with_reducible rfl
          rotate_left
          · simp only [Act.put, List.setIfInBounds_toArray, List.set_cons_zero, List.set_cons_succ, i64_w, i32_w]
            rfl
          refine pure_ (i := 2) (N := some 37) (v := ?_) (a' := ?_) #[true, true, true, false, true, false, false, false, true, false, false] rfl rfl (any_of HT_.out (by kernel_rfl)) (fun _ _ _ h => h) (Or.inl ⟨by rfl, ?_⟩) ?_ ?_
          rotate_left
          · intro w'
            go_simp
            with_reducible rfl
          rotate_left
          · simp only [Act.put, List.setIfInBounds_toArray, List.set_cons_zero, List.set_cons_succ, i64_w, i32_w]
            rfl
          refine take_ (i := 5) (N := some 40) (v := ?_) (a' := ?_) #[true, true, true, false, true, true, false, false, true, false, false] rfl rfl (take_ofW HT_.out HW_.out (by kernel_rfl)) (fun _ _ _ h => h) (Or.inl ⟨by rfl, ?_⟩) hHeld ?_ ?_
          rotate_left
          · rintro w' ⟨s0, s1, s2, s3, s4⟩
            go_simp
            with_reducible rfl
          rotate_left
          · simp only [Act.put, List.setIfInBounds_toArray, List.set_cons_zero, List.set_cons_succ, i64_w, i32_w]
            rfl
          refine two_ (i := 3) (j := 6) (Ni := some 38) (Nj := some 41) #[true, true, true, true, true, true, false, false, true, false, false] #[true, true, true, false, true, true, true, false, true, false, false] rfl rfl rfl rfl (two_of HT_.out (by kernel_rfl)) (by decide) (by decide) (fun K hK => ?_) (fun K hK => ?_)
          · refine goes_ Try.func98 (by kernel_rfl) rfl #[.int .i64 (((rd_T57 l0 a1).f3).size : Int)] (by rfl) rfl rfl (by (try simp only [List.map_toArray, List.map_cons, List.map_nil]); first | done | rfl | (simp only [List.length_drop, List.length_take]; rfl)) ?_
            with_reducible refine (spec_UvarPut.calls kj4 (((rd_T57 l0 a1).f3).size : Int) t216 _ A17.out).mono ?_
            rintro e w20 ⟨v217, rfl, ho0, hb⟩
            refine ⟨_, rfl, ?_⟩
            have n0_ := Aside0.mk (Kd.R_elder' (R_later HO_8.out) (Kd.R_base ho0) hb)
            have n1_ := Aside0.mk (Kd.R_lower (Kd.R_new' ho0 (Kd.R_lt (R_later HO_8.out))) (below_size (below_later HB.out)))
            have n2_ := bkb BK209 hb
            have n3_ := bst HB hb
            clear HO_8
            clear BK209
            clear HB
            have HO_8 := n0_
            have HO218 := n1_
            have BK209 := n2_
            have HB := n3_
            clear n0_ n1_ n2_ n3_
            (try clear hb)
            (try clear hb2)
            (try clear hk)
            (try clear hi)
            (try clear ho0)
            refine hK.out _ _ ⟨(blk_cell BK209.out 0).trans rfl, (blk_cell BK209.out 1).trans rfl, (blk_cell BK209.out 2).trans rfl, (blk_cell BK209.out 3).trans rfl, (blk_cell BK209.out 4).trans rfl⟩ (fun hHeld => ?_)
            clear hK K
            refine norm_ (a' := ?_) ?_ ?_
            rotate_left
            · show Act.put _ (some 38) _ = _
              simp only [Act.put, List.setIfInBounds_toArray, List.set_cons_zero, List.set_cons_succ, i64_w, i32_w]
              rfl
            refine one_ (i := 6) (N := some 41) #[true, true, true, true, true, true, true, false, true, false, false] rfl rfl (one_of HT_.out (by kernel_rfl)) (by decide) (fun K hK => ?_)
            refine Go.Proofs.YtgiljoeekpfpmaaW.PrintMore2.conv_seen_step (by rfl) 9 41 5 _ rfl Try.underlying9 Try.underlying41 Try.underlying5 ((rd_T57 l0 a1).f3) rfl (by have := LMc18.out; omega) ?_
            intro Acv ccv wcv hrc hcc hb
            have HRcv := Aside0.mk hrc
            clear hrc hcc
            replace HO_8 := Aside0.mk (Kd.R_below (R_later HO_8.out) hb)
            replace HO218 := Aside0.mk (Kd.R_below (R_later HO218.out) hb)
            replace BK209 := bkb BK209 hb
            replace HB := bst HB hb
            clear hb
            refine hK.out _ _ ⟨(blk_cell BK209.out 0).trans rfl, (blk_cell BK209.out 1).trans rfl, (blk_cell BK209.out 2).trans rfl, (blk_cell BK209.out 3).trans rfl, (blk_cell BK209.out 4).trans rfl⟩ (fun hHeld => ?_)
            clear hK K
            refine norm_ (a' := ?_) ?_ ?_
            rotate_left
            · show Act.put _ (some 41) _ = _
              simp only [Act.put, List.setIfInBounds_toArray, List.set_cons_zero, List.set_cons_succ, i64_w, i32_w]
              rfl
            refine one_ (i := 7) (N := some 42) #[true, true, true, true, true, true, true, true, true, false, false] rfl rfl (one_of HT_.out (by kernel_rfl)) (by decide) (fun K hK => ?_)
            refine Kd.R_append_rows_step (Kd.int .u8) (w0 := w) w.heap.size (by rfl) (.tmp 38) (.tmp 41) 41 5 (.int .u8 0) 1 rfl Try.underlying41 info5 rfl (by decide) (by omega) v217 t216 (bytesOf ((rd_T57 l0 a1).f3)) _ _ _ (fun k_ => some k_ ≠ (v211 : Value).ownBlock) (fun _ => False) rfl rfl ?aO ?aR (fun _ _ h => h) (fun _ h => h.elim) ?aF ?aB ?aS ?aL ?_
            (case aR => exact HRcv.out)
            (case aB => exact (below_later HB.out))
            (case aF => exact (fun k_ hk => Kd.fresh' (Kd.R_lt (R_later HO_8.out)) k_ hk))
            (case aO => exact (by (with_reducible repeat (first | apply Kd.R_alloc | apply Kd.R_drewN | apply Kd.R_drew)); exact Kd.R_mono HO218.out (fun _ hk => hk.2)))
            (case aS => exact (below_size (below_later HB.out)))
            (case aL => have := LMc18.out; omega)
            intro v220 w21 ho hb hg hat
            rw [← Ny219.out] at ho
            have n0_ := Aside0.mk (Kd.R_after (ok := (fun _ => True)) (R_later HO_8.out) hg hat)
            have n1_ := Aside0.mk (blk_grown (blk_later BK209.out) hg (Kd.R_ne HO218.out BK209.out (by decide)))
            have n2_ := Aside0.mk (hb)
            have n3_ := Aside0.mk (ho)
            clear HO_8
            clear BK209
            clear HB
            clear HO218
            have HO_8 := n0_
            have BK209 := n1_
            have HB := n2_
            have HO221 := n3_
            clear n0_ n1_ n2_ n3_
            clear ho hb hg hat
            refine hK.out _ _ ⟨(blk_cell BK209.out 0).trans rfl, (blk_cell BK209.out 1).trans rfl, (blk_cell BK209.out 2).trans rfl, (blk_cell BK209.out 3).trans rfl, (blk_cell BK209.out 4).trans rfl⟩ (fun hHeld => ?_)
            clear hK K
            refine norm_ (a' := ?_) ?_ ?_
            rotate_left
            · show Act.put _ (some 42) _ = _
              simp only [Act.put, List.setIfInBounds_toArray, List.set_cons_zero, List.set_cons_succ, i64_w, i32_w]
              rfl
            refine pure_ (i := 9) (N := some 4) (v := ?_) (a' := ?_) #[true, true, true, true, true, true, true, true, true, true, false] rfl rfl (any_of HT_.out (by kernel_rfl)) (fun _ _ _ h => h) (Or.inl ⟨by rfl, ?_⟩) ?_ ?_
            rotate_left
            · intro w'
              go_simp
              with_reducible rfl
            rotate_left
            · simp only [Act.put, List.setIfInBounds_toArray, List.set_cons_zero, List.set_cons_succ, i64_w, i32_w]
              rfl
            refine pure_ (i := 10) (N := some 5) (v := ?_) (a' := ?_) #[true, true, true, true, true, true, true, true, true, true, true] rfl rfl (any_of HT_.out (by kernel_rfl)) (fun _ _ _ h => h) (Or.inl ⟨by rfl, ?_⟩) ?_ ?_
            rotate_left
            · intro w'
              go_simp
              with_reducible rfl
            rotate_left
            · simp only [Act.put, List.setIfInBounds_toArray, List.set_cons_zero, List.set_cons_succ, i64_w, i32_w]
              rfl
            refine done_ (done_of HT_.out (by kernel_rfl)) ?_
            try go_wp2
            go_ret2
            exact ⟨_, by first | rfl | (simp [errW_none, errW_some] <;> rfl) | (simp [*, errW_none, errW_some] <;> rfl), by (with_reducible repeat (first | apply Kd.R_alloc | apply Kd.R_drewN | apply Kd.R_drew)); exact Kd.R_mono HO221.out (fun _ hk => trivial), below_later HB.out⟩
          · refine Go.Proofs.YtgiljoeekpfpmaaW.PrintMore2.conv_seen_step (by rfl) 9 41 5 _ rfl Try.underlying9 Try.underlying41 Try.underlying5 ((rd_T57 l0 a1).f3) rfl (by have := LMc18.out; omega) ?_
            intro Acv ccv wcv hrc hcc hb
            have HRcv := Aside0.mk hrc
            clear hrc hcc
            replace HO_8 := Aside0.mk (Kd.R_below (R_later HO_8.out) hb)
            replace BK209 := bkb BK209 hb
            replace HB := bst HB hb
            clear hb
            refine hK.out _ _ ⟨(blk_cell BK209.out 0).trans rfl, (blk_cell BK209.out 1).trans rfl, (blk_cell BK209.out 2).trans rfl, (blk_cell BK209.out 3).trans rfl, (blk_cell BK209.out 4).trans rfl⟩ (fun hHeld => ?_)
            clear hK K
            refine norm_ (a' := ?_) ?_ ?_
            rotate_left
            · show Act.put _ (some 41) _ = _
              simp only [Act.put, List.setIfInBounds_toArray, List.set_cons_zero, List.set_cons_succ, i64_w, i32_w]
              rfl
            refine one_ (i := 3) (N := some 38) #[true, true, true, true, true, true, true, false, true, false, false] rfl rfl (one_of HT_.out (by kernel_rfl)) (by decide) (fun K hK => ?_)
            refine goes_ Try.func98 (by kernel_rfl) rfl #[.int .i64 (((rd_T57 l0 a1).f3).size : Int)] (by rfl) rfl rfl (by (try simp only [List.map_toArray, List.map_cons, List.map_nil]); first | done | rfl | (simp only [List.length_drop, List.length_take]; rfl)) ?_
            with_reducible refine (spec_UvarPut.calls kj4 (((rd_T57 l0 a1).f3).size : Int) t216 _ A17.out).mono ?_
            rintro e w20 ⟨v217, rfl, ho0, hb⟩
            refine ⟨_, rfl, ?_⟩
            replace HRcv := Aside0.mk (Kd.C_below HRcv.out hb)
            have n0_ := Aside0.mk (Kd.R_elder' (R_later HO_8.out) (Kd.R_base ho0) hb)
            have n1_ := Aside0.mk (Kd.R_lower (Kd.R_new' ho0 (Kd.R_lt (R_later HO_8.out))) (below_size (below_later HB.out)))
            have n2_ := bkb BK209 hb
            have n3_ := bst HB hb
            clear HO_8
            clear BK209
            clear HB
            have HO_8 := n0_
            have HO218 := n1_
            have BK209 := n2_
            have HB := n3_
            clear n0_ n1_ n2_ n3_
            (try clear hb)
            (try clear hb2)
            (try clear hk)
            (try clear hi)
            (try clear ho0)
            refine hK.out _ _ ⟨(blk_cell BK209.out 0).trans rfl, (blk_cell BK209.out 1).trans rfl, (blk_cell BK209.out 2).trans rfl, (blk_cell BK209.out 3).trans rfl, (blk_cell BK209.out 4).trans rfl⟩ (fun hHeld => ?_)
            clear hK K
            refine norm_ (a' := ?_) ?_ ?_
            rotate_left
            · show Act.put _ (some 38) _ = _
              simp only [Act.put, List.setIfInBounds_toArray, List.set_cons_zero, List.set_cons_succ, i64_w, i32_w]
              rfl
            refine one_ (i := 7) (N := some 42) #[true, true, true, true, true, true, true, true, true, false, false] rfl rfl (one_of HT_.out (by kernel_rfl)) (by decide) (fun K hK => ?_)
            refine Kd.R_append_rows_step (Kd.int .u8) (w0 := w) w.heap.size (by rfl) (.tmp 38) (.tmp 41) 41 5 (.int .u8 0) 1 rfl Try.underlying41 info5 rfl (by decide) (by omega) v217 t216 (bytesOf ((rd_T57 l0 a1).f3)) _ _ _ (fun k_ => some k_ ≠ (v211 : Value).ownBlock) (fun _ => False) rfl rfl ?aO ?aR (fun _ _ h => h) (fun _ h => h.elim) ?aF ?aB ?aS ?aL ?_
            (case aR => exact HRcv.out)
            (case aB => exact (below_later HB.out))
            (case aF => exact (fun k_ hk => Kd.fresh' (Kd.R_lt (R_later HO_8.out)) k_ hk))
            (case aO => exact (by (with_reducible repeat (first | apply Kd.R_alloc | apply Kd.R_drewN | apply Kd.R_drew)); exact Kd.R_mono HO218.out (fun _ hk => hk.2)))
            (case aS => exact (below_size (below_later HB.out)))
            (case aL => have := LMc18.out; omega)
            intro v220 w21 ho hb hg hat
            rw [← Ny219.out] at ho
            have n0_ := Aside0.mk (Kd.R_after (ok := (fun _ => True)) (R_later HO_8.out) hg hat)
            have n1_ := Aside0.mk (blk_grown (blk_later BK209.out) hg (Kd.R_ne HO218.out BK209.out (by decide)))
            have n2_ := Aside0.mk (hb)
            have n3_ := Aside0.mk (ho)
            clear HO_8
            clear BK209
            clear HB
            clear HO218
            have HO_8 := n0_
            have BK209 := n1_
            have HB := n2_
            have HO221 := n3_
            clear n0_ n1_ n2_ n3_
            clear ho hb hg hat
            refine hK.out _ _ ⟨(blk_cell BK209.out 0).trans rfl, (blk_cell BK209.out 1).trans rfl, (blk_cell BK209.out 2).trans rfl, (blk_cell BK209.out 3).trans rfl, (blk_cell BK209.out 4).trans rfl⟩ (fun hHeld => ?_)
            clear hK K
            refine norm_ (a' := ?_) ?_ ?_
            rotate_left
            · show Act.put _ (some 42) _ = _
              simp only [Act.put, List.setIfInBounds_toArray, List.set_cons_zero, List.set_cons_succ, i64_w, i32_w]
              rfl
            refine pure_ (i := 9) (N := some 4) (v := ?_) (a' := ?_) #[true, true, true, true, true, true, true, true, true, true, false] rfl rfl (any_of HT_.out (by kernel_rfl)) (fun _ _ _ h => h) (Or.inl ⟨by rfl, ?_⟩) ?_ ?_
            rotate_left
            · intro w'
              go_simp
              with_reducible rfl
            rotate_left
            · simp only [Act.put, List.setIfInBounds_toArray, List.set_cons_zero, List.set_cons_succ, i64_w, i32_w]
              rfl
            refine pure_ (i := 10) (N := some 5) (v := ?_) (a' := ?_) #[true, true, true, true, true, true, true, true, true, true, true] rfl rfl (any_of HT_.out (by kernel_rfl)) (fun _ _ _ h => h) (Or.inl ⟨by rfl, ?_⟩) ?_ ?_
            rotate_left
            · intro w'
              go_simp
              with_reducible rfl
            rotate_left
            · simp only [Act.put, List.setIfInBounds_toArray, List.set_cons_zero, List.set_cons_succ, i64_w, i32_w]
              rfl
            refine done_ (done_of HT_.out (by kernel_rfl)) ?_
            try go_wp2
            go_ret2
            exact ⟨_, by first | rfl | (simp [errW_none, errW_some] <;> rfl) | (simp [*, errW_none, errW_some] <;> rfl), by (with_reducible repeat (first | apply Kd.R_alloc | apply Kd.R_drewN | apply Kd.R_drew)); exact Kd.R_mono HO221.out (fun _ hk => trivial), below_later HB.out⟩
        · rw [if_neg c16] at H
          have c16b0 : (((rd_T57 l0 a1).f0) == 8) = false := beq_eq_false_iff_ne.mpr c16
          have c16b1 : (((rd_T57 l0 a1).f0) != 8) = true := bne_iff_ne.mpr c16
          by_cases c22 : ((rd_T57 l0 a1).f0) = 9
          · rw [if_pos c22] at H
            have c22b0 : (((rd_T57 l0 a1).f0) == 9) = true := beq_iff_eq.mpr c22
            have c22b1 : (((rd_T57 l0 a1).f0) != 9) = false := bne_eq_false_iff_eq.mpr c22
            clear c22
            have HC23 := Aside0.mk H
            clear H
            obtain ⟨hcz24_0, hcz24_1, hcz24_2, hcz24_3, hcz24_4, hfz24_0, hfz24_1, hfz24_2, hfz24_3, hfz24_4⟩ := cl5 BK209
            go_upto_if 48 with (fail)
            go_cut [8] (fun v8 wc => ∃ (kq : Nat) (x8_22 : List Int), Aside0 (spec_l4Pack.j1 kq l0 (wrap64 (a1 + 1)) x8_22 ((rd_T57 l0 a1).f0) ((rd_T57 l0 a1).f1) ((rd_T57 l0 a1).f2) ((rd_T57 l0 a1).f3) ((rd_T57 l0 a1).f4) = some (r1, r2)) ∧ Aside0 (kq ≤ kj4) ∧ Aside0 (Kd.R (Kd.int .u8) 5 wc w.heap.size (fun _ => True) v8 x8_22) ∧ Aside0 (wc.heap[gb209]? = some (.cells #[.int .i64 ((rd_T57 l0 a1).f0), .int .i64 ((rd_T57 l0 a1).f1), .int .i64 ((rd_T57 l0 a1).f2), .string ((rd_T57 l0 a1).f3), .int .i64 ((rd_T57 l0 a1).f4)] 57 (0, 0))) ∧ Aside0 (Below w.heap.size w wc))
            case first =>
              have H := HC23.out
              clear HC23
              by_cases c25 : ((rd_T57 l0 a1).f4) ≤ 14
              · rw [if_pos c25] at H
                have c25b0 := decide_eq_true c25
                clear c25
                (first | rw [c25b0] | (simp only [i64_w, i32_w]; rw [c25b0]) | skip)
                replace H := ifs H
                obtain ⟨c26, H⟩ := H
                have LMc26 := Aside0.mk c26
                clear c26
                obtain ⟨y222, hy222⟩ : ∃ y_ : List Int, y_ = (y210 ++ [(wrap64 ((wrap64 (16 * ((rd_T57 l0 a1).f4))) + ((rd_T57 l0 a1).f2))) % 256]) := ⟨_, rfl⟩
                replace H : (spec_l4Pack.j1 kj4 l0 (wrap64 (a1 + 1)) y222 ((rd_T57 l0 a1).f0) ((rd_T57 l0 a1).f1) ((rd_T57 l0 a1).f2) ((rd_T57 l0 a1).f3) ((rd_T57 l0 a1).f4)) = some (r1, r2) := by first | (rw [hy222]; with_reducible exact H) | (rw [hy222]; exact H) | exact H
                have Ny222 := Aside0.mk hy222
                clear hy222
                have H' := Aside0.mk H
                clear H
                obtain ⟨hcz27_0, hcz27_1, hcz27_2, hcz27_3, hcz27_4, hfz27_0, hfz27_1, hfz27_2, hfz27_3, hfz27_4⟩ := cl5 BK209
                go_wp2_with (first | ((with_reducible refine gate_builtin (b := .append) (xs := #[.tmp 49, .tmp 57]) rfl ?_); at_builtin; refine Kd.R_append (Kd.int .u8) (w0 := w) w.heap.size rfl (.tmp 49) (.tmp 57) 41 5 (.int .u8 0) 1 rfl Try.underlying41 info5 rfl (by decide) (by omega) v211 y210 ((wrap64 ((wrap64 (16 * ((rd_T57 l0 a1).f4))) + ((rd_T57 l0 a1).f2))) % 256) [.int .u8 ((wrap64 ((wrap64 (16 * ((rd_T57 l0 a1).f4))) + ((rd_T57 l0 a1).f2))) % 256)] (fun _ => True) (fun _ => False) rfl rfl ?aP (fun _ hk => hk.elim) ?aF ?aO ?aB ?aS ?aL ?_; (case aP => exact rfl); (case aB => exact (below_later HB.out)); (case aF => exact (fun _ _ => trivial)); (case aO => exact (R_later HO_8.out)); (case aS => exact (below_size (below_later HB.out))); (case aL => have := LMc26.out; omega); intro v223 w28 ho hb hg hat; rw [← Ny222.out] at ho; have n0_ := Aside0.mk (blk_grown (blk_later BK209.out) hg (Kd.R_ne HO_8.out BK209.out (by decide))); have n1_ := Aside0.mk (hb); have n2_ := Aside0.mk (ho); clear BK209; clear HB; clear HO_8; have BK209 := n0_; have HB := n1_; have HO224 := n2_; clear n0_ n1_ n2_; clear ho hb hg hat))
                go_meet
                case rel => exact ⟨_, (y222), H', ⟨by have := HJ4.out; first | omega | exact Nat.le_refl _⟩, ⟨R_later HO224.out⟩, ⟨blk_later BK209.out⟩, ⟨below_later HB.out⟩⟩
              · rw [if_neg c25] at H
                have c25b0 := decide_eq_false c25
                clear c25
                (first | rw [c25b0] | (simp only [i64_w, i32_w]; rw [c25b0]) | skip)
                replace H := ifs H
                obtain ⟨c29, H⟩ := H
                have LMc29 := Aside0.mk c29
                clear c29
                replace H := bsm H
                obtain ⟨y225, Ny225, H⟩ := H
                replace H := bnd H
                obtain ⟨t228, A30, H⟩ := H
                replace H := ifs H
                obtain ⟨c31, H⟩ := H
                have LMc31 := Aside0.mk c31
                clear c31
                obtain ⟨y231, hy231⟩ : ∃ y_ : List Int, y_ = (y225 ++ t228) := ⟨_, rfl⟩
                replace H : (spec_l4Pack.j1 kj4 l0 (wrap64 (a1 + 1)) y231 ((rd_T57 l0 a1).f0) ((rd_T57 l0 a1).f1) ((rd_T57 l0 a1).f2) ((rd_T57 l0 a1).f3) ((rd_T57 l0 a1).f4)) = some (r1, r2) := by first | (rw [hy231]; with_reducible exact H) | (rw [hy231]; exact H) | exact H
                have Ny231 := Aside0.mk hy231
                clear hy231
                have H' := Aside0.mk H
                clear H
                obtain ⟨hcz32_0, hcz32_1, hcz32_2, hcz32_3, hcz32_4, hfz32_0, hfz32_1, hfz32_2, hfz32_3, hfz32_4⟩ := cl5 BK209
                go_wp2_with (first | ((with_reducible refine gate_builtin (b := .append) (xs := #[.tmp 59, .tmp 64]) rfl ?_); at_builtin; refine Kd.R_append (Kd.int .u8) (w0 := w) w.heap.size rfl (.tmp 59) (.tmp 64) 41 5 (.int .u8 0) 1 rfl Try.underlying41 info5 rfl (by decide) (by omega) v211 y210 ((wrap64 (240 + ((rd_T57 l0 a1).f2))) % 256) [.int .u8 ((wrap64 (240 + ((rd_T57 l0 a1).f2))) % 256)] (fun _ => True) (fun _ => False) rfl rfl ?aP (fun _ hk => hk.elim) ?aF ?aO ?aB ?aS ?aL ?_; (case aP => exact rfl); (case aB => exact (below_later HB.out)); (case aF => exact (fun _ _ => trivial)); (case aO => exact (R_later HO_8.out)); (case aS => exact (below_size (below_later HB.out))); (case aL => have := LMc29.out; omega); intro v226 w33 ho hb hg hat; rw [← Ny225.out] at ho; have n0_ := Aside0.mk (blk_grown (blk_later BK209.out) hg (Kd.R_ne HO_8.out BK209.out (by decide))); have n1_ := Aside0.mk (hb); have n2_ := Aside0.mk (ho); clear BK209; clear HB; clear HO_8; have BK209 := n0_; have HB := n1_; have HO227 := n2_; clear n0_ n1_ n2_; clear ho hb hg hat; obtain ⟨hcz34_0, hcz34_1, hcz34_2, hcz34_3, hcz34_4, hfz34_0, hfz34_1, hfz34_2, hfz34_3, hfz34_4⟩ := cl5 BK209) | ((with_reducible refine gate_callee (f := 98) rfl ?_); refine gl_ (some 69) Try.func98 #[.int .i64 ((rd_T57 l0 a1).f4)] rfl ?_; (with_reducible refine (spec_UvarPut.calls kj4 ((rd_T57 l0 a1).f4) t228 _ A30.out).mono ?_); rintro e w35 ⟨v229, rfl, ho0, hb⟩; refine ⟨_, rfl, ?_⟩; have HO230 := Aside0.mk (Kd.R_lower (Kd.R_new' ho0 (Kd.R_lt (R_later HO227.out))) (below_size (below_later HB.out))); replace HO227 := Aside0.mk (Kd.R_elder' (R_later HO227.out) (Kd.R_base ho0) hb); replace BK209 := bkb BK209 hb; replace HB := bst HB hb; (try clear hb); (try clear hk); (try clear ho0); obtain ⟨Ao37, co37, eo37⟩ := Kd.R_slice HO230.out; subst eo37) | ((with_reducible refine gate_builtin (b := .append) (xs := #[.tmp 66, .tmp 69]) rfl ?_); at_builtin; refine Kd.R_append_rows (Kd.int .u8) (w0 := w) w.heap.size rfl (.tmp 66) (.tmp 69) 41 5 (.int .u8 0) 1 rfl Try.underlying41 info5 rfl (by decide) (by omega) v226 y225 t228 _ _ _ (fun k_ => some k_ ≠ (.slice Ao37 t228.length co37 : Value).ownBlock) (fun _ => False) rfl rfl ?aO ?aR (fun _ _ h => h) (fun _ h => h.elim) ?aF ?aB ?aS ?aL ?_; (case aR => repeat (first | exact (Kd.R_reads' HO230.out).2.2 | (with_reducible refine Kd.C_alloc ?_ _) | (with_reducible refine Kd.C_drewN ?_ _) | (with_reducible refine Kd.C_drew ?_))); (case aB => exact (below_later HB.out)); (case aF => exact (fun k_ hk => Kd.fresh' (Kd.R_lt (R_later HO230.out)) k_ hk)); (case aO => exact (by (with_reducible repeat (first | apply Kd.R_alloc | apply Kd.R_drewN | apply Kd.R_drew)); exact Kd.R_mono HO227.out (fun _ hk => hk.2))); (case aS => exact (below_size (below_later HB.out))); (case aL => have := LMc31.out; omega); intro v232 w36 ho hb hg hat; rw [← Ny231.out] at ho; have n0_ := Aside0.mk (blk_grown (blk_later BK209.out) hg (Kd.R_ne HO227.out BK209.out (by decide))); have n1_ := Aside0.mk (Kd.R_after (ok := (fun _ => True)) (R_later HO230.out) hg hat); have n2_ := Aside0.mk (hb); have n3_ := Aside0.mk (ho); clear BK209; clear HO230; clear HB; clear HO227; have BK209 := n0_; have HO230 := n1_; have HB := n2_; have HO233 := n3_; clear n0_ n1_ n2_ n3_; clear ho hb hg hat))
                go_meet
                case rel => exact ⟨_, (y231), H', ⟨by have := HJ4.out; first | omega | exact Nat.le_refl _⟩, ⟨R_later (Kd.R_mono HO233.out (fun _ hk => trivial))⟩, ⟨blk_later BK209.out⟩, ⟨below_later HB.out⟩⟩
            case rest =>
              clear HC23
              try clear c3b0
              try clear c4b0
              try clear c12
              try clear c16
              try clear c16b0
              try clear c16b1
              try clear c22
              try clear c22b0
              try clear c22b1
              try clear hcz10_0
              try clear hcz10_1
              try clear hcz10_2
              try clear hcz10_3
              try clear hcz10_4
              try clear hcz24_0
              try clear hcz24_1
              try clear hcz24_2
              try clear hcz24_3
              try clear hcz24_4
              try clear hcz7_0
              try clear hcz7_1
              try clear hcz7_2
              try clear hcz7_3
              try clear hcz7_4
              try clear hfz10_0
              try clear hfz10_1
              try clear hfz10_2
              try clear hfz10_3
              try clear hfz10_4
              try clear hfz24_0
              try clear hfz24_1
              try clear hfz24_2
              try clear hfz24_3
              try clear hfz24_4
              try clear hfz7_0
              try clear hfz7_1
              try clear hfz7_2
              try clear hfz7_3
              try clear hfz7_4
              try clear hx208_0
              try clear hx208_1
              try clear hx208_2
              try clear hx208_3
              try clear hx208_4
              try clear p208
              try clear q208
              obtain ⟨kq, x8_22, HA, HJ22, HO_8, BK209, HB⟩ := hcut
              cases kq with
              | zero => exact absurd HA.out (by simp [spec_l4Pack.j1])
              | succ kj22 =>
                have H := HA.out
                clear HA
                simp only [spec_l4Pack.j1] at H
                have H' := Aside0.mk H
                clear H
                go_wp2
                go_loopg [7, 8, 9] kj22 (fun kq v7 v8 v9 w' => ∃ (x7_3 : Int) (x8_3 : List Int) (x9_3 : Int), v7 = .int .i64 x7_3 ∧ v9 = .int .i64 x9_3 ∧ Aside0 (spec_l4Pack.l0 kq l0 x7_3 x8_3 x9_3 ((rd_T57 l0 a1).f0) ((rd_T57 l0 a1).f1) ((rd_T57 l0 a1).f2) ((rd_T57 l0 a1).f3) ((rd_T57 l0 a1).f4) = some (r1, r2)) ∧ Aside0 (kq ≤ kj22) ∧ Aside0 (Kd.R (Kd.int .u8) 5 w' w.heap.size (fun _ => True) v8 x8_3) ∧ Aside0 (w'.heap[gb209]? = some (.cells #[.int .i64 ((rd_T57 l0 a1).f0), .int .i64 ((rd_T57 l0 a1).f1), .int .i64 ((rd_T57 l0 a1).f2), .string ((rd_T57 l0 a1).f3), .int .i64 ((rd_T57 l0 a1).f4)] 57 (0, 0))) ∧ Aside0 (Below w.heap.size w w'))
                case atStart => exact ⟨((wrap64 (a1 + 1))), (x8_22), (0), sr, sr, H', ⟨Nat.le_refl _⟩, ⟨R_later HO_8.out⟩, ⟨blk_later BK209.out⟩, ⟨below_later HB.out⟩⟩
                case round =>
                  clear H'
                  try clear c3b0
                  try clear c4b0
                  try clear c12
                  try clear c16
                  try clear c16b0
                  try clear c16b1
                  try clear c22
                  try clear c22b0
                  try clear c22b1
                  try clear hcz10_0
                  try clear hcz10_1
                  try clear hcz10_2
                  try clear hcz10_3
                  try clear hcz10_4
                  try clear hcz24_0
                  try clear hcz24_1
                  try clear hcz24_2
                  try clear hcz24_3
                  try clear hcz24_4
                  try clear hcz7_0
                  try clear hcz7_1
                  try clear hcz7_2
                  try clear hcz7_3
                  try clear hcz7_4
                  try clear hfz10_0
                  try clear hfz10_1
                  try clear hfz10_2
                  try clear hfz10_3
                  try clear hfz10_4
                  try clear hfz24_0
                  try clear hfz24_1
                  try clear hfz24_2
                  try clear hfz24_3
                  try clear hfz24_4
                  try clear hfz7_0
                  try clear hfz7_1
                  try clear hfz7_2
                  try clear hfz7_3
                  try clear hfz7_4
                  try clear hx208_0
                  try clear hx208_1
                  try clear hx208_2
                  try clear hx208_3
                  try clear hx208_4
                  try clear p208
                  try clear q208
                  obtain ⟨x7_3, x8_3, x9_3, rfl, rfl, HA, HK3, HO_8, BK209, HB⟩ := hrel
                  cases gk with
                  | zero => exact absurd HA.out (by simp [spec_l4Pack.l0])
                  | succ k3 =>
                    have H := HA.out
                    clear HA
                    simp only [spec_l4Pack.l0] at H
                    by_cases c38 : x9_3 < ((rd_T57 l0 a1).f4)
                    · rw [if_pos c38] at H
                      have c38b0 := decide_eq_true c38
                      clear c38
                      replace H := Option.bind_eq_some_iff.mp H
                      obtain ⟨⟨t234, t235⟩, A390, H⟩ := H
                      replace H : (if x8_3.length + t234.length < 140737488355328 then (spec_l4Pack.l0 k3 l0 t235 (x8_3 ++ t234) (wrap64 (x9_3 + 1)) ((rd_T57 l0 a1).f0) ((rd_T57 l0 a1).f1) ((rd_T57 l0 a1).f2) ((rd_T57 l0 a1).f3) ((rd_T57 l0 a1).f4)) else (none)) = some (r1, r2) := H
                      have A39 := Aside0.mk A390
                      clear A390
                      replace H := ifs H
                      obtain ⟨c40, H⟩ := H
                      have LMc40 := Aside0.mk c40
                      clear c40
                      obtain ⟨y238, hy238⟩ : ∃ y_ : List Int, y_ = (x8_3 ++ t234) := ⟨_, rfl⟩
                      replace H : (spec_l4Pack.l0 k3 l0 t235 y238 (wrap64 (x9_3 + 1)) ((rd_T57 l0 a1).f0) ((rd_T57 l0 a1).f1) ((rd_T57 l0 a1).f2) ((rd_T57 l0 a1).f3) ((rd_T57 l0 a1).f4)) = some (r1, r2) := by first | (rw [hy238]; with_reducible exact H) | (rw [hy238]; exact H) | exact H
                      have Ny238 := Aside0.mk hy238
                      clear hy238
                      have H' := Aside0.mk H
                      clear H
                      obtain ⟨hcz41_0, hcz41_1, hcz41_2, hcz41_3, hcz41_4, hfz41_0, hfz41_1, hfz41_2, hfz41_3, hfz41_4⟩ := cl5 BK209
                      go_wp2_with (first | ((with_reducible refine gate_callee (f := 83) rfl ?_); refine gl_ (some 80) Try.func83 #[.slice (some ad208) l0.length c0, .int .i64 x7_3] rfl ?_; (with_reducible refine (ih k3 (by have := HJ4.out; have := HJ22.out; have := HK3.out; omega) _ _ l0 x7_3 t234 t235 _ ?side1 ?side2 A39.out).mono ?_); (case side1 => repeat (first | exact (Kd.C_below HR0.out HB.out) | (with_reducible refine Kd.C_alloc ?_ _) | (with_reducible refine Kd.C_drewN ?_ _) | (with_reducible refine Kd.C_drew ?_))); (case side2 => exact HC0.out); rintro e w42 ⟨v236, rfl, ho0, hb⟩; refine ⟨_, rfl, ?_⟩; have HO237 := Aside0.mk (Kd.R_lower (Kd.R_new' ho0 (Kd.R_lt (R_later HO_8.out))) (below_size (below_later HB.out))); replace HO_8 := Aside0.mk (Kd.R_elder' (R_later HO_8.out) (Kd.R_base ho0) hb); replace BK209 := bkb BK209 hb; replace HB := bst HB hb; (try clear hb); (try clear hk); (try clear ho0); obtain ⟨Ao44, co44, eo44⟩ := Kd.R_slice HO237.out; subst eo44) | ((with_reducible refine gate_builtin (b := .append) (xs := #[.tmp 83, .tmp 84]) rfl ?_); at_builtin; refine Kd.R_append_rows (Kd.int .u8) (w0 := w) w.heap.size rfl (.tmp 83) (.tmp 84) 41 5 (.int .u8 0) 1 rfl Try.underlying41 info5 rfl (by decide) (by omega) u8 x8_3 t234 _ _ _ (fun k_ => some k_ ≠ (.slice Ao44 t234.length co44 : Value).ownBlock) (fun _ => False) rfl rfl ?aO ?aR (fun _ _ h => h) (fun _ h => h.elim) ?aF ?aB ?aS ?aL ?_; (case aR => repeat (first | exact (Kd.R_reads' HO237.out).2.2 | (with_reducible refine Kd.C_alloc ?_ _) | (with_reducible refine Kd.C_drewN ?_ _) | (with_reducible refine Kd.C_drew ?_))); (case aB => exact (below_later HB.out)); (case aF => exact (fun k_ hk => Kd.fresh' (Kd.R_lt (R_later HO237.out)) k_ hk)); (case aO => exact (by (with_reducible repeat (first | apply Kd.R_alloc | apply Kd.R_drewN | apply Kd.R_drew)); exact Kd.R_mono HO_8.out (fun _ hk => hk.2))); (case aS => exact (below_size (below_later HB.out))); (case aL => have := LMc40.out; omega); intro v239 w43 ho hb hg hat; rw [← Ny238.out] at ho; have n0_ := Aside0.mk (blk_grown (blk_later BK209.out) hg (Kd.R_ne HO_8.out BK209.out (by decide))); have n1_ := Aside0.mk (Kd.R_after (ok := (fun _ => True)) (R_later HO237.out) hg hat); have n2_ := Aside0.mk (hb); have n3_ := Aside0.mk (ho); clear BK209; clear HO237; clear HB; clear HO_8; have BK209 := n0_; have HO237 := n1_; have HB := n2_; have HO240 := n3_; clear n0_ n1_ n2_ n3_; clear ho hb hg hat))
                      go_roundg k3
                      case measure => have := HJ4.out; have := HJ22.out; have := HK3.out; omega
                      case rel => exact ⟨(t235), (y238), (wrap64 (x9_3 + 1)), sr, sr, H', ⟨by have := HJ4.out; have := HJ22.out; have := HK3.out; omega⟩, ⟨R_later (Kd.R_mono HO240.out (fun _ hk => trivial))⟩, ⟨blk_later BK209.out⟩, ⟨below_later HB.out⟩⟩
                    · rw [if_neg c38] at H
                      have c38b0 := decide_eq_false c38
                      clear c38
                      simp only [Option.some.injEq, Prod.mk.injEq] at H
                      obtain ⟨rfl, rfl⟩ := H
                      obtain ⟨hcz45_0, hcz45_1, hcz45_2, hcz45_3, hcz45_4, hfz45_0, hfz45_1, hfz45_2, hfz45_3, hfz45_4⟩ := cl5 BK209
                      go_wp2
                      go_ret2
                      exact ⟨_, by first | rfl | (simp [errW_none, errW_some] <;> rfl) | (simp [*, errW_none, errW_some] <;> rfl), by (with_reducible repeat (first | apply Kd.R_alloc | apply Kd.R_drewN | apply Kd.R_drew)); exact HO_8.out, below_later HB.out⟩
          · rw [if_neg c22] at H
            have c22b0 : (((rd_T57 l0 a1).f0) == 9) = false := beq_eq_false_iff_ne.mpr c22
            have c22b1 : (((rd_T57 l0 a1).f0) != 9) = true := bne_iff_ne.mpr c22
            by_cases c46 : ((rd_T57 l0 a1).f0) = 12
            · rw [if_pos c46] at H
              have c46b0 : (((rd_T57 l0 a1).f0) == 12) = true := beq_iff_eq.mpr c46
              have c46b1 : (((rd_T57 l0 a1).f0) != 12) = false := bne_eq_false_iff_eq.mpr c46
              clear c46
              have H' := Aside0.mk H
              clear H
              go_wp2
              go_loopg [7, 8, 12, 13] kj4 (fun kq v7 v8 v12 v13 w' => ∃ (x7_2 : Int) (x8_2 : List Int) (x12_2 : Int) (x13_2 : Int), v7 = .int .i64 x7_2 ∧ v12 = .int .i64 x12_2 ∧ v13 = .int .i64 x13_2 ∧ Aside0 (spec_l4Pack.l1 kq l0 x7_2 x8_2 x12_2 x13_2 ((rd_T57 l0 a1).f0) ((rd_T57 l0 a1).f1) ((rd_T57 l0 a1).f2) ((rd_T57 l0 a1).f3) ((rd_T57 l0 a1).f4) = some (r1, r2)) ∧ Aside0 (kq ≤ kj4) ∧ Aside0 (Kd.R (Kd.int .u8) 5 w' w.heap.size (fun _ => True) v8 x8_2) ∧ Aside0 (w'.heap[gb209]? = some (.cells #[.int .i64 ((rd_T57 l0 a1).f0), .int .i64 ((rd_T57 l0 a1).f1), .int .i64 ((rd_T57 l0 a1).f2), .string ((rd_T57 l0 a1).f3), .int .i64 ((rd_T57 l0 a1).f4)] 57 (0, 0))) ∧ Aside0 (Below w.heap.size w w'))
              case atStart => exact ⟨((wrap64 (a1 + 1))), (y210), (0), (0), sr, sr, sr, H', ⟨Nat.le_refl _⟩, ⟨R_later HO_8.out⟩, ⟨blk_later BK209.out⟩, ⟨below_later HB.out⟩⟩
              case round =>
                clear H'
                try clear c3b0
                try clear c4b0
                try clear c12
                try clear c16
                try clear c16b0
                try clear c16b1
                try clear c22
                try clear c22b0
                try clear c22b1
                try clear c46
                try clear c46b0
                try clear c46b1
                try clear hcz10_0
                try clear hcz10_1
                try clear hcz10_2
                try clear hcz10_3
                try clear hcz10_4
                try clear hcz7_0
                try clear hcz7_1
                try clear hcz7_2
                try clear hcz7_3
                try clear hcz7_4
                try clear hfz10_0
                try clear hfz10_1
                try clear hfz10_2
                try clear hfz10_3
                try clear hfz10_4
                try clear hfz7_0
                try clear hfz7_1
                try clear hfz7_2
                try clear hfz7_3
                try clear hfz7_4
                try clear hx208_0
                try clear hx208_1
                try clear hx208_2
                try clear hx208_3
                try clear hx208_4
                try clear p208
                try clear q208
                obtain ⟨x7_2, x8_2, x12_2, x13_2, rfl, rfl, rfl, HA, HK2, HO_8, BK209, HB⟩ := hrel
                cases gk with
                | zero => exact absurd HA.out (by simp [spec_l4Pack.l1])
                | succ k2 =>
                  have H := HA.out
                  clear HA
                  simp only [spec_l4Pack.l1] at H
                  by_cases c47 : x13_2 < ((rd_T57 l0 a1).f4)
                  · rw [if_pos c47] at H
                    have c47b0 := decide_eq_true c47
                    clear c47
                    replace H := ifd H
                    obtain ⟨c48b0, H⟩ := H
                    replace H := ifd H
                    obtain ⟨c49b0, H⟩ := H
                    by_cases c50 : (wrap64 (((rd_T57 l0 x7_2).f1) - x12_2)) ≤ 15
                    · rw [if_pos c50] at H
                      have c50b0 := decide_eq_true c50
                      clear c50
                      replace H := ifs H
                      obtain ⟨c51, H⟩ := H
                      have LMc51 := Aside0.mk c51
                      clear c51
                      replace H := bsm H
                      obtain ⟨y246, Ny246, H⟩ := H
                      replace H := Option.bind_eq_some_iff.mp H
                      obtain ⟨⟨t249, t250⟩, A520, H⟩ := H
                      replace H : (if y246.length + t249.length < 140737488355328 then (spec_l4Pack.l1 k2 l0 t250 (y246 ++ t249) ((rd_T57 l0 x7_2).f1) (wrap64 (x13_2 + 1)) ((rd_T57 l0 a1).f0) ((rd_T57 l0 a1).f1) ((rd_T57 l0 a1).f2) ((rd_T57 l0 a1).f3) ((rd_T57 l0 a1).f4)) else (none)) = some (r1, r2) := H
                      have A52 := Aside0.mk A520
                      clear A520
                      replace H := ifs H
                      obtain ⟨c53, H⟩ := H
                      have LMc53 := Aside0.mk c53
                      clear c53
                      obtain ⟨y253, hy253⟩ : ∃ y_ : List Int, y_ = (y246 ++ t249) := ⟨_, rfl⟩
                      replace H : (spec_l4Pack.l1 k2 l0 t250 y253 ((rd_T57 l0 x7_2).f1) (wrap64 (x13_2 + 1)) ((rd_T57 l0 a1).f0) ((rd_T57 l0 a1).f1) ((rd_T57 l0 a1).f2) ((rd_T57 l0 a1).f3) ((rd_T57 l0 a1).f4)) = some (r1, r2) := by first | (rw [hy253]; with_reducible exact H) | (rw [hy253]; exact H) | exact H
                      have Ny253 := Aside0.mk hy253
                      clear hy253
                      have H' := Aside0.mk H
                      clear H
                      obtain ⟨hcz54_0, hcz54_1, hcz54_2, hcz54_3, hcz54_4, hfz54_0, hfz54_1, hfz54_2, hfz54_3, hfz54_4⟩ := cl5 BK209
                      have p244 : 0 ≤ (x7_2 : Int) := dcd
                      have q244 : x7_2 < (l0.length : Int) := dcd
                      obtain ⟨ad244, e244, hx244_0, hx244_1, hx244_2, hx244_3, hx244_4⟩ := at_T57 HR0.out x7_2 p244 q244
                      obtain rfl : ad208 = ad244 := (by injection e244)
                      replace hx244_0 := crd HB hx244_0
                      replace hx244_1 := crd HB hx244_1
                      replace hx244_2 := crd HB hx244_2
                      replace hx244_3 := crd HB hx244_3
                      replace hx244_4 := crd HB hx244_4
                      replace p244 := eq_true p244
                      replace q244 := eq_true q244
                      go_wp2_with (first | ((with_reducible refine gate_dst (N := 14) rfl ?_); refine bx_ 14 #[.int .i64 0, .int .i64 0, .int .i64 0, .string (⟨#[]⟩ : ByteArray), .int .i64 0] 57 ?_; intro gb245 hg w55 hbox hb; have BK245 := Aside0.mk (hbox); have GW245 := gwe HB hg; have GE245 := GW245; have NB209_245 := nbl BK209 hg; have NB245_209 := nbr (nbl BK209 hg); replace HO_8 := Aside0.mk (Kd.R_below (R_later HO_8.out) hb); replace BK209 := bkb BK209 hb; replace HB := bst HB hb; clear hb hbox hg; have hnb56 := NB245_209.out; have hnc56 := NB209_245.out; obtain ⟨hcz57_0, hcz57_1, hcz57_2, hcz57_3, hcz57_4, hfz57_0, hfz57_1, hfz57_2, hfz57_3, hfz57_4⟩ := cl5 BK245) | ((with_reducible refine gate_builtin (b := .append) (xs := #[.tmp 104, .tmp 114]) rfl ?_); at_builtin; refine Kd.R_append (Kd.int .u8) (w0 := w) w.heap.size rfl (.tmp 104) (.tmp 114) 41 5 (.int .u8 0) 1 rfl Try.underlying41 info5 rfl (by decide) (by omega) u8 x8_2 ((wrap64 ((wrap64 (16 * (wrap64 (((rd_T57 l0 x7_2).f1) - x12_2)))) + ((rd_T57 l0 x7_2).f0))) % 256) [.int .u8 ((wrap64 ((wrap64 (16 * (wrap64 (((rd_T57 l0 x7_2).f1) - x12_2)))) + ((rd_T57 l0 x7_2).f0))) % 256)] (fun _ => True) (fun _ => False) rfl (by first | (go_simp; done) | (go_simp; rfl)) ?aP (fun _ hk => hk.elim) ?aF ?aO ?aB ?aS ?aL ?_; (case aP => exact rfl); (case aB => exact (below_later HB.out)); (case aF => exact (fun _ _ => trivial)); (case aO => exact (by (with_reducible repeat (first | apply Kd.R_alloc | apply Kd.R_drewN | apply Kd.R_drew)); exact Kd.R_mono (Kd.R_far (p := ⟨gb245, 4, none⟩) (Kd.R_far (p := ⟨gb245, 3, none⟩) (Kd.R_far (p := ⟨gb245, 2, none⟩) (Kd.R_far (p := ⟨gb245, 1, none⟩) (Kd.R_far (p := ⟨gb245, 0, none⟩) (Kd.R_types HO_8.out BK245.out (by decide)) (fun _ hk => hk.2) (.int .i64 ((rd_T57 l0 x7_2).f0))) (fun _ hk => hk.2) (.int .i64 ((rd_T57 l0 x7_2).f1))) (fun _ hk => hk.2) (.int .i64 ((rd_T57 l0 x7_2).f2))) (fun _ hk => hk.2) (.string ((rd_T57 l0 x7_2).f3))) (fun _ hk => hk.2) (.int .i64 ((rd_T57 l0 x7_2).f4))) (fun _ hk => trivial))); (case aS => exact (below_size (below_later HB.out))); (case aL => have := LMc51.out; omega); intro v247 w58 ho hb hg hat; rw [← Ny246.out] at ho; have n0_ := Aside0.mk (blk_grown (g := gb209) (o := .cells #[.int .i64 ((rd_T57 l0 a1).f0), .int .i64 ((rd_T57 l0 a1).f1), .int .i64 ((rd_T57 l0 a1).f2), .string ((rd_T57 l0 a1).f3), .int .i64 ((rd_T57 l0 a1).f4)] 57 (0, 0)) (blk_later BK209.out) hg (Kd.R_ne HO_8.out BK209.out (by decide))); have n1_ := Aside0.mk (blk_grown (g := gb245) (o := .cells #[.int .i64 ((rd_T57 l0 x7_2).f0), .int .i64 ((rd_T57 l0 x7_2).f1), .int .i64 ((rd_T57 l0 x7_2).f2), .string ((rd_T57 l0 x7_2).f3), .int .i64 ((rd_T57 l0 x7_2).f4)] 57 (0, 0)) (blk_later BK245.out) hg (Kd.R_ne HO_8.out BK245.out (by decide))); have n2_ := Aside0.mk (hb); have n3_ := Aside0.mk (ho); clear BK209; clear BK245; clear HB; clear HO_8; have BK209 := n0_; have BK245 := n1_; have HB := n2_; have HO248 := n3_; clear n0_ n1_ n2_ n3_; clear ho hb hg hat; obtain ⟨hcz59_0, hcz59_1, hcz59_2, hcz59_3, hcz59_4, hfz59_0, hfz59_1, hfz59_2, hfz59_3, hfz59_4⟩ := cl5 BK245) | ((with_reducible refine gate_callee (f := 83) rfl ?_); refine gl_ (some 132) Try.func83 #[.slice (some ad208) l0.length c0, .int .i64 x7_2] rfl ?_; (with_reducible refine (ih k2 (by have := HJ4.out; have := HK2.out; omega) _ _ l0 x7_2 t249 t250 _ ?side1 ?side2 A52.out).mono ?_); (case side1 => repeat (first | exact (Kd.C_below HR0.out HB.out) | (with_reducible refine Kd.C_alloc ?_ _) | (with_reducible refine Kd.C_drewN ?_ _) | (with_reducible refine Kd.C_drew ?_))); (case side2 => exact HC0.out); rintro e w60 ⟨v251, rfl, ho0, hb⟩; refine ⟨_, rfl, ?_⟩; have HO252 := Aside0.mk (Kd.R_lower (Kd.R_new' ho0 (Kd.R_lt (R_later HO248.out))) (below_size (below_later HB.out))); replace HO248 := Aside0.mk (Kd.R_elder' (R_later HO248.out) (Kd.R_base ho0) hb); replace BK209 := bkb BK209 hb; replace BK245 := bkb BK245 hb; replace HB := bst HB hb; (try clear hb); (try clear hk); (try clear ho0); obtain ⟨Ao62, co62, eo62⟩ := Kd.R_slice HO252.out; subst eo62) | ((with_reducible refine gate_builtin (b := .append) (xs := #[.tmp 135, .tmp 136]) rfl ?_); at_builtin; refine Kd.R_append_rows (Kd.int .u8) (w0 := w) w.heap.size rfl (.tmp 135) (.tmp 136) 41 5 (.int .u8 0) 1 rfl Try.underlying41 info5 rfl (by decide) (by omega) v247 y246 t249 _ _ _ (fun k_ => some k_ ≠ (.slice Ao62 t249.length co62 : Value).ownBlock) (fun _ => False) rfl rfl ?aO ?aR (fun _ _ h => h) (fun _ h => h.elim) ?aF ?aB ?aS ?aL ?_; (case aR => repeat (first | exact (Kd.R_reads' HO252.out).2.2 | (with_reducible refine Kd.C_alloc ?_ _) | (with_reducible refine Kd.C_drewN ?_ _) | (with_reducible refine Kd.C_drew ?_))); (case aB => exact (below_later HB.out)); (case aF => exact (fun k_ hk => Kd.fresh' (Kd.R_lt (R_later HO252.out)) k_ hk)); (case aO => exact (by (with_reducible repeat (first | apply Kd.R_alloc | apply Kd.R_drewN | apply Kd.R_drew)); exact Kd.R_mono HO248.out (fun _ hk => hk.2))); (case aS => exact (below_size (below_later HB.out))); (case aL => have := LMc53.out; omega); intro v254 w61 ho hb hg hat; rw [← Ny253.out] at ho; have n0_ := Aside0.mk (blk_grown (blk_later BK209.out) hg (Kd.R_ne HO248.out BK209.out (by decide))); have n1_ := Aside0.mk (blk_grown (blk_later BK245.out) hg (Kd.R_ne HO248.out BK245.out (by decide))); have n2_ := Aside0.mk (Kd.R_after (ok := (fun _ => True)) (R_later HO252.out) hg hat); have n3_ := Aside0.mk (hb); have n4_ := Aside0.mk (ho); clear BK209; clear BK245; clear HO252; clear HB; clear HO248; have BK209 := n0_; have BK245 := n1_; have HO252 := n2_; have HB := n3_; have HO255 := n4_; clear n0_ n1_ n2_ n3_ n4_; clear ho hb hg hat))
                      go_roundg k2
                      case measure => have := HJ4.out; have := HK2.out; omega
                      case rel => exact ⟨(t250), (y253), ((rd_T57 l0 x7_2).f1), (wrap64 (x13_2 + 1)), sr, sr, sr, H', ⟨by have := HJ4.out; have := HK2.out; omega⟩, ⟨R_later (Kd.R_mono HO255.out (fun _ hk => trivial))⟩, ⟨blk_later BK209.out⟩, ⟨below_later HB.out⟩⟩
                    · rw [if_neg c50] at H
                      have c50b0 := decide_eq_false c50
                      clear c50
                      replace H := ifs H
                      obtain ⟨c63, H⟩ := H
                      have LMc63 := Aside0.mk c63
                      clear c63
                      replace H := bsm H
                      obtain ⟨y256, Ny256, H⟩ := H
                      replace H := bnd H
                      obtain ⟨t259, A64, H⟩ := H
                      replace H := ifs H
                      obtain ⟨c65, H⟩ := H
                      have LMc65 := Aside0.mk c65
                      clear c65
                      replace H := bsm H
                      obtain ⟨y262, Ny262, H⟩ := H
                      replace H := Option.bind_eq_some_iff.mp H
                      obtain ⟨⟨t265, t266⟩, A660, H⟩ := H
                      replace H : (if y262.length + t265.length < 140737488355328 then (spec_l4Pack.l1 k2 l0 t266 (y262 ++ t265) ((rd_T57 l0 x7_2).f1) (wrap64 (x13_2 + 1)) ((rd_T57 l0 a1).f0) ((rd_T57 l0 a1).f1) ((rd_T57 l0 a1).f2) ((rd_T57 l0 a1).f3) ((rd_T57 l0 a1).f4)) else (none)) = some (r1, r2) := H
                      have A66 := Aside0.mk A660
                      clear A660
                      replace H := ifs H
                      obtain ⟨c67, H⟩ := H
                      have LMc67 := Aside0.mk c67
                      clear c67
                      obtain ⟨y269, hy269⟩ : ∃ y_ : List Int, y_ = (y262 ++ t265) := ⟨_, rfl⟩
                      replace H : (spec_l4Pack.l1 k2 l0 t266 y269 ((rd_T57 l0 x7_2).f1) (wrap64 (x13_2 + 1)) ((rd_T57 l0 a1).f0) ((rd_T57 l0 a1).f1) ((rd_T57 l0 a1).f2) ((rd_T57 l0 a1).f3) ((rd_T57 l0 a1).f4)) = some (r1, r2) := by first | (rw [hy269]; with_reducible exact H) | (rw [hy269]; exact H) | exact H
                      have Ny269 := Aside0.mk hy269
                      clear hy269
                      have H' := Aside0.mk H
                      clear H
                      obtain ⟨hcz68_0, hcz68_1, hcz68_2, hcz68_3, hcz68_4, hfz68_0, hfz68_1, hfz68_2, hfz68_3, hfz68_4⟩ := cl5 BK209
                      have p244 : 0 ≤ (x7_2 : Int) := dcd
                      have q244 : x7_2 < (l0.length : Int) := dcd
                      obtain ⟨ad244, e244, hx244_0, hx244_1, hx244_2, hx244_3, hx244_4⟩ := at_T57 HR0.out x7_2 p244 q244
                      obtain rfl : ad208 = ad244 := (by injection e244)
                      replace hx244_0 := crd HB hx244_0
                      replace hx244_1 := crd HB hx244_1
                      replace hx244_2 := crd HB hx244_2
                      replace hx244_3 := crd HB hx244_3
                      replace hx244_4 := crd HB hx244_4
                      replace p244 := eq_true p244
                      replace q244 := eq_true q244
                      go_wp2_with (first | ((with_reducible refine gate_dst (N := 14) rfl ?_); refine bx_ 14 #[.int .i64 0, .int .i64 0, .int .i64 0, .string (⟨#[]⟩ : ByteArray), .int .i64 0] 57 ?_; intro gb245 hg w69 hbox hb; have BK245 := Aside0.mk (hbox); have GW245 := gwe HB hg; have GE245 := GW245; have NB209_245 := nbl BK209 hg; have NB245_209 := nbr (nbl BK209 hg); replace HO_8 := Aside0.mk (Kd.R_below (R_later HO_8.out) hb); replace BK209 := bkb BK209 hb; replace HB := bst HB hb; clear hb hbox hg; have hnb70 := NB245_209.out; have hnc70 := NB209_245.out; obtain ⟨hcz71_0, hcz71_1, hcz71_2, hcz71_3, hcz71_4, hfz71_0, hfz71_1, hfz71_2, hfz71_3, hfz71_4⟩ := cl5 BK245) | ((with_reducible refine gate_builtin (b := .append) (xs := #[.tmp 116, .tmp 120]) rfl ?_); at_builtin; refine Kd.R_append (Kd.int .u8) (w0 := w) w.heap.size rfl (.tmp 116) (.tmp 120) 41 5 (.int .u8 0) 1 rfl Try.underlying41 info5 rfl (by decide) (by omega) u8 x8_2 (((rd_T57 l0 x7_2).f0) % 256) [.int .u8 (((rd_T57 l0 x7_2).f0) % 256)] (fun _ => True) (fun _ => False) rfl (by first | (go_simp; done) | (go_simp; rfl)) ?aP (fun _ hk => hk.elim) ?aF ?aO ?aB ?aS ?aL ?_; (case aP => exact rfl); (case aB => exact (below_later HB.out)); (case aF => exact (fun _ _ => trivial)); (case aO => exact (by (with_reducible repeat (first | apply Kd.R_alloc | apply Kd.R_drewN | apply Kd.R_drew)); exact Kd.R_mono (Kd.R_far (p := ⟨gb245, 4, none⟩) (Kd.R_far (p := ⟨gb245, 3, none⟩) (Kd.R_far (p := ⟨gb245, 2, none⟩) (Kd.R_far (p := ⟨gb245, 1, none⟩) (Kd.R_far (p := ⟨gb245, 0, none⟩) (Kd.R_types HO_8.out BK245.out (by decide)) (fun _ hk => hk.2) (.int .i64 ((rd_T57 l0 x7_2).f0))) (fun _ hk => hk.2) (.int .i64 ((rd_T57 l0 x7_2).f1))) (fun _ hk => hk.2) (.int .i64 ((rd_T57 l0 x7_2).f2))) (fun _ hk => hk.2) (.string ((rd_T57 l0 x7_2).f3))) (fun _ hk => hk.2) (.int .i64 ((rd_T57 l0 x7_2).f4))) (fun _ hk => trivial))); (case aS => exact (below_size (below_later HB.out))); (case aL => have := LMc63.out; omega); intro v257 w72 ho hb hg hat; rw [← Ny256.out] at ho; have n0_ := Aside0.mk (blk_grown (g := gb209) (o := .cells #[.int .i64 ((rd_T57 l0 a1).f0), .int .i64 ((rd_T57 l0 a1).f1), .int .i64 ((rd_T57 l0 a1).f2), .string ((rd_T57 l0 a1).f3), .int .i64 ((rd_T57 l0 a1).f4)] 57 (0, 0)) (blk_later BK209.out) hg (Kd.R_ne HO_8.out BK209.out (by decide))); have n1_ := Aside0.mk (blk_grown (g := gb245) (o := .cells #[.int .i64 ((rd_T57 l0 x7_2).f0), .int .i64 ((rd_T57 l0 x7_2).f1), .int .i64 ((rd_T57 l0 x7_2).f2), .string ((rd_T57 l0 x7_2).f3), .int .i64 ((rd_T57 l0 x7_2).f4)] 57 (0, 0)) (blk_later BK245.out) hg (Kd.R_ne HO_8.out BK245.out (by decide))); have n2_ := Aside0.mk (hb); have n3_ := Aside0.mk (ho); clear BK209; clear BK245; clear HB; clear HO_8; have BK209 := n0_; have BK245 := n1_; have HB := n2_; have HO258 := n3_; clear n0_ n1_ n2_ n3_; clear ho hb hg hat; obtain ⟨hcz73_0, hcz73_1, hcz73_2, hcz73_3, hcz73_4, hfz73_0, hfz73_1, hfz73_2, hfz73_3, hfz73_4⟩ := cl5 BK245) | ((with_reducible refine gate_callee (f := 97) rfl ?_); refine gl_ (some 125) Try.func97 #[.int .i64 ((rd_T57 l0 x7_2).f1)] rfl ?_; (with_reducible refine (spec_ZigPut.calls k2 ((rd_T57 l0 x7_2).f1) t259 _ A64.out).mono ?_); rintro e w74 ⟨v260, rfl, ho0, hb⟩; refine ⟨_, rfl, ?_⟩; have HO261 := Aside0.mk (Kd.R_lower (Kd.R_new' ho0 (Kd.R_lt (R_later HO258.out))) (below_size (below_later HB.out))); replace HO258 := Aside0.mk (Kd.R_elder' (R_later HO258.out) (Kd.R_base ho0) hb); replace BK209 := bkb BK209 hb; replace BK245 := bkb BK245 hb; replace HB := bst HB hb; (try clear hb); (try clear hk); (try clear ho0); obtain ⟨Ao76, co76, eo76⟩ := Kd.R_slice HO261.out; subst eo76) | ((with_reducible refine gate_builtin (b := .append) (xs := #[.tmp 122, .tmp 125]) rfl ?_); at_builtin; refine Kd.R_append_rows (Kd.int .u8) (w0 := w) w.heap.size rfl (.tmp 122) (.tmp 125) 41 5 (.int .u8 0) 1 rfl Try.underlying41 info5 rfl (by decide) (by omega) v257 y256 t259 _ _ _ (fun k_ => some k_ ≠ (.slice Ao76 t259.length co76 : Value).ownBlock) (fun _ => False) rfl rfl ?aO ?aR (fun _ _ h => h) (fun _ h => h.elim) ?aF ?aB ?aS ?aL ?_; (case aR => repeat (first | exact (Kd.R_reads' HO261.out).2.2 | (with_reducible refine Kd.C_alloc ?_ _) | (with_reducible refine Kd.C_drewN ?_ _) | (with_reducible refine Kd.C_drew ?_))); (case aB => exact (below_later HB.out)); (case aF => exact (fun k_ hk => Kd.fresh' (Kd.R_lt (R_later HO261.out)) k_ hk)); (case aO => exact (by (with_reducible repeat (first | apply Kd.R_alloc | apply Kd.R_drewN | apply Kd.R_drew)); exact Kd.R_mono HO258.out (fun _ hk => hk.2))); (case aS => exact (below_size (below_later HB.out))); (case aL => have := LMc65.out; omega); intro v263 w75 ho hb hg hat; rw [← Ny262.out] at ho; have n0_ := Aside0.mk (blk_grown (blk_later BK209.out) hg (Kd.R_ne HO258.out BK209.out (by decide))); have n1_ := Aside0.mk (blk_grown (blk_later BK245.out) hg (Kd.R_ne HO258.out BK245.out (by decide))); have n2_ := Aside0.mk (Kd.R_after (ok := (fun _ => True)) (R_later HO261.out) hg hat); have n3_ := Aside0.mk (hb); have n4_ := Aside0.mk (ho); clear BK209; clear BK245; clear HO261; clear HB; clear HO258; have BK209 := n0_; have BK245 := n1_; have HO261 := n2_; have HB := n3_; have HO264 := n4_; clear n0_ n1_ n2_ n3_ n4_; clear ho hb hg hat; obtain ⟨hcz77_0, hcz77_1, hcz77_2, hcz77_3, hcz77_4, hfz77_0, hfz77_1, hfz77_2, hfz77_3, hfz77_4⟩ := cl5 BK245) | ((with_reducible refine gate_callee (f := 83) rfl ?_); refine gl_ (some 132) Try.func83 #[.slice (some ad208) l0.length c0, .int .i64 x7_2] rfl ?_; (with_reducible refine (ih k2 (by have := HJ4.out; have := HK2.out; omega) _ _ l0 x7_2 t265 t266 _ ?side1 ?side2 A66.out).mono ?_); (case side1 => repeat (first | exact (Kd.C_below HR0.out HB.out) | (with_reducible refine Kd.C_alloc ?_ _) | (with_reducible refine Kd.C_drewN ?_ _) | (with_reducible refine Kd.C_drew ?_))); (case side2 => exact HC0.out); rintro e w78 ⟨v267, rfl, ho0, hb⟩; refine ⟨_, rfl, ?_⟩; have HO268 := Aside0.mk (Kd.R_lower (Kd.R_new' (Kd.R_new' ho0 (Kd.R_lt (R_later HO261.out))) (Kd.R_lt (R_later HO264.out))) (below_size (below_later HB.out))); replace HO261 := Aside0.mk (Kd.R_elder' (R_later HO261.out) (Kd.R_base ho0) hb); replace HO264 := Aside0.mk (Kd.R_elder' (R_later HO264.out) (Kd.R_base ho0) hb); replace BK209 := bkb BK209 hb; replace BK245 := bkb BK245 hb; replace HB := bst HB hb; (try clear hb); (try clear hk); (try clear ho0); obtain ⟨Ao80, co80, eo80⟩ := Kd.R_slice HO268.out; subst eo80) | ((with_reducible refine gate_builtin (b := .append) (xs := #[.tmp 135, .tmp 136]) rfl ?_); at_builtin; refine Kd.R_append_rows (Kd.int .u8) (w0 := w) w.heap.size rfl (.tmp 135) (.tmp 136) 41 5 (.int .u8 0) 1 rfl Try.underlying41 info5 rfl (by decide) (by omega) v263 y262 t265 _ _ _ (fun k_ => some k_ ≠ (.slice Ao76 t259.length co76 : Value).ownBlock ∧ some k_ ≠ (.slice Ao80 t265.length co80 : Value).ownBlock) (fun _ => False) rfl rfl ?aO ?aR (fun _ _ h => h) (fun _ h => h.elim) ?aF ?aB ?aS ?aL ?_; (case aR => repeat (first | exact (Kd.R_reads' HO268.out).2.2 | (with_reducible refine Kd.C_alloc ?_ _) | (with_reducible refine Kd.C_drewN ?_ _) | (with_reducible refine Kd.C_drew ?_))); (case aB => exact (below_later HB.out)); (case aF => exact (fun k_ hk => ⟨Kd.fresh' (Kd.R_lt (R_later HO261.out)) k_ hk, Kd.fresh' (Kd.R_lt (R_later HO268.out)) k_ hk⟩)); (case aO => exact (R_later HO264.out)); (case aS => exact (below_size (below_later HB.out))); (case aL => have := LMc67.out; omega); intro v270 w79 ho hb hg hat; rw [← Ny269.out] at ho; have n0_ := Aside0.mk (blk_grown (blk_later BK209.out) hg (Kd.R_ne HO264.out BK209.out (by decide))); have n1_ := Aside0.mk (blk_grown (blk_later BK245.out) hg (Kd.R_ne HO264.out BK245.out (by decide))); have n2_ := Aside0.mk (Kd.R_after (ok := (fun k_ => some k_ ≠ (.slice Ao80 t265.length co80 : Value).ownBlock)) (by (with_reducible repeat (first | apply Kd.R_alloc | apply Kd.R_drewN | apply Kd.R_drew)); exact Kd.R_mono HO261.out (fun _ hk => ⟨hk.2, hk.1.2⟩)) hg hat); have n3_ := Aside0.mk (Kd.R_after (ok := (fun k_ => some k_ ≠ (.slice Ao76 t259.length co76 : Value).ownBlock)) (by (with_reducible repeat (first | apply Kd.R_alloc | apply Kd.R_drewN | apply Kd.R_drew)); exact Kd.R_mono HO268.out (fun _ hk => ⟨hk.1.2, hk.2⟩)) hg hat); have n4_ := Aside0.mk (hb); have n5_ := Aside0.mk (ho); clear BK209; clear BK245; clear HO261; clear HO268; clear HB; clear HO264; have BK209 := n0_; have BK245 := n1_; have HO261 := n2_; have HO268 := n3_; have HB := n4_; have HO271 := n5_; clear n0_ n1_ n2_ n3_ n4_ n5_; clear ho hb hg hat))
                      go_roundg k2
                      case measure => have := HJ4.out; have := HK2.out; omega
                      case rel => exact ⟨(t266), (y269), ((rd_T57 l0 x7_2).f1), (wrap64 (x13_2 + 1)), sr, sr, sr, H', ⟨by have := HJ4.out; have := HK2.out; omega⟩, ⟨R_later (Kd.R_mono HO271.out (fun _ hk => trivial))⟩, ⟨blk_later BK209.out⟩, ⟨below_later HB.out⟩⟩
                  · rw [if_neg c47] at H
                    have c47b0 := decide_eq_false c47
                    clear c47
                    replace H := ifs H
                    obtain ⟨c81, H⟩ := H
                    have LMc81 := Aside0.mk c81
                    clear c81
                    obtain ⟨y241, hy241⟩ : ∃ y_ : List Int, y_ = (x8_2 ++ [0]) := ⟨_, rfl⟩
                    replace H : (some (y241, x7_2)) = some (r1, r2) := by first | (rw [hy241]; with_reducible exact H) | (rw [hy241]; exact H) | exact H
                    have Ny241 := Aside0.mk hy241
                    clear hy241
                    simp only [Option.some.injEq, Prod.mk.injEq] at H
                    obtain ⟨rfl, rfl⟩ := H
                    obtain ⟨hcz82_0, hcz82_1, hcz82_2, hcz82_3, hcz82_4, hfz82_0, hfz82_1, hfz82_2, hfz82_3, hfz82_4⟩ := cl5 BK209
                    go_wp2_with (first | ((with_reducible refine gate_builtin (b := .append) (xs := #[.tmp 139, .tmp 140]) rfl ?_); at_builtin; refine Kd.R_append (Kd.int .u8) (w0 := w) w.heap.size rfl (.tmp 139) (.tmp 140) 41 5 (.int .u8 0) 1 rfl Try.underlying41 info5 rfl (by decide) (by omega) u8 x8_2 0 [.int .u8 0] (fun _ => True) (fun _ => False) rfl rfl ?aP (fun _ hk => hk.elim) ?aF ?aO ?aB ?aS ?aL ?_; (case aP => exact rfl); (case aB => exact (below_later HB.out)); (case aF => exact (fun _ _ => trivial)); (case aO => exact (R_later HO_8.out)); (case aS => exact (below_size (below_later HB.out))); (case aL => have := LMc81.out; omega); intro v242 w83 ho hb hg hat; rw [← Ny241.out] at ho; have n0_ := Aside0.mk (blk_grown (blk_later BK209.out) hg (Kd.R_ne HO_8.out BK209.out (by decide))); have n1_ := Aside0.mk (hb); have n2_ := Aside0.mk (ho); clear BK209; clear HB; clear HO_8; have BK209 := n0_; have HB := n1_; have HO243 := n2_; clear n0_ n1_ n2_; clear ho hb hg hat))
                    go_ret2
                    exact ⟨_, by first | rfl | (simp [errW_none, errW_some] <;> rfl) | (simp [*, errW_none, errW_some] <;> rfl), by (with_reducible repeat (first | apply Kd.R_alloc | apply Kd.R_drewN | apply Kd.R_drew)); exact HO243.out, below_later HB.out⟩
            · rw [if_neg c46] at H
              have c46b0 : (((rd_T57 l0 a1).f0) == 12) = false := beq_eq_false_iff_ne.mpr c46
              have c46b1 : (((rd_T57 l0 a1).f0) != 12) = true := bne_iff_ne.mpr c46
              simp only [Option.some.injEq, Prod.mk.injEq] at H
              obtain ⟨rfl, rfl⟩ := H
              go_wp2
              go_ret2
              exact ⟨_, by first | rfl | (simp [errW_none, errW_some] <;> rfl) | (simp [*, errW_none, errW_some] <;> rfl), by (with_reducible repeat (first | apply Kd.R_alloc | apply Kd.R_drewN | apply Kd.R_drew)); exact HO_8.out, below_later HB.out⟩
/-! ### spec_TreePack: function 60 -/
def spec_TreePack.f (k : Nat) (l0 : List (S57)) : Option (List Int × Bool) := (spec_TreeOk.f k l0).bind fun t272 => (if t272 = true then ((spec_l4Pack.f k l0 0).bind fun bt273 => (some (bt273.1, true))) else (some ((([] : List Int)), false)))
set_option maxHeartbeats 8000000 in
set_option maxRecDepth 100000 in
theorem spec_TreePack.calls (k : Nat) (A0 : Option Addr) (c0 : Nat) (l0 : List (S57)) (r1 : List Int) (r2 : Bool) (w : World) (hr0 : Kd.C k57 w A0 l0.length l0) (hc0 : l0.length ≤ c0) (h : spec_TreePack.f k l0 = some (r1, r2)) :
    Calls Try.prog 60 #[.slice A0 l0.length c0] w fun e w' => ∃ v0_ : Value, e = .returned (.tuple #[v0_, .bool r2]) ∧ Kd.R (Kd.int .u8) 5 w' w.heap.size (fun _ => True) v0_ r1 ∧ Below w.heap.size w w' := by
  have HR0 := Aside0.mk hr0
  have HC0 := Aside0.mk hc0
  clear hr0 hc0
  have HB := Aside0.mk (Below.refl w.heap.size w)
  have H : ((spec_TreeOk.f k l0).bind fun t272 => (if t272 = true then ((spec_l4Pack.f k l0 0).bind fun bt273 => (some (bt273.1, true))) else (some ((([] : List Int)), false)))) = some (r1, r2) := h
  clear h
  replace H := bnd H
  obtain ⟨t272, A2, H⟩ := H
  by_cases c3 : t272 = true
  · subst c3
    replace H := ifp rfl H
    replace H := Option.bind_eq_some_iff.mp H
    obtain ⟨⟨t273, t274⟩, A40, H⟩ := H
    replace H : (some (t273, true)) = some (r1, r2) := H
    have A4 := Aside0.mk A40
    clear A40
    simp only [Option.some.injEq, Prod.mk.injEq] at H
    obtain ⟨rfl, rfl⟩ := H
    go_enter Try.func60, Try.ntmps60
    go_wp2_with (first | ((with_reducible refine gate_callee (f := 23) rfl ?_); refine gl_ (some 7) Try.func23 #[.slice A0 l0.length c0] rfl ?_; (with_reducible refine (spec_TreeOk.calls k _ _ l0 true _ ?side1 ?side2 A2.out).mono ?_); (case side1 => exact C_later HR0.out); (case side2 => exact HC0.out); rintro e w5 ⟨rfl, hb⟩; refine ⟨_, rfl, ?_⟩; replace HB := bst HB hb; (try clear hb)) | ((with_reducible refine gate_callee (f := 83) rfl ?_); refine gl_ (some 12) Try.func83 #[.slice A0 l0.length c0, .int .i64 0] rfl ?_; (with_reducible refine (spec_l4Pack.calls k _ _ l0 0 t273 t274 _ ?side1 ?side2 A4.out).mono ?_); (case side1 => repeat (first | exact (Kd.C_below HR0.out HB.out) | (with_reducible refine Kd.C_alloc ?_ _) | (with_reducible refine Kd.C_drewN ?_ _) | (with_reducible refine Kd.C_drew ?_))); (case side2 => exact HC0.out); rintro e w6 ⟨v275, rfl, ho0, hb⟩; refine ⟨_, rfl, ?_⟩; have HO276 := Aside0.mk (Kd.R_lower ho0 (below_size (below_later HB.out))); replace HB := bst HB hb; (try clear hb); (try clear ho0)))
    go_ret2
    exact ⟨_, by first | rfl | (simp [errW_none, errW_some] <;> rfl) | (simp [*, errW_none, errW_some] <;> rfl), by (with_reducible repeat (first | apply Kd.R_alloc | apply Kd.R_drewN | apply Kd.R_drew)); exact HO276.out, below_later HB.out⟩
  · replace c3 := Bool.eq_false_iff.mpr c3
    subst c3
    replace H := ifn Bool.false_ne_true H
    obtain ⟨y277, hy277⟩ : ∃ y_ : List Int, y_ = (([] : List Int)) := ⟨_, rfl⟩
    replace H : (some (y277, false)) = some (r1, r2) := by first | (rw [hy277]; with_reducible exact H) | (rw [hy277]; exact H) | exact H
    have Ny277 := Aside0.mk hy277
    clear hy277
    simp only [Option.some.injEq, Prod.mk.injEq] at H
    obtain ⟨rfl, rfl⟩ := H
    go_enter Try.func60, Try.ntmps60
    go_wp2_with (first | ((with_reducible refine gate_callee (f := 23) rfl ?_); refine gl_ (some 7) Try.func23 #[.slice A0 l0.length c0] rfl ?_; (with_reducible refine (spec_TreeOk.calls k _ _ l0 false _ ?side1 ?side2 A2.out).mono ?_); (case side1 => exact C_later HR0.out); (case side2 => exact HC0.out); rintro e w7 ⟨rfl, hb⟩; refine ⟨_, rfl, ?_⟩; replace HB := bst HB hb; (try clear hb); (try clear hk)) | ((with_reducible refine gate_dst (N := 9) rfl ?_); refine Kd.R_lit (Kd.int .u8) _ 5 ?hg (N := 9) ?hd (xs := ([] : List Int)) (inner := []) (ok := fun _ => True) (okp := fun _ => True) ?hr ?hp (fun _ hk => hk) trivial (Below.refl _ _) (Nat.le_refl _) (by simp) ?_; (case hd => rfl); (case hg => rfl); (case hr => first | (go_simp; done) | (go_simp; rfl)); (case hp => exact (Reps.none _ _)); intro v278 w8 ho9 hb hg_ hnew_; clear hg_ hnew_; (first | rw [← Ny277.out] at ho9 | (simp only [Int.reduceToNat] at ho9; rw [← Ny277.out] at ho9)); have HO279 := Aside0.mk (Kd.R_lower ho9 (below_size (below_later HB.out))); replace HB := bst HB hb; clear hb ho9))
    go_ret2
    exact ⟨_, by first | rfl | (simp [errW_none, errW_some] <;> rfl) | (simp [*, errW_none, errW_some] <;> rfl), by (with_reducible repeat (first | apply Kd.R_alloc | apply Kd.R_drewN | apply Kd.R_drew)); exact HO279.out, below_later HB.out⟩

end Go.Proofs.Ytgiljoeekpfpmaa.PFnExactDictPack
