/- The machine's side of FnExactStatsFrom, written by wip/tools/hyb.py of this repo: each Go function as a plain Lean function, and the proof that the call comes to just its answer. No condition. -/
import Derived.Test.YtgiljoeekpfpmaaPFnExactStatsFromx0
import Derived.Test.YtgiljoeekpfpmaaPFnExactStatsFromx1
import Derived.Test.YtgiljoeekpfpmaaPFnExactStatsFromx8
import Derived.Test.YtgiljoeekpfpmaaPFnExactStatsFromx10
import Derived.Test.YtgiljoeekpfpmaaPFnExactStatsFromx11
import Derived.Test.YtgiljoeekpfpmaaPFnExactStatsFromx12
namespace Go.Proofs.Ytgiljoeekpfpmaa.PFnExactStatsFrom
open Go.RowKit Go.Proofs.YtgiljoeekpfpmaaW.PrintWords Go.Proofs.YtgiljoeekpfpmaaW.PrintLast Go.Proofs.YtgiljoeekpfpmaaW.PrintMore Go.Proofs.YtgiljoeekpfpmaaW.PrintMore2
attribute [local go_sem] max2_int min2_int max_two min_two max_three min_three max_four min_four   -- for this text's walks alone
set_option linter.unusedVariables false
set_option linter.unusedSimpArgs false

attribute [local go_sem high] eqA27
/-! ### impl_PlainPack: function 36 -/
def impl_PlainPack.l0 : Nat → Int → List Int → List (S27) → Int → Int → Option (List Int × Bool)
  | 0, _, _, _, _, _ => none
  | k + 1, x0, x6, x19, x20, x21 => if x21 < x20 then (if 0 ≤ x21 then (if x21 < (x19.length : Int) then (if x0 = 6 then ((impl_WordPut.f k (((rd_T27 x19 x21).f1).size : Int) 4).bind fun t469 => (if x6.length + t469.length < 140737488355328 then ((some (x6 ++ t469 : List Int)).bind fun y472 => (if y472.length + ((rd_T27 x19 x21).f1).size < 140737488355328 then (impl_PlainPack.l0 k x0 (y472 ++ bytesOf ((rd_T27 x19 x21).f1)) x19 x20 (wrap64 (x21 + 1))) else (none))) else (none))) else ((impl_wideOf.f x0).bind fun t478 => ((impl_WordPut.f k ((rd_T27 x19 x21).f0) t478).bind fun t479 => (if x6.length + t479.length < 140737488355328 then (impl_PlainPack.l0 k x0 (x6 ++ t479) x19 x20 (wrap64 (x21 + 1))) else (none))))) else (none)) else (none)) else (some (x6, true))
def impl_PlainPack.f (k : Nat) (a0 : Int) (l1 : List (S27)) : Option (List Int × Bool) := (impl_valsOk.f k a0 l1).bind fun t457 => (if t457 = true then (if a0 = 0 then ((impl_numsOf.f k l1).bind fun t458 => ((impl_packed.f k t458 1).bind fun t461 => (some (t461, true)))) else (impl_PlainPack.l0 k a0 (([] : List Int)) l1 (l1.length : Int) 0)) else (some (([] : List Int), false)))
def impl_PlainPack.T10 : Bool × List (List Nat × List Nat) := (true, [([], []), ([], []), ([1], [1]), ([2], [2]), ([3], [3]), ([0, 4, 4], [0, 4]), ([], []), ([6], [6]), ([5, 7, 5], [5, 7]), ([8, 8, 0, 1, 2, 3, 4, 5, 6, 7, 8], [0, 8])])
def impl_PlainPack.B10 : List Nat := [0, 0, 2, 6, 14, 31, 0, 64, 255, 511]
theorem impl_PlainPack.tab10 : rtab .any (opsOf Try.f36 10) = impl_PlainPack.T10 := by kernel_rfl
theorem impl_PlainPack.bits10 : waitsOk impl_PlainPack.T10.2 impl_PlainPack.B10 = true := by kernel_rfl
def impl_PlainPack.T11 : Bool × List (List Nat × List Nat) := (true, [([], []), ([], []), ([1], [1]), ([], []), ([3], [3]), ([2, 4, 4], [2, 4]), ([0, 5, 5], [0, 5]), ([6, 6, 0, 1, 2, 3, 4, 5, 6], [0, 6])])
def impl_PlainPack.B11 : List Nat := [0, 0, 2, 0, 8, 30, 63, 127]
theorem impl_PlainPack.tab11 : rtab .any (opsOf Try.f36 11) = impl_PlainPack.T11 := by kernel_rfl
theorem impl_PlainPack.bits11 : waitsOk impl_PlainPack.T11.2 impl_PlainPack.B11 = true := by kernel_rfl
set_option maxHeartbeats 8000000 in
set_option maxRecDepth 100000 in
theorem impl_PlainPack.calls (k : Nat) (a0 : Int) (A1 : Option Addr) (c1 : Nat) (l1 : List (S27)) (r1 : List Int) (r2 : Bool) (w : World) (hr1 : Kd.C k27 w A1 l1.length l1) (hc1 : l1.length ≤ c1) (h : impl_PlainPack.f k a0 l1 = some (r1, r2)) :
    Calls Try.prog 36 #[.int .i64 a0, .slice A1 l1.length c1] w fun e w' => ∃ v0_ : Value, e = .returned (.tuple #[v0_, .bool r2]) ∧ Kd.R (Kd.int .u8) 5 w' w.heap.size (fun _ => True) v0_ r1 ∧ Below w.heap.size w w' := by
  have hu27 := Try.underlying27
  have HR1 := Aside0.mk hr1
  have HC1 := Aside0.mk hc1
  clear hr1 hc1
  have HB := Aside0.mk (Below.refl w.heap.size w)
  have H : ((impl_valsOk.f k a0 l1).bind fun t457 => (if t457 = true then (if a0 = 0 then ((impl_numsOf.f k l1).bind fun t458 => ((impl_packed.f k t458 1).bind fun t461 => (some (t461, true)))) else (impl_PlainPack.l0 k a0 (([] : List Int)) l1 (l1.length : Int) 0)) else (some (([] : List Int), false)))) = some (r1, r2) := h
  clear h
  replace H := bnd H
  obtain ⟨t457, A3, H⟩ := H
  by_cases c4 : t457 = true
  · subst c4
    replace H := ifp rfl H
    by_cases c5 : a0 = 0
    · rw [if_pos c5] at H
      have c5b0 : (a0 == 0) = true := beq_iff_eq.mpr c5
      have c5b1 : (a0 != 0) = false := bne_eq_false_iff_eq.mpr c5
      clear c5
      replace H := bnd H
      obtain ⟨t458, A6, H⟩ := H
      replace H := bnd H
      obtain ⟨t461, A7, H⟩ := H
      simp only [Option.some.injEq, Prod.mk.injEq] at H
      obtain ⟨rfl, rfl⟩ := H
      go_enter Try.func36, Try.ntmps36
      go_wp2_with (first | ((with_reducible refine gate_callee (f := 61) rfl ?_); refine gl_ (some 11) Try.func61 #[.int .i64 a0, .slice A1 l1.length c1] rfl ?_; (with_reducible refine (impl_valsOk.calls k a0 _ _ l1 true _ ?side1 ?side2 A3.out).mono ?_); (case side1 => exact C_later HR1.out); (case side2 => exact HC1.out); rintro e w8 ⟨rfl, hb⟩; refine ⟨_, rfl, ?_⟩; replace HB := bst HB hb; (try clear hb)) | ((with_reducible refine gate_callee (f := 63) rfl ?_); refine gl_ (some 16) Try.func63 #[.slice A1 l1.length c1] rfl ?_; (with_reducible refine (impl_numsOf.calls k _ _ l1 t458 _ ?side1 ?side2 A6.out).mono ?_); (case side1 => repeat (first | exact (Kd.C_below HR1.out HB.out) | (with_reducible refine Kd.C_alloc ?_ _) | (with_reducible refine Kd.C_drewN ?_ _) | (with_reducible refine Kd.C_drew ?_))); (case side2 => exact HC1.out); rintro e w9 ⟨v459, rfl, ho0, hb⟩; refine ⟨_, rfl, ?_⟩; have HO460 := Aside0.mk (Kd.R_lower ho0 (below_size (below_later HB.out))); replace HB := bst HB hb; (try clear hb); (try clear ho0); obtain ⟨Ao10, co10, eo10⟩ := Kd.R_slice HO460.out; subst eo10) | ((with_reducible refine gate_callee (f := 62) rfl ?_); refine gl_ (some 17) Try.func62 #[.slice Ao10 t458.length co10, .int .i64 1] rfl ?_; (with_reducible refine (impl_packed.calls k _ _ t458 1 t461 _ ?side1 ?side2 A7.out).mono ?_); (case side1 => repeat (first | exact (Kd.R_reads' HO460.out).2.2 | (with_reducible refine Kd.C_alloc ?_ _) | (with_reducible refine Kd.C_drewN ?_ _) | (with_reducible refine Kd.C_drew ?_))); (case side2 => exact (Kd.R_reads' HO460.out).2.1); rintro e w11 ⟨v462, rfl, ho0, hb⟩; refine ⟨_, rfl, ?_⟩; have HO463 := Aside0.mk (Kd.R_lower ho0 (below_size (below_later HB.out))); replace HO460 := Aside0.mk (Kd.R_below (R_later HO460.out) hb); replace HB := bst HB hb; (try clear hb); (try clear ho0)))
      go_ret2
      exact ⟨_, by first | rfl | (simp [errW_none, errW_some] <;> rfl) | (simp [*, errW_none, errW_some] <;> rfl), by (with_reducible repeat (first | apply Kd.R_alloc | apply Kd.R_drewN | apply Kd.R_drew)); exact HO463.out, below_later HB.out⟩
    · rw [if_neg c5] at H
      have c5b0 : (a0 == 0) = false := beq_eq_false_iff_ne.mpr c5
      have c5b1 : (a0 != 0) = true := bne_iff_ne.mpr c5
      obtain ⟨y464, hy464⟩ : ∃ y_ : List Int, y_ = (([] : List Int)) := ⟨_, rfl⟩
      replace H : (impl_PlainPack.l0 k a0 y464 l1 (l1.length : Int) 0) = some (r1, r2) := by first | (rw [hy464]; with_reducible exact H) | (rw [hy464]; exact H) | exact H
      have Ny464 := Aside0.mk hy464
      clear hy464
      have H' := Aside0.mk H
      clear H
      go_enter Try.func36, Try.ntmps36
      go_wp2_with (first | ((with_reducible refine gate_callee (f := 61) rfl ?_); refine gl_ (some 11) Try.func61 #[.int .i64 a0, .slice A1 l1.length c1] rfl ?_; (with_reducible refine (impl_valsOk.calls k a0 _ _ l1 true _ ?side1 ?side2 A3.out).mono ?_); (case side1 => exact C_later HR1.out); (case side2 => exact HC1.out); rintro e w12 ⟨rfl, hb⟩; refine ⟨_, rfl, ?_⟩; replace HB := bst HB hb; (try clear hb); (try clear hk)) | ((with_reducible refine gate_dst (N := 18) rfl ?_); refine Kd.R_lit (Kd.int .u8) _ 5 ?hg (N := 18) ?hd (xs := ([] : List Int)) (inner := []) (ok := fun _ => True) (okp := fun _ => True) ?hr ?hp (fun _ hk => hk) trivial (Below.refl _ _) (Nat.le_refl _) (by simp) ?_; (case hd => rfl); (case hg => rfl); (case hr => first | (go_simp; done) | (go_simp; rfl)); (case hp => exact (Reps.none _ _)); intro v465 w13 ho14 hb hg_ hnew_; clear hg_ hnew_; (first | rw [← Ny464.out] at ho14 | (simp only [Int.reduceToNat] at ho14; rw [← Ny464.out] at ho14)); have HO466 := Aside0.mk (Kd.R_lower ho14 (below_size (below_later HB.out))); replace HB := bst HB hb; clear hb ho14))
      go_loopg [6, 21] k (fun kq v6 v21 w' => ∃ (x6_1 : List Int) (x21_1 : Int), v21 = .int .i64 x21_1 ∧ Aside0 (impl_PlainPack.l0 kq a0 x6_1 l1 (l1.length : Int) x21_1 = some (r1, r2)) ∧ Aside0 (kq ≤ k) ∧ Aside0 (Kd.R (Kd.int .u8) 5 w' w.heap.size (fun _ => True) v6 x6_1) ∧ Aside0 (Below w.heap.size w w'))
      case atStart => exact ⟨(y464), (0), sr, H', ⟨Nat.le_refl _⟩, ⟨R_later HO466.out⟩, ⟨below_later HB.out⟩⟩
      case round =>
        clear H'
        try clear c1
        try clear c4
        try clear c5
        try clear c5b0
        try clear c5b1
        obtain ⟨x6_1, x21_1, rfl, HA, HK1, HO_6, HB⟩ := hrel
        cases gk with
        | zero => exact absurd HA.out (by simp [impl_PlainPack.l0])
        | succ k1 =>
          have H := HA.out
          clear HA
          simp only [impl_PlainPack.l0] at H
          by_cases c15 : x21_1 < (l1.length : Int)
          · rw [if_pos c15] at H
            have c15b0 := decide_eq_true c15
            clear c15
            replace H := ifd H
            obtain ⟨c16b0, H⟩ := H
            replace H := ifd H
            obtain ⟨c17b0, H⟩ := H
            by_cases c18 : a0 = 6
            · rw [if_pos c18] at H
              have c18b0 : (a0 == 6) = true := beq_iff_eq.mpr c18
              have c18b1 : (a0 != 6) = false := bne_eq_false_iff_eq.mpr c18
              clear c18
              replace H := bnd H
              obtain ⟨t469, A19, H⟩ := H
              replace H := ifs H
              obtain ⟨c20, H⟩ := H
              have LMc20 := Aside0.mk c20
              clear c20
              replace H := bsm H
              obtain ⟨y472, Ny472, H⟩ := H
              replace H := ifs H
              obtain ⟨c21, H⟩ := H
              have LMc21 := Aside0.mk c21
              clear c21
              obtain ⟨y475, hy475⟩ : ∃ y_ : List Int, y_ = (y472 ++ bytesOf ((rd_T27 l1 x21_1).f1)) := ⟨_, rfl⟩
              replace H : (impl_PlainPack.l0 k1 a0 y475 l1 (l1.length : Int) (wrap64 (x21_1 + 1))) = some (r1, r2) := by first | (rw [hy475]; with_reducible exact H) | (rw [hy475]; exact H) | exact H
              have Ny475 := Aside0.mk hy475
              clear hy475
              have H' := Aside0.mk H
              clear H
              have p467 : 0 ≤ (x21_1 : Int) := dcd
              have q467 : x21_1 < (l1.length : Int) := dcd
              obtain ⟨ad467, e467, hx467_0, hx467_1⟩ := at_T27 HR1.out x21_1 p467 q467
              cases e467
              replace hx467_0 := crd HB hx467_0
              replace hx467_1 := crd HB hx467_1
              replace p467 := eq_true p467
              replace q467 := eq_true q467
              try go_wp2_with (first | ((with_reducible refine gate_dst (N := 8) rfl ?_); refine bx_ 8 #[.int .i64 0, .string (⟨#[]⟩ : ByteArray)] 27 ?_; intro gb468 hg w22 hbox hb; have BK468 := Aside0.mk (hbox); have GW468 := gwe HB hg; have GE468 := GW468; replace HO_6 := Aside0.mk (Kd.R_below (R_later HO_6.out) hb); replace HB := bst HB hb; clear hb hbox hg; obtain ⟨hcz23_0, hcz23_1, hfz23_0, hfz23_1⟩ := cl2 BK468))
              have n0_ : Aside0 (Kd.R (Kd.int .u8) 5 ((w22.setCell ⟨gb468, 0, none⟩ (.int .i64 ((rd_T27 l1 x21_1).f0))).setCell ⟨gb468, 1, none⟩ (.string ((rd_T27 l1 x21_1).f1))) w.heap.size (fun _ => True) u6 x6_1) := ⟨by (with_reducible repeat (first | apply Kd.R_alloc | apply Kd.R_drewN | apply Kd.R_drew)); exact Kd.R_mono (Kd.R_far (p := ⟨gb468, 1, none⟩) (Kd.R_far (p := ⟨gb468, 0, none⟩) (Kd.R_types HO_6.out BK468.out (by decide)) (fun _ hk => hk.2) (.int .i64 ((rd_T27 l1 x21_1).f0))) (fun _ hk => hk.2) (.string ((rd_T27 l1 x21_1).f1))) (fun _ hk => trivial)⟩
              have n1_ : Aside0 (((w22.setCell ⟨gb468, 0, none⟩ (.int .i64 ((rd_T27 l1 x21_1).f0))).setCell ⟨gb468, 1, none⟩ (.string ((rd_T27 l1 x21_1).f1))).heap[gb468]? = some (.cells #[.int .i64 ((rd_T27 l1 x21_1).f0), .string ((rd_T27 l1 x21_1).f1)] 27 (0, 0))) := ⟨blk_later BK468.out⟩
              have n2_ : Aside0 (Below w.heap.size w ((w22.setCell ⟨gb468, 0, none⟩ (.int .i64 ((rd_T27 l1 x21_1).f0))).setCell ⟨gb468, 1, none⟩ (.string ((rd_T27 l1 x21_1).f1)))) := ⟨below_later HB.out⟩
              (try clear HO_6)
              (try clear BK468)
              (try clear HB)
              generalize ((w22.setCell ⟨gb468, 0, none⟩ (.int .i64 ((rd_T27 l1 x21_1).f0))).setCell ⟨gb468, 1, none⟩ (.string ((rd_T27 l1 x21_1).f1))) = w24 at n0_ n1_ n2_ ⊢
              have HO_6 := n0_
              have BK468 := n1_
              have HB := n2_
              clear n0_ n1_ n2_
              have n0_ := Aside0.mk (Kd.R_drew HO_6.out)
              have n1_ := Aside0.mk (blk_drew BK468.out)
              have n2_ := Aside0.mk (below_drew1 HB.out)
              clear HO_6
              clear BK468
              clear HB
              have HO_6 := n0_
              have BK468 := n1_
              have HB := n2_
              clear n0_ n1_ n2_
              refine start_ (n := 10) (S := fun w' => w'.cell? ⟨gb468, 0, none⟩ = some (.int .i64 ((rd_T27 l1 x21_1).f0)) ∧ w'.cell? ⟨gb468, 1, none⟩ = some (.string ((rd_T27 l1 x21_1).f1))) (ds := []) #[false, false, false, false, false, false, false, false, false, false] (by kernel_rfl) rfl rfl ⟨(blk_cell BK468.out 0).trans rfl, (blk_cell BK468.out 1).trans rfl⟩ (fun hHeld => ?_); refine with_tabW impl_PlainPack.tab10 impl_PlainPack.bits10 (fun HT_ HW_ => ?_)
              generalize w24.drew = w25 at HO_6 BK468 HB hHeld ⊢
              refine pure_ (i := 0) (N := some 27) (v := ?_) (a' := ?_) #[true, false, false, false, false, false, false, false, false, false] rfl rfl (any_of HT_.out (by kernel_rfl)) (fun _ _ _ h => h) (Or.inl ⟨by rfl, ?_⟩) ?_ ?_
              rotate_left
              · intro w'
                go_simp
                with_reducible rfl
              rotate_left
              · simp only [Act.put, List.setIfInBounds_toArray, List.set_cons_zero, List.set_cons_succ, i64_w, i32_w]
                rfl
              refine pure_ (i := 1) (N := some 28) (v := ?_) (a' := ?_) #[true, true, false, false, false, false, false, false, false, false] rfl rfl (any_of HT_.out (by kernel_rfl)) (fun _ _ _ h => h) (Or.inl ⟨by rfl, ?_⟩) ?_ ?_
              rotate_left
              · intro w'
                go_simp
                with_reducible rfl
              rotate_left
              · simp only [Act.put, List.setIfInBounds_toArray, List.set_cons_zero, List.set_cons_succ, i64_w, i32_w]
                rfl
              refine pure_ (i := 6) (N := some 33) (v := ?_) (a' := ?_) #[true, true, false, false, false, false, true, false, false, false] rfl rfl (any_of HT_.out (by kernel_rfl)) (fun _ _ _ h => h) (Or.inl ⟨by rfl, ?_⟩) ?_ ?_
              rotate_left
              · intro w'
                go_simp
                with_reducible rfl
              rotate_left
              · simp only [Act.put, List.setIfInBounds_toArray, List.set_cons_zero, List.set_cons_succ, i64_w, i32_w]
                rfl
              refine take_ (i := 2) (N := some 29) (v := ?_) (a' := ?_) #[true, true, true, false, false, false, true, false, false, false] rfl rfl (take_ofW HT_.out HW_.out (by kernel_rfl)) (fun _ _ _ h => h) (Or.inl ⟨by rfl, ?_⟩) hHeld ?_ ?_
              rotate_left
              · rintro w' ⟨s0, s1⟩
                go_simp
                with_reducible rfl
              rotate_left
              · simp only [Act.put, List.setIfInBounds_toArray, List.set_cons_zero, List.set_cons_succ, i64_w, i32_w]
                rfl
              refine pure_ (i := 3) (N := some 30) (v := ?_) (a' := ?_) #[true, true, true, true, false, false, true, false, false, false] rfl rfl (any_of HT_.out (by kernel_rfl)) (fun _ _ _ h => h) (Or.inl ⟨by rfl, ?_⟩) ?_ ?_
              rotate_left
              · intro w'
                go_simp
                with_reducible rfl
              rotate_left
              · simp only [Act.put, List.setIfInBounds_toArray, List.set_cons_zero, List.set_cons_succ, i64_w, i32_w]
                rfl
              refine take_ (i := 7) (N := some 34) (v := ?_) (a' := ?_) #[true, true, true, true, false, false, true, true, false, false] rfl rfl (take_ofW HT_.out HW_.out (by kernel_rfl)) (fun _ _ _ h => h) (Or.inl ⟨by rfl, ?_⟩) hHeld ?_ ?_
              rotate_left
              · rintro w' ⟨s0, s1⟩
                go_simp
                with_reducible rfl
              rotate_left
              · simp only [Act.put, List.setIfInBounds_toArray, List.set_cons_zero, List.set_cons_succ, i64_w, i32_w]
                rfl
              refine one_ (i := 4) (N := some 31) #[true, true, true, true, true, false, true, true, false, false] rfl rfl (one_of HT_.out (by kernel_rfl)) (by decide) (fun K hK => ?_)
              refine goes_ Try.func64 (by kernel_rfl) rfl #[.int .i64 (((rd_T27 l1 x21_1).f1).size : Int), .int .i64 4] (by rfl) rfl rfl (by (try simp only [List.map_toArray, List.map_cons, List.map_nil]); first | done | rfl | (simp only [List.length_drop, List.length_take]; rfl)) ?_
              with_reducible refine (impl_WordPut.calls k1 (((rd_T27 l1 x21_1).f1).size : Int) 4 t469 _ A19.out).mono ?_
              rintro e w26 ⟨v470, rfl, ho0, hb⟩
              refine ⟨_, rfl, ?_⟩
              have n0_ := Aside0.mk (Kd.R_elder' (R_later HO_6.out) (Kd.R_base ho0) hb)
              have n1_ := Aside0.mk (Kd.R_lower (Kd.R_new' ho0 (Kd.R_lt (R_later HO_6.out))) (below_size (below_later HB.out)))
              have n2_ := bkb BK468 hb
              have n3_ := bst HB hb
              clear HO_6
              clear BK468
              clear HB
              have HO_6 := n0_
              have HO471 := n1_
              have BK468 := n2_
              have HB := n3_
              clear n0_ n1_ n2_ n3_
              (try clear hb)
              (try clear hb2)
              (try clear hk)
              (try clear hi)
              (try clear ho0)
              obtain ⟨Ao28, co28, eo28⟩ := Kd.R_slice HO471.out
              (first | subst eo28 | (injection eo28 with f1_ f2_ f3_; have f4_ := f1_.symm; have f5_ := f3_.symm; clear f1_ f2_ f3_; subst f4_; subst f5_))
              refine hK.out _ _ ⟨(blk_cell BK468.out 0).trans rfl, (blk_cell BK468.out 1).trans rfl⟩ (fun hHeld => ?_)
              clear hK K
              refine norm_ (a' := ?_) ?_ ?_
              rotate_left
              · show Act.put _ (some 31) _ = _
                simp only [Act.put, List.setIfInBounds_toArray, List.set_cons_zero, List.set_cons_succ, i64_w, i32_w]
                rfl
              refine one_ (i := 5) (N := some 32) #[true, true, true, true, true, true, true, true, false, false] rfl rfl (one_of HT_.out (by kernel_rfl)) (by decide) (fun K hK => ?_)
              refine Kd.R_append_rows_step (Kd.int .u8) (w0 := w) w.heap.size (by rfl) (.tmp 27) (.tmp 31) 41 5 (.int .u8 0) 1 rfl Try.underlying41 info5 rfl (by decide) (by omega) u6 x6_1 t469 _ _ _ (fun k_ => some k_ ≠ (.slice Ao28 t469.length co28 : Value).ownBlock) (fun _ => False) rfl rfl ?aO ?aR (fun _ _ h => h) (fun _ h => h.elim) ?aF ?aB ?aS ?aL ?_
              (case aR => repeat (first | exact (Kd.R_reads' HO471.out).2.2 | (with_reducible refine Kd.C_alloc ?_ _) | (with_reducible refine Kd.C_drewN ?_ _) | (with_reducible refine Kd.C_drew ?_)))
              (case aB => exact (below_later HB.out))
              (case aF => exact (fun k_ hk => Kd.fresh' (Kd.R_lt (R_later HO471.out)) k_ hk))
              (case aO => exact (by (with_reducible repeat (first | apply Kd.R_alloc | apply Kd.R_drewN | apply Kd.R_drew)); exact Kd.R_mono HO_6.out (fun _ hk => hk.2)))
              (case aS => exact (below_size (below_later HB.out)))
              (case aL => have := LMc20.out; omega)
              intro v473 w27 ho hb hg hat
              rw [← Ny472.out] at ho
              have n0_ := Aside0.mk (blk_grown (blk_later BK468.out) hg (Kd.R_ne HO_6.out BK468.out (by decide)))
              have n1_ := Aside0.mk (Kd.R_after (ok := (fun _ => True)) (R_later HO471.out) hg hat)
              have n2_ := Aside0.mk (hb)
              have n3_ := Aside0.mk (ho)
              clear BK468
              clear HO471
              clear HB
              clear HO_6
              have BK468 := n0_
              have HO471 := n1_
              have HB := n2_
              have HO474 := n3_
              clear n0_ n1_ n2_ n3_
              clear ho hb hg hat
              refine hK.out _ _ ⟨(blk_cell BK468.out 0).trans rfl, (blk_cell BK468.out 1).trans rfl⟩ (fun hHeld => ?_)
              clear hK K
              refine norm_ (a' := ?_) ?_ ?_
              rotate_left
              · show Act.put _ (some 32) _ = _
                simp only [Act.put, List.setIfInBounds_toArray, List.set_cons_zero, List.set_cons_succ, i64_w, i32_w]
                rfl
              refine one_ (i := 8) (N := some 35) #[true, true, true, true, true, true, true, true, true, false] rfl rfl (one_of HT_.out (by kernel_rfl)) (by decide) (fun K hK => ?_)
              refine Go.Proofs.YtgiljoeekpfpmaaW.PrintMore2.R_append_str_step (w0 := w) w.heap.size (by rfl) (.tmp 32) _ 41 9 5 rfl Try.underlying41 Try.underlying9 info5 v473 y472 ((rd_T27 l1 x21_1).f1) (fun k_ => some k_ ≠ (.slice Ao28 t469.length co28 : Value).ownBlock) rfl rfl ?aO ?aF ?aB ?aS ?aL ?_
              (case aB => exact (below_later HB.out))
              (case aF => exact (fun k_ hk => Kd.fresh' (Kd.R_lt (R_later HO471.out)) k_ hk))
              (case aO => exact (R_later HO474.out))
              (case aS => exact (below_size (below_later HB.out)))
              (case aL => have := LMc21.out; omega)
              intro v476 w29 ho hb hg hat
              rw [← Ny475.out] at ho
              have n0_ := Aside0.mk (blk_grown (blk_later BK468.out) hg (Kd.R_ne HO474.out BK468.out (by decide)))
              have n1_ := Aside0.mk (Kd.R_after (ok := (fun _ => True)) (R_later HO471.out) hg hat)
              have n2_ := Aside0.mk (hb)
              have n3_ := Aside0.mk (ho)
              clear BK468
              clear HO471
              clear HB
              clear HO474
              have BK468 := n0_
              have HO471 := n1_
              have HB := n2_
              have HO477 := n3_
              clear n0_ n1_ n2_ n3_
              clear ho hb hg hat
              refine hK.out _ _ ⟨(blk_cell BK468.out 0).trans rfl, (blk_cell BK468.out 1).trans rfl⟩ (fun hHeld => ?_)
              clear hK K
              refine norm_ (a' := ?_) ?_ ?_
              rotate_left
              · show Act.put _ (some 35) _ = _
                simp only [Act.put, List.setIfInBounds_toArray, List.set_cons_zero, List.set_cons_succ, i64_w, i32_w]
                rfl
              refine pure_ (i := 9) (N := some 6) (v := ?_) (a' := ?_) #[true, true, true, true, true, true, true, true, true, true] rfl rfl (any_of HT_.out (by kernel_rfl)) (fun _ _ _ h => h) (Or.inl ⟨by rfl, ?_⟩) ?_ ?_
              rotate_left
              · intro w'
                go_simp
                with_reducible rfl
              rotate_left
              · simp only [Act.put, List.setIfInBounds_toArray, List.set_cons_zero, List.set_cons_succ, i64_w, i32_w]
                rfl
              refine done_ (done_of HT_.out (by kernel_rfl)) ?_
              try go_wp2
              go_roundg k1
              case measure => have := HK1.out; omega
              case rel => exact ⟨(y475), (wrap64 (x21_1 + 1)), sr, H', ⟨by have := HK1.out; omega⟩, ⟨R_later (Kd.R_mono HO477.out (fun _ hk => trivial))⟩, ⟨below_later HB.out⟩⟩
            · rw [if_neg c18] at H
              have c18b0 : (a0 == 6) = false := beq_eq_false_iff_ne.mpr c18
              have c18b1 : (a0 != 6) = true := bne_iff_ne.mpr c18
              replace H := bnd H
              obtain ⟨t478, A30, H⟩ := H
              replace H := bnd H
              obtain ⟨t479, A31, H⟩ := H
              replace H := ifs H
              obtain ⟨c32, H⟩ := H
              have LMc32 := Aside0.mk c32
              clear c32
              obtain ⟨y482, hy482⟩ : ∃ y_ : List Int, y_ = (x6_1 ++ t479) := ⟨_, rfl⟩
              replace H : (impl_PlainPack.l0 k1 a0 y482 l1 (l1.length : Int) (wrap64 (x21_1 + 1))) = some (r1, r2) := by first | (rw [hy482]; with_reducible exact H) | (rw [hy482]; exact H) | exact H
              have Ny482 := Aside0.mk hy482
              clear hy482
              have H' := Aside0.mk H
              clear H
              have p467 : 0 ≤ (x21_1 : Int) := dcd
              have q467 : x21_1 < (l1.length : Int) := dcd
              obtain ⟨ad467, e467, hx467_0, hx467_1⟩ := at_T27 HR1.out x21_1 p467 q467
              cases e467
              replace hx467_0 := crd HB hx467_0
              replace hx467_1 := crd HB hx467_1
              replace p467 := eq_true p467
              replace q467 := eq_true q467
              try go_wp2_with (first | ((with_reducible refine gate_dst (N := 8) rfl ?_); refine bx_ 8 #[.int .i64 0, .string (⟨#[]⟩ : ByteArray)] 27 ?_; intro gb468 hg w33 hbox hb; have BK468 := Aside0.mk (hbox); have GW468 := gwe HB hg; have GE468 := GW468; replace HO_6 := Aside0.mk (Kd.R_below (R_later HO_6.out) hb); replace HB := bst HB hb; clear hb hbox hg; obtain ⟨hcz34_0, hcz34_1, hfz34_0, hfz34_1⟩ := cl2 BK468))
              have n0_ : Aside0 (Kd.R (Kd.int .u8) 5 ((w33.setCell ⟨gb468, 0, none⟩ (.int .i64 ((rd_T27 l1 x21_1).f0))).setCell ⟨gb468, 1, none⟩ (.string ((rd_T27 l1 x21_1).f1))) w.heap.size (fun _ => True) u6 x6_1) := ⟨by (with_reducible repeat (first | apply Kd.R_alloc | apply Kd.R_drewN | apply Kd.R_drew)); exact Kd.R_mono (Kd.R_far (p := ⟨gb468, 1, none⟩) (Kd.R_far (p := ⟨gb468, 0, none⟩) (Kd.R_types HO_6.out BK468.out (by decide)) (fun _ hk => hk.2) (.int .i64 ((rd_T27 l1 x21_1).f0))) (fun _ hk => hk.2) (.string ((rd_T27 l1 x21_1).f1))) (fun _ hk => trivial)⟩
              have n1_ : Aside0 (((w33.setCell ⟨gb468, 0, none⟩ (.int .i64 ((rd_T27 l1 x21_1).f0))).setCell ⟨gb468, 1, none⟩ (.string ((rd_T27 l1 x21_1).f1))).heap[gb468]? = some (.cells #[.int .i64 ((rd_T27 l1 x21_1).f0), .string ((rd_T27 l1 x21_1).f1)] 27 (0, 0))) := ⟨blk_later BK468.out⟩
              have n2_ : Aside0 (Below w.heap.size w ((w33.setCell ⟨gb468, 0, none⟩ (.int .i64 ((rd_T27 l1 x21_1).f0))).setCell ⟨gb468, 1, none⟩ (.string ((rd_T27 l1 x21_1).f1)))) := ⟨below_later HB.out⟩
              (try clear HO_6)
              (try clear BK468)
              (try clear HB)
              generalize ((w33.setCell ⟨gb468, 0, none⟩ (.int .i64 ((rd_T27 l1 x21_1).f0))).setCell ⟨gb468, 1, none⟩ (.string ((rd_T27 l1 x21_1).f1))) = w35 at n0_ n1_ n2_ ⊢
              have HO_6 := n0_
              have BK468 := n1_
              have HB := n2_
              clear n0_ n1_ n2_
              have n0_ := Aside0.mk (Kd.R_drew HO_6.out)
              have n1_ := Aside0.mk (blk_drew BK468.out)
              have n2_ := Aside0.mk (below_drew1 HB.out)
              clear HO_6
              clear BK468
              clear HB
              have HO_6 := n0_
              have BK468 := n1_
              have HB := n2_
              clear n0_ n1_ n2_
              refine start_ (n := 8) (S := fun w' => w'.cell? ⟨gb468, 0, none⟩ = some (.int .i64 ((rd_T27 l1 x21_1).f0)) ∧ w'.cell? ⟨gb468, 1, none⟩ = some (.string ((rd_T27 l1 x21_1).f1))) (ds := []) #[false, false, false, false, false, false, false, false] (by kernel_rfl) rfl rfl ⟨(blk_cell BK468.out 0).trans rfl, (blk_cell BK468.out 1).trans rfl⟩ (fun hHeld => ?_); refine with_tabW impl_PlainPack.tab11 impl_PlainPack.bits11 (fun HT_ HW_ => ?_)
              generalize w35.drew = w36 at HO_6 BK468 HB hHeld ⊢
              refine pure_ (i := 0) (N := some 36) (v := ?_) (a' := ?_) #[true, false, false, false, false, false, false, false] rfl rfl (any_of HT_.out (by kernel_rfl)) (fun _ _ _ h => h) (Or.inl ⟨by rfl, ?_⟩) ?_ ?_
              rotate_left
              · intro w'
                go_simp
                with_reducible rfl
              rotate_left
              · simp only [Act.put, List.setIfInBounds_toArray, List.set_cons_zero, List.set_cons_succ, i64_w, i32_w]
                rfl
              refine pure_ (i := 1) (N := some 37) (v := ?_) (a' := ?_) #[true, true, false, false, false, false, false, false] rfl rfl (any_of HT_.out (by kernel_rfl)) (fun _ _ _ h => h) (Or.inl ⟨by rfl, ?_⟩) ?_ ?_
              rotate_left
              · intro w'
                go_simp
                with_reducible rfl
              rotate_left
              · simp only [Act.put, List.setIfInBounds_toArray, List.set_cons_zero, List.set_cons_succ, i64_w, i32_w]
                rfl
              refine pure_ (i := 3) (N := some 39) (v := ?_) (a' := ?_) #[true, true, false, true, false, false, false, false] rfl rfl (any_of HT_.out (by kernel_rfl)) (fun _ _ _ h => h) (Or.inl ⟨by rfl, ?_⟩) ?_ ?_
              rotate_left
              · intro w'
                go_simp
                with_reducible rfl
              rotate_left
              · simp only [Act.put, List.setIfInBounds_toArray, List.set_cons_zero, List.set_cons_succ, i64_w, i32_w]
                rfl
              refine take_ (i := 2) (N := some 38) (v := ?_) (a' := ?_) #[true, true, true, true, false, false, false, false] rfl rfl (take_ofW HT_.out HW_.out (by kernel_rfl)) (fun _ _ _ h => h) (Or.inl ⟨by rfl, ?_⟩) hHeld ?_ ?_
              rotate_left
              · rintro w' ⟨s0, s1⟩
                go_simp
                with_reducible rfl
              rotate_left
              · simp only [Act.put, List.setIfInBounds_toArray, List.set_cons_zero, List.set_cons_succ, i64_w, i32_w]
                rfl
              refine one_ (i := 4) (N := some 40) #[true, true, true, true, true, false, false, false] rfl rfl (one_of HT_.out (by kernel_rfl)) (by decide) (fun K hK => ?_)
              refine goes_ Try.func65 (by kernel_rfl) rfl #[.int .i64 a0] (by rfl) rfl rfl (by (try simp only [List.map_toArray, List.map_cons, List.map_nil]); first | done | rfl | (simp only [List.length_drop, List.length_take]; rfl)) ?_
              with_reducible refine (impl_wideOf.calls a0 t478 _ A30.out).mono ?_
              rintro e w' ⟨rfl, ⟨nd, rfl⟩⟩
              refine ⟨_, rfl, ?_⟩
              refine hK.out _ _ ⟨(blk_cell BK468.out 0).trans rfl, (blk_cell BK468.out 1).trans rfl⟩ (fun hHeld => ?_)
              clear hK K
              refine norm_ (a' := ?_) ?_ ?_
              rotate_left
              · show Act.put _ (some 40) _ = _
                simp only [Act.put, List.setIfInBounds_toArray, List.set_cons_zero, List.set_cons_succ, i64_w, i32_w]
                rfl
              refine one_ (i := 5) (N := some 41) #[true, true, true, true, true, true, false, false] rfl rfl (one_of HT_.out (by kernel_rfl)) (by decide) (fun K hK => ?_)
              refine goes_ Try.func64 (by kernel_rfl) rfl #[.int .i64 ((rd_T27 l1 x21_1).f0), .int .i64 t478] (by rfl) rfl rfl (by (try simp only [List.map_toArray, List.map_cons, List.map_nil]); first | done | rfl | (simp only [List.length_drop, List.length_take]; rfl)) ?_
              with_reducible refine (impl_WordPut.calls k1 ((rd_T27 l1 x21_1).f0) t478 t479 _ A31.out).mono ?_
              rintro e w37 ⟨v480, rfl, ho0, hb⟩
              refine ⟨_, rfl, ?_⟩
              have n0_ := Aside0.mk (Kd.R_elder' (R_later HO_6.out) (Kd.R_base ho0) hb)
              have n1_ := Aside0.mk (Kd.R_lower (Kd.R_new' ho0 (Kd.R_lt (R_later HO_6.out))) (below_size (below_later HB.out)))
              have n2_ := bkb BK468 hb
              have n3_ := bst HB hb
              clear HO_6
              clear BK468
              clear HB
              have HO_6 := n0_
              have HO481 := n1_
              have BK468 := n2_
              have HB := n3_
              clear n0_ n1_ n2_ n3_
              (try clear hb)
              (try clear hb2)
              (try clear hk)
              (try clear hi)
              (try clear ho0)
              obtain ⟨Ao39, co39, eo39⟩ := Kd.R_slice HO481.out
              (first | subst eo39 | (injection eo39 with f1_ f2_ f3_; have f4_ := f1_.symm; have f5_ := f3_.symm; clear f1_ f2_ f3_; subst f4_; subst f5_))
              refine hK.out _ _ ⟨(blk_cell BK468.out 0).trans rfl, (blk_cell BK468.out 1).trans rfl⟩ (fun hHeld => ?_)
              clear hK K
              refine norm_ (a' := ?_) ?_ ?_
              rotate_left
              · show Act.put _ (some 41) _ = _
                simp only [Act.put, List.setIfInBounds_toArray, List.set_cons_zero, List.set_cons_succ, i64_w, i32_w]
                rfl
              refine one_ (i := 6) (N := some 42) #[true, true, true, true, true, true, true, false] rfl rfl (one_of HT_.out (by kernel_rfl)) (by decide) (fun K hK => ?_)
              refine Kd.R_append_rows_step (Kd.int .u8) (w0 := w) w.heap.size (by rfl) (.tmp 36) (.tmp 41) 41 5 (.int .u8 0) 1 rfl Try.underlying41 info5 rfl (by decide) (by omega) u6 x6_1 t479 _ _ _ (fun k_ => some k_ ≠ (.slice Ao39 t479.length co39 : Value).ownBlock) (fun _ => False) rfl rfl ?aO ?aR (fun _ _ h => h) (fun _ h => h.elim) ?aF ?aB ?aS ?aL ?_
              (case aR => repeat (first | exact (Kd.R_reads' HO481.out).2.2 | (with_reducible refine Kd.C_alloc ?_ _) | (with_reducible refine Kd.C_drewN ?_ _) | (with_reducible refine Kd.C_drew ?_)))
              (case aB => exact (below_later HB.out))
              (case aF => exact (fun k_ hk => Kd.fresh' (Kd.R_lt (R_later HO481.out)) k_ hk))
              (case aO => exact (by (with_reducible repeat (first | apply Kd.R_alloc | apply Kd.R_drewN | apply Kd.R_drew)); exact Kd.R_mono HO_6.out (fun _ hk => hk.2)))
              (case aS => exact (below_size (below_later HB.out)))
              (case aL => have := LMc32.out; omega)
              intro v483 w38 ho hb hg hat
              rw [← Ny482.out] at ho
              have n0_ := Aside0.mk (blk_grown (blk_later BK468.out) hg (Kd.R_ne HO_6.out BK468.out (by decide)))
              have n1_ := Aside0.mk (Kd.R_after (ok := (fun _ => True)) (R_later HO481.out) hg hat)
              have n2_ := Aside0.mk (hb)
              have n3_ := Aside0.mk (ho)
              clear BK468
              clear HO481
              clear HB
              clear HO_6
              have BK468 := n0_
              have HO481 := n1_
              have HB := n2_
              have HO484 := n3_
              clear n0_ n1_ n2_ n3_
              clear ho hb hg hat
              refine hK.out _ _ ⟨(blk_cell BK468.out 0).trans rfl, (blk_cell BK468.out 1).trans rfl⟩ (fun hHeld => ?_)
              clear hK K
              refine norm_ (a' := ?_) ?_ ?_
              rotate_left
              · show Act.put _ (some 42) _ = _
                simp only [Act.put, List.setIfInBounds_toArray, List.set_cons_zero, List.set_cons_succ, i64_w, i32_w]
                rfl
              refine pure_ (i := 7) (N := some 6) (v := ?_) (a' := ?_) #[true, true, true, true, true, true, true, true] rfl rfl (any_of HT_.out (by kernel_rfl)) (fun _ _ _ h => h) (Or.inl ⟨by rfl, ?_⟩) ?_ ?_
              rotate_left
              · intro w'
                go_simp
                with_reducible rfl
              rotate_left
              · simp only [Act.put, List.setIfInBounds_toArray, List.set_cons_zero, List.set_cons_succ, i64_w, i32_w]
                rfl
              refine done_ (done_of HT_.out (by kernel_rfl)) ?_
              try go_wp2
              go_roundg k1
              case measure => have := HK1.out; omega
              case rel => exact ⟨(y482), (wrap64 (x21_1 + 1)), sr, H', ⟨by have := HK1.out; omega⟩, ⟨R_later (Kd.R_mono HO484.out (fun _ hk => trivial))⟩, ⟨below_later HB.out⟩⟩
          · rw [if_neg c15] at H
            have c15b0 := decide_eq_false c15
            clear c15
            simp only [Option.some.injEq, Prod.mk.injEq] at H
            obtain ⟨rfl, rfl⟩ := H
            go_wp2
            go_ret2
            exact ⟨_, by first | rfl | (simp [errW_none, errW_some] <;> rfl) | (simp [*, errW_none, errW_some] <;> rfl), by (with_reducible repeat (first | apply Kd.R_alloc | apply Kd.R_drewN | apply Kd.R_drew)); exact HO_6.out, below_later HB.out⟩
  · replace c4 := Bool.eq_false_iff.mpr c4
    subst c4
    replace H := ifn Bool.false_ne_true H
    simp only [Option.some.injEq, Prod.mk.injEq] at H
    obtain ⟨rfl, rfl⟩ := H
    go_enter Try.func36, Try.ntmps36
    go_wp2_with (first | ((with_reducible refine gate_callee (f := 61) rfl ?_); refine gl_ (some 11) Try.func61 #[.int .i64 a0, .slice A1 l1.length c1] rfl ?_; (with_reducible refine (impl_valsOk.calls k a0 _ _ l1 false _ ?side1 ?side2 A3.out).mono ?_); (case side1 => exact C_later HR1.out); (case side2 => exact HC1.out); rintro e w40 ⟨rfl, hb⟩; refine ⟨_, rfl, ?_⟩; replace HB := bst HB hb; (try clear hb)))
    go_ret2
    exact ⟨_, by first | rfl | (simp [errW_none, errW_some] <;> rfl) | (simp [*, errW_none, errW_some] <;> rfl), by first | exact Kd.R_nil _ _ _ _ _ | exact Kd.N_nil _ _ _ _ _ | exact Kd.V_nil _ _ _ _ _ | exact Kd.Q_nil _ _ _ _ _ | exact Kd.S_nil _ _ _ _ _, below_later HB.out⟩

/-! ### impl_statText: function 79 -/
def impl_statText.f (k : Nat) (a0 : Int) (a1_0 : Int) (a1_1 : ByteArray) : Option (ByteArray) := if a0 = 6 then (some a1_1) else ((impl_PlainPack.f k a0 (([(⟨a1_0, a1_1⟩ : S27)] : List (S27)))).bind fun bt489 => (some (strOfNums bt489.1)))
set_option maxHeartbeats 8000000 in
set_option maxRecDepth 100000 in
theorem impl_statText.calls (k : Nat) (a0 : Int) (a1_0 : Int) (a1_1 : ByteArray) (r : ByteArray) (w : World) (h : impl_statText.f k a0 a1_0 a1_1 = some r) :
    Calls Try.prog 79 #[.int .i64 a0, .agg #[.int .i64 a1_0, .string a1_1]] w fun e w' => e = .returned (.string r) ∧ Below w.heap.size w w' := by
  have hu27 := Try.underlying27
  have HB := Aside0.mk (Below.refl w.heap.size w)
  have H : (if a0 = 6 then (some a1_1) else ((impl_PlainPack.f k a0 (([(⟨a1_0, a1_1⟩ : S27)] : List (S27)))).bind fun bt489 => (some (strOfNums bt489.1)))) = some r := h
  clear h
  by_cases c3 : a0 = 6
  · rw [if_pos c3] at H
    have c3b0 : (a0 == 6) = true := beq_iff_eq.mpr c3
    have c3b1 : (a0 != 6) = false := bne_eq_false_iff_eq.mpr c3
    clear c3
    obtain rfl := Option.some.inj H
    go_enter Try.func79, Try.ntmps79
    go_wp2_with (first | ((with_reducible refine gate_dst (N := 3) rfl ?_); refine bx_ 3 #[.int .i64 a1_0, .string a1_1] 27 ?_; intro gb485 hg w4 hbox hb; have BK485 := Aside0.mk (hbox); have GW485 := gwe HB hg; have GE485 := GW485; replace HB := bst HB hb; clear hb hbox hg; obtain ⟨hcz5_0, hcz5_1, hfz5_0, hfz5_1⟩ := cl2 BK485))
    go_ret
    exact fin_ (below_later HB.out)
  · rw [if_neg c3] at H
    have c3b0 : (a0 == 6) = false := beq_eq_false_iff_ne.mpr c3
    have c3b1 : (a0 != 6) = true := bne_iff_ne.mpr c3
    obtain ⟨y486, hy486⟩ : ∃ y_ : List (S27), y_ = (([(⟨a1_0, a1_1⟩ : S27)] : List (S27))) := ⟨_, rfl⟩
    replace H : ((impl_PlainPack.f k a0 y486).bind fun bt489 => (some (strOfNums bt489.1))) = some r := by first | (rw [hy486]; with_reducible exact H) | (rw [hy486]; exact H) | exact H
    have Ny486 := Aside0.mk hy486
    clear hy486
    replace H := Option.bind_eq_some_iff.mp H
    obtain ⟨⟨t489, t490⟩, A60, H⟩ := H
    replace H : (some (strOfNums t489)) = some r := H
    have A6 := Aside0.mk A60
    clear A60
    obtain rfl := Option.some.inj H
    go_enter Try.func79, Try.ntmps79
    go_wp2_with (first | ((with_reducible refine gate_dst (N := 3) rfl ?_); refine bx_ 3 #[.int .i64 a1_0, .string a1_1] 27 ?_; intro gb485 hg w7 hbox hb; have BK485 := Aside0.mk (hbox); have GW485 := gwe HB hg; have GE485 := GW485; replace HB := bst HB hb; clear hb hbox hg; obtain ⟨hcz8_0, hcz8_1, hfz8_0, hfz8_1⟩ := cl2 BK485) | ((with_reducible refine gate_dst (N := 14) rfl ?_); refine Kd.R_lit k27 _ 27 ?hg (N := 14) ?hd (xs := ([(⟨a1_0, a1_1⟩ : S27)] : List (S27))) (inner := [.int .i64 a1_0, .string a1_1]) (ok := fun _ => True) (okp := fun _ => True) ?hr ?hp (fun _ hk => hk) trivial (Below.refl _ _) (Nat.le_refl _) (by simp) ?_; (case hd => rfl); (case hg => rfl); (case hr => first | (go_simp; done) | (go_simp; rfl)); (case hp => exact (Reps.c2 (show Kd.M k27 _ _ _ (⟨a1_0, a1_1⟩ : S27) [.int .i64 a1_0, .string a1_1] from (k27_mkM _ _ _ (⟨a1_0, a1_1⟩ : S27) )) (Reps.none _ _))); intro v487 w9 ho10 hb hg_ hnew_; clear hg_ hnew_; (first | rw [← Ny486.out] at ho10 | (simp only [Int.reduceToNat] at ho10; rw [← Ny486.out] at ho10)); have HO488 := Aside0.mk (Kd.R_lower (Kd.R_newB ho10 (blk_later BK485.out)) (below_size (below_later HB.out))); replace BK485 := bkb BK485 hb; replace HB := bst HB hb; clear hb ho10; obtain ⟨Ao11, co11, eo11⟩ := Kd.R_slice HO488.out; subst eo11) | ((with_reducible refine gate_callee (f := 36) rfl ?_); refine gl_ (some 15) Try.func36 #[.int .i64 a0, .slice Ao11 y486.length co11] rfl ?_; (with_reducible refine (impl_PlainPack.calls k a0 _ _ y486 t489 t490 _ ?side1 ?side2 A6.out).mono ?_); (case side1 => repeat (first | exact (Kd.R_reads' HO488.out).2.2 | (with_reducible refine Kd.C_alloc ?_ _) | (with_reducible refine Kd.C_drewN ?_ _) | (with_reducible refine Kd.C_drew ?_))); (case side2 => exact (Kd.R_reads' HO488.out).2.1); rintro e w12 ⟨v491, rfl, ho0, hb⟩; refine ⟨_, rfl, ?_⟩; have HO492 := Aside0.mk (Kd.R_lower ho0 (below_size (below_later HB.out))); replace HO488 := Aside0.mk (Kd.R_below (R_later HO488.out) hb); replace BK485 := bkb BK485 hb; replace HB := bst HB hb; (try clear hb); (try clear hk); (try clear ho0); have hcv13 := own_string (P := Try.prog) Try.underlying41 Try.underlying5 Try.underlying9 (Kd.own_of_R HO492.out)))
    go_ret
    exact fin_ (below_later HB.out)

/-! ### impl_valueOf: function 54 -/
def impl_valueOf.f (k : Nat) (a0 : Int) (a1 : ByteArray) : Option (Int × ByteArray × Bool) := if a0 = 6 then ((impl_ValOk.f a0 0 a1).bind fun t494 => (some (0, a1, t494))) else (if a1.size < 140737488355328 then ((impl_PlainRead.f k a0 (bytesOf a1) 0 1).bind fun bt499 => (if bt499.2.2 = true then (if bt499.2.1 = (a1.size : Int) then (if 0 < (bt499.1.length : Int) then ((impl_statText.f k a0 ((rd_T27 bt499.1 0).f0) ((rd_T27 bt499.1 0).f1)).bind fun t505 => (if t505.toList = a1.toList then (some ((rd_T27 bt499.1 0).f0, (rd_T27 bt499.1 0).f1, true)) else (some (0, (⟨#[]⟩ : ByteArray), false)))) else (none)) else (some (0, (⟨#[]⟩ : ByteArray), false))) else (some (0, (⟨#[]⟩ : ByteArray), false)))) else (none))
set_option maxHeartbeats 8000000 in
set_option maxRecDepth 100000 in
theorem impl_valueOf.calls (k : Nat) (a0 : Int) (a1 : ByteArray) (r1 : Int) (r2 : ByteArray) (r3 : Bool) (w : World) (h : impl_valueOf.f k a0 a1 = some (r1, r2, r3)) :
    Calls Try.prog 54 #[.int .i64 a0, .string a1] w fun e w' => e = .returned (.tuple #[.agg #[.int .i64 r1, .string r2], .bool r3]) ∧ Below w.heap.size w w' := by
  have hu27 := Try.underlying27
  have HB := Aside0.mk (Below.refl w.heap.size w)
  have H : (if a0 = 6 then ((impl_ValOk.f a0 0 a1).bind fun t494 => (some (0, a1, t494))) else (if a1.size < 140737488355328 then ((impl_PlainRead.f k a0 (bytesOf a1) 0 1).bind fun bt499 => (if bt499.2.2 = true then (if bt499.2.1 = (a1.size : Int) then (if 0 < (bt499.1.length : Int) then ((impl_statText.f k a0 ((rd_T27 bt499.1 0).f0) ((rd_T27 bt499.1 0).f1)).bind fun t505 => (if t505.toList = a1.toList then (some ((rd_T27 bt499.1 0).f0, (rd_T27 bt499.1 0).f1, true)) else (some (0, (⟨#[]⟩ : ByteArray), false)))) else (none)) else (some (0, (⟨#[]⟩ : ByteArray), false))) else (some (0, (⟨#[]⟩ : ByteArray), false)))) else (none))) = some (r1, r2, r3) := h
  clear h
  by_cases c3 : a0 = 6
  · rw [if_pos c3] at H
    have c3b0 : (a0 == 6) = true := beq_iff_eq.mpr c3
    have c3b1 : (a0 != 6) = false := bne_eq_false_iff_eq.mpr c3
    clear c3
    replace H := bnd H
    obtain ⟨t494, A4, H⟩ := H
    simp only [Option.some.injEq, Prod.mk.injEq] at H
    obtain ⟨rfl, rfl, rfl⟩ := H
    go_enter Try.func54, Try.ntmps54
    go_wp2_with (first | ((with_reducible refine gate_dst (N := 4) rfl ?_); (try (refine gate_guard (by rfl) ?_; dsimp only)); refine bx_ 4 #[.int .i64 0, .string (⟨#[]⟩ : ByteArray)] 27 ?_; intro gb493 hg w5 hbox hb; have BK493 := Aside0.mk (hbox); have GW493 := gwe HB hg; have GE493 := GW493; replace HB := bst HB hb; clear hb hbox hg) | ((with_reducible refine gate_callee (f := 77) rfl ?_); refine gl_ (some 16) Try.func77 #[.int .i64 a0, .agg #[.int .i64 0, .string a1]] rfl ?_; (with_reducible refine (impl_ValOk.calls a0 0 a1 t494 _ A4.out).mono ?_); rintro e w6 ⟨rfl, hb⟩; refine ⟨_, rfl, ?_⟩; replace BK493 := bkb BK493 hb; replace HB := bst HB hb; (try clear hb); obtain ⟨hcz7_0, hcz7_1, hfz7_0, hfz7_1⟩ := cl2 BK493))
    refine bodyPost_ret (results_ct rfl _ _ gb493 27 #[.int .i64 0, .string a1] (0, 0) _ rfl (by (with_reducible repeat (first | refine blk_drewN ?_ _ | refine blk_drew ?_ | refine blk_alloc ?_ _)); refine blk_put (cs := #[.int .i64 0, .string (⟨#[]⟩ : ByteArray)]) ?_ 1 _ rfl; (with_reducible repeat (first | refine blk_drewN ?_ _ | refine blk_drew ?_ | refine blk_alloc ?_ _)); refine blk_put (cs := #[.int .i64 0, .string (⟨#[]⟩ : ByteArray)]) ?_ 0 _ rfl; (with_reducible repeat (first | refine blk_drewN ?_ _ | refine blk_drew ?_ | refine blk_alloc ?_ _)); exact BK493.out) Try.underlying27 rfl (by kernel_rfl)) rfl ?_
    exact fin_ (below_later HB.out)
  · rw [if_neg c3] at H
    have c3b0 : (a0 == 6) = false := beq_eq_false_iff_ne.mpr c3
    have c3b1 : (a0 != 6) = true := bne_iff_ne.mpr c3
    replace H := ifs H
    obtain ⟨c8, H⟩ := H
    have LMc8 := Aside0.mk c8
    clear c8
    obtain ⟨y495, hy495⟩ : ∃ y_ : List Int, y_ = (bytesOf a1) := ⟨_, rfl⟩
    replace H : ((impl_PlainRead.f k a0 y495 0 1).bind fun bt499 => (if bt499.2.2 = true then (if bt499.2.1 = (a1.size : Int) then (if 0 < (bt499.1.length : Int) then ((impl_statText.f k a0 ((rd_T27 bt499.1 0).f0) ((rd_T27 bt499.1 0).f1)).bind fun t505 => (if t505.toList = a1.toList then (some ((rd_T27 bt499.1 0).f0, (rd_T27 bt499.1 0).f1, true)) else (some (0, (⟨#[]⟩ : ByteArray), false)))) else (none)) else (some (0, (⟨#[]⟩ : ByteArray), false))) else (some (0, (⟨#[]⟩ : ByteArray), false)))) = some (r1, r2, r3) := by first | (rw [hy495]; with_reducible exact H) | (rw [hy495]; exact H) | exact H
    have Ny495 := Aside0.mk hy495
    clear hy495
    replace H := Option.bind_eq_some_iff.mp H
    obtain ⟨⟨t499, t500, t501⟩, A90, H⟩ := H
    replace H : (if t501 = true then (if t500 = (a1.size : Int) then (if 0 < (t499.length : Int) then ((impl_statText.f k a0 ((rd_T27 t499 0).f0) ((rd_T27 t499 0).f1)).bind fun t505 => (if t505.toList = a1.toList then (some ((rd_T27 t499 0).f0, (rd_T27 t499 0).f1, true)) else (some (0, (⟨#[]⟩ : ByteArray), false)))) else (none)) else (some (0, (⟨#[]⟩ : ByteArray), false))) else (some (0, (⟨#[]⟩ : ByteArray), false))) = some (r1, r2, r3) := H
    have A9 := Aside0.mk A90
    clear A90
    by_cases c10 : t501 = true
    · subst c10
      replace H := ifp rfl H
      by_cases c11 : t500 = (a1.size : Int)
      · rw [if_pos c11] at H
        have c11b0 : (t500 == (a1.size : Int)) = true := beq_iff_eq.mpr c11
        have c11b1 : (t500 != (a1.size : Int)) = false := bne_eq_false_iff_eq.mpr c11
        clear c11
        replace H := ifs H
        obtain ⟨c12, H⟩ := H
        have c12b0 := decide_eq_true c12
        have c12b1 : decide (0 < t499.length) = true := decide_eq_true (by omega)
        clear c12
        replace H := bnd H
        obtain ⟨t505, A13, H⟩ := H
        by_cases c14 : t505.toList = a1.toList
        · rw [if_pos c14] at H
          have c14b0 : (t505.toList == a1.toList) = true := beq_iff_eq.mpr c14
          have c14b1 : (t505.toList != a1.toList) = false := bne_eq_false_iff_eq.mpr c14
          clear c14
          simp only [Option.some.injEq, Prod.mk.injEq] at H
          obtain ⟨rfl, rfl, rfl⟩ := H
          go_enter Try.func54, Try.ntmps54
          go_wp2_with (first | ((with_reducible refine gate_dst (N := 4) rfl ?_); (try (refine gate_guard (by rfl) ?_; dsimp only)); refine bx_ 4 #[.int .i64 0, .string (⟨#[]⟩ : ByteArray)] 27 ?_; intro gb493 hg w15 hbox hb; have BK493 := Aside0.mk (hbox); have GW493 := gwe HB hg; have GE493 := GW493; replace HB := bst HB hb; clear hb hbox hg) | ((with_reducible refine gate_dst (N := 20) rfl ?_); (try (refine gate_guard (by rfl) ?_; dsimp only)); refine Go.Proofs.YtgiljoeekpfpmaaW.PrintMore2.conv_seen rfl (N := 20) rfl 9 41 5 _ rfl Try.underlying9 Try.underlying41 Try.underlying5 a1 rfl (by have := LMc8.out; omega) y495 Ny495.out ?_; intro Av17 cv17 w16 hr_ hc_ hb; replace BK493 := bkb BK493 hb; replace HB := bst HB hb; have HR498 := Aside0.mk hr_; have HC498 := Aside0.mk hc_; clear hr_ hc_ hb) | ((with_reducible refine gate_callee (f := 78) rfl ?_); refine gl_ (some 21) Try.func78 #[.int .i64 a0, .slice Av17 y495.length cv17, .int .i64 0, .int .i64 1] rfl ?_; (with_reducible refine (impl_PlainRead.calls k a0 _ _ y495 0 1 t499 t500 true _ ?side1 ?side2 A9.out).mono ?_); (case side1 => repeat (first | exact (by repeat (first | (with_reducible exact HR498.out) | (with_reducible refine Kd.C_alloc ?_ _) | (with_reducible refine Kd.C_drewN ?_ _) | (with_reducible refine Kd.C_drew ?_) | exact HR498.out)) | (with_reducible refine Kd.C_alloc ?_ _) | (with_reducible refine Kd.C_drewN ?_ _) | (with_reducible refine Kd.C_drew ?_))); (case side2 => exact HC498.out); rintro e w18 ⟨v502, rfl, ho0, hb⟩; refine ⟨_, rfl, ?_⟩; have HO503 := Aside0.mk (Kd.R_lower (Kd.R_newB ho0 (g := gb493) (o := .cells #[.int .i64 0, .string (⟨#[]⟩ : ByteArray)] 27 (0, 0)) (blk_later BK493.out)) (below_size (below_later HB.out))); replace BK493 := bkb BK493 hb; replace HR498 := Aside0.mk (Kd.C_below (by repeat (first | (with_reducible exact HR498.out) | (with_reducible refine Kd.C_alloc ?_ _) | (with_reducible refine Kd.C_drewN ?_ _) | (with_reducible refine Kd.C_drew ?_) | exact HR498.out)) hb); replace HB := bst HB hb; (try clear hb); (try clear ho0); obtain ⟨Ao19, co19, eo19⟩ := Kd.R_slice HO503.out; subst eo19; have p504 : 0 ≤ (0 : Int) := (by omega); have q504 : 0 < (t499.length : Int) := dcd; obtain ⟨ad504, e504, hx504_0, hx504_1⟩ := at_T27 (Kd.R_reads' HO503.out).2.2 0 p504 q504; cases e504; have qi504 : (0 < t499.length) = True := eq_true (by omega); (try rw [show ((0 : Int)).toNat = 0 from rfl] at hx504_0); (try rw [show 0 * 2 = 0 from rfl] at hx504_0); (try rw [Addr.add_zero'] at hx504_0); (try rw [show ((0 : Int)).toNat = 0 from rfl] at hx504_1); (try rw [show 0 * 2 = 0 from rfl] at hx504_1); (try rw [Addr.add_zero'] at hx504_1); replace p504 := eq_true p504; replace q504 := eq_true q504) | (go_at_call 79; (with_reducible refine (impl_statText.calls k a0 ((rd_T27 t499 0).f0) ((rd_T27 t499 0).f1) t505 _ A13.out).mono ?_); rintro e w20 ⟨rfl, hb⟩; replace HO503 := Aside0.mk (Kd.R_below (R_later HO503.out) hb); replace BK493 := bkb BK493 hb; replace HR498 := Aside0.mk (Kd.C_below (by repeat (first | (with_reducible exact HR498.out) | (with_reducible refine Kd.C_alloc ?_ _) | (with_reducible refine Kd.C_drewN ?_ _) | (with_reducible refine Kd.C_drew ?_) | exact HR498.out)) hb); replace HB := bst HB hb; (try clear hb); have p506 : 0 ≤ (0 : Int) := (by omega); have q506 : 0 < (t499.length : Int) := dcd; obtain ⟨ad506, e506, hx506_0, hx506_1⟩ := at_T27 (Kd.R_reads' HO503.out).2.2 0 p506 q506; obtain rfl : ad504 = ad506 := (by injection e506); have qi506 : (0 < t499.length) = True := eq_true (by omega); (try rw [show ((0 : Int)).toNat = 0 from rfl] at hx506_0); (try rw [show 0 * 2 = 0 from rfl] at hx506_0); (try rw [Addr.add_zero'] at hx506_0); (try rw [show ((0 : Int)).toNat = 0 from rfl] at hx506_1); (try rw [show 0 * 2 = 0 from rfl] at hx506_1); (try rw [Addr.add_zero'] at hx506_1); replace p506 := eq_true p506; replace q506 := eq_true q506; obtain ⟨hcz21_0, hcz21_1, hfz21_0, hfz21_1⟩ := cl2 BK493))
          refine bodyPost_ret (results_ct rfl _ _ gb493 27 #[.int .i64 ((rd_T27 t499 0).f0), .string ((rd_T27 t499 0).f1)] (0, 0) _ rfl (by (with_reducible repeat (first | refine blk_drewN ?_ _ | refine blk_drew ?_ | refine blk_alloc ?_ _)); refine blk_put (cs := #[.int .i64 ((rd_T27 t499 0).f0), .string (⟨#[]⟩ : ByteArray)]) ?_ 1 _ rfl; (with_reducible repeat (first | refine blk_drewN ?_ _ | refine blk_drew ?_ | refine blk_alloc ?_ _)); refine blk_put (cs := #[.int .i64 0, .string (⟨#[]⟩ : ByteArray)]) ?_ 0 _ rfl; (with_reducible repeat (first | refine blk_drewN ?_ _ | refine blk_drew ?_ | refine blk_alloc ?_ _)); exact BK493.out) Try.underlying27 rfl (by kernel_rfl)) rfl ?_
          exact fin_ (below_later HB.out)
        · rw [if_neg c14] at H
          have c14b0 : (t505.toList == a1.toList) = false := beq_eq_false_iff_ne.mpr c14
          have c14b1 : (t505.toList != a1.toList) = true := bne_iff_ne.mpr c14
          simp only [Option.some.injEq, Prod.mk.injEq] at H
          obtain ⟨rfl, rfl, rfl⟩ := H
          go_enter Try.func54, Try.ntmps54
          go_wp2_with (first | ((with_reducible refine gate_dst (N := 4) rfl ?_); (try (refine gate_guard (by rfl) ?_; dsimp only)); refine bx_ 4 #[.int .i64 0, .string (⟨#[]⟩ : ByteArray)] 27 ?_; intro gb493 hg w22 hbox hb; have BK493 := Aside0.mk (hbox); have GW493 := gwe HB hg; have GE493 := GW493; replace HB := bst HB hb; clear hb hbox hg) | ((with_reducible refine gate_dst (N := 20) rfl ?_); (try (refine gate_guard (by rfl) ?_; dsimp only)); refine Go.Proofs.YtgiljoeekpfpmaaW.PrintMore2.conv_seen rfl (N := 20) rfl 9 41 5 _ rfl Try.underlying9 Try.underlying41 Try.underlying5 a1 rfl (by have := LMc8.out; omega) y495 Ny495.out ?_; intro Av24 cv24 w23 hr_ hc_ hb; replace BK493 := bkb BK493 hb; replace HB := bst HB hb; have HR498 := Aside0.mk hr_; have HC498 := Aside0.mk hc_; clear hr_ hc_ hb) | ((with_reducible refine gate_callee (f := 78) rfl ?_); refine gl_ (some 21) Try.func78 #[.int .i64 a0, .slice Av24 y495.length cv24, .int .i64 0, .int .i64 1] rfl ?_; (with_reducible refine (impl_PlainRead.calls k a0 _ _ y495 0 1 t499 t500 true _ ?side1 ?side2 A9.out).mono ?_); (case side1 => repeat (first | exact (by repeat (first | (with_reducible exact HR498.out) | (with_reducible refine Kd.C_alloc ?_ _) | (with_reducible refine Kd.C_drewN ?_ _) | (with_reducible refine Kd.C_drew ?_) | exact HR498.out)) | (with_reducible refine Kd.C_alloc ?_ _) | (with_reducible refine Kd.C_drewN ?_ _) | (with_reducible refine Kd.C_drew ?_))); (case side2 => exact HC498.out); rintro e w25 ⟨v502, rfl, ho0, hb⟩; refine ⟨_, rfl, ?_⟩; have HO503 := Aside0.mk (Kd.R_lower (Kd.R_newB ho0 (g := gb493) (o := .cells #[.int .i64 0, .string (⟨#[]⟩ : ByteArray)] 27 (0, 0)) (blk_later BK493.out)) (below_size (below_later HB.out))); replace BK493 := bkb BK493 hb; replace HR498 := Aside0.mk (Kd.C_below (by repeat (first | (with_reducible exact HR498.out) | (with_reducible refine Kd.C_alloc ?_ _) | (with_reducible refine Kd.C_drewN ?_ _) | (with_reducible refine Kd.C_drew ?_) | exact HR498.out)) hb); replace HB := bst HB hb; (try clear hb); (try clear ho0); obtain ⟨Ao26, co26, eo26⟩ := Kd.R_slice HO503.out; subst eo26; have p504 : 0 ≤ (0 : Int) := (by omega); have q504 : 0 < (t499.length : Int) := dcd; obtain ⟨ad504, e504, hx504_0, hx504_1⟩ := at_T27 (Kd.R_reads' HO503.out).2.2 0 p504 q504; cases e504; have qi504 : (0 < t499.length) = True := eq_true (by omega); (try rw [show ((0 : Int)).toNat = 0 from rfl] at hx504_0); (try rw [show 0 * 2 = 0 from rfl] at hx504_0); (try rw [Addr.add_zero'] at hx504_0); (try rw [show ((0 : Int)).toNat = 0 from rfl] at hx504_1); (try rw [show 0 * 2 = 0 from rfl] at hx504_1); (try rw [Addr.add_zero'] at hx504_1); replace p504 := eq_true p504; replace q504 := eq_true q504) | (go_at_call 79; (with_reducible refine (impl_statText.calls k a0 ((rd_T27 t499 0).f0) ((rd_T27 t499 0).f1) t505 _ A13.out).mono ?_); rintro e w27 ⟨rfl, hb⟩; replace HO503 := Aside0.mk (Kd.R_below (R_later HO503.out) hb); replace BK493 := bkb BK493 hb; replace HR498 := Aside0.mk (Kd.C_below (by repeat (first | (with_reducible exact HR498.out) | (with_reducible refine Kd.C_alloc ?_ _) | (with_reducible refine Kd.C_drewN ?_ _) | (with_reducible refine Kd.C_drew ?_) | exact HR498.out)) hb); replace HB := bst HB hb; (try clear hb); obtain ⟨hcz28_0, hcz28_1, hfz28_0, hfz28_1⟩ := cl2 BK493))
          refine bodyPost_ret (results_ct rfl _ _ gb493 27 #[.int .i64 0, .string (⟨#[]⟩ : ByteArray)] (0, 0) _ rfl (by (with_reducible repeat (first | refine blk_drewN ?_ _ | refine blk_drew ?_ | refine blk_alloc ?_ _)); refine blk_put (cs := #[.int .i64 0, .string (⟨#[]⟩ : ByteArray)]) ?_ 1 _ rfl; (with_reducible repeat (first | refine blk_drewN ?_ _ | refine blk_drew ?_ | refine blk_alloc ?_ _)); refine blk_put (cs := #[.int .i64 0, .string (⟨#[]⟩ : ByteArray)]) ?_ 0 _ rfl; (with_reducible repeat (first | refine blk_drewN ?_ _ | refine blk_drew ?_ | refine blk_alloc ?_ _)); exact BK493.out) Try.underlying27 rfl (by kernel_rfl)) rfl ?_
          exact fin_ (below_later HB.out)
      · rw [if_neg c11] at H
        have c11b0 : (t500 == (a1.size : Int)) = false := beq_eq_false_iff_ne.mpr c11
        have c11b1 : (t500 != (a1.size : Int)) = true := bne_iff_ne.mpr c11
        simp only [Option.some.injEq, Prod.mk.injEq] at H
        obtain ⟨rfl, rfl, rfl⟩ := H
        go_enter Try.func54, Try.ntmps54
        go_wp2_with (first | ((with_reducible refine gate_dst (N := 4) rfl ?_); (try (refine gate_guard (by rfl) ?_; dsimp only)); refine bx_ 4 #[.int .i64 0, .string (⟨#[]⟩ : ByteArray)] 27 ?_; intro gb493 hg w29 hbox hb; have BK493 := Aside0.mk (hbox); have GW493 := gwe HB hg; have GE493 := GW493; replace HB := bst HB hb; clear hb hbox hg) | ((with_reducible refine gate_dst (N := 20) rfl ?_); (try (refine gate_guard (by rfl) ?_; dsimp only)); refine Go.Proofs.YtgiljoeekpfpmaaW.PrintMore2.conv_seen rfl (N := 20) rfl 9 41 5 _ rfl Try.underlying9 Try.underlying41 Try.underlying5 a1 rfl (by have := LMc8.out; omega) y495 Ny495.out ?_; intro Av31 cv31 w30 hr_ hc_ hb; replace BK493 := bkb BK493 hb; replace HB := bst HB hb; have HR498 := Aside0.mk hr_; have HC498 := Aside0.mk hc_; clear hr_ hc_ hb) | ((with_reducible refine gate_callee (f := 78) rfl ?_); refine gl_ (some 21) Try.func78 #[.int .i64 a0, .slice Av31 y495.length cv31, .int .i64 0, .int .i64 1] rfl ?_; (with_reducible refine (impl_PlainRead.calls k a0 _ _ y495 0 1 t499 t500 true _ ?side1 ?side2 A9.out).mono ?_); (case side1 => repeat (first | exact (by repeat (first | (with_reducible exact HR498.out) | (with_reducible refine Kd.C_alloc ?_ _) | (with_reducible refine Kd.C_drewN ?_ _) | (with_reducible refine Kd.C_drew ?_) | exact HR498.out)) | (with_reducible refine Kd.C_alloc ?_ _) | (with_reducible refine Kd.C_drewN ?_ _) | (with_reducible refine Kd.C_drew ?_))); (case side2 => exact HC498.out); rintro e w32 ⟨v502, rfl, ho0, hb⟩; refine ⟨_, rfl, ?_⟩; have HO503 := Aside0.mk (Kd.R_lower (Kd.R_newB ho0 (g := gb493) (o := .cells #[.int .i64 0, .string (⟨#[]⟩ : ByteArray)] 27 (0, 0)) (blk_later BK493.out)) (below_size (below_later HB.out))); replace BK493 := bkb BK493 hb; replace HR498 := Aside0.mk (Kd.C_below (by repeat (first | (with_reducible exact HR498.out) | (with_reducible refine Kd.C_alloc ?_ _) | (with_reducible refine Kd.C_drewN ?_ _) | (with_reducible refine Kd.C_drew ?_) | exact HR498.out)) hb); replace HB := bst HB hb; (try clear hb); (try clear ho0); obtain ⟨hcz33_0, hcz33_1, hfz33_0, hfz33_1⟩ := cl2 BK493))
        refine bodyPost_ret (results_ct rfl _ _ gb493 27 #[.int .i64 0, .string (⟨#[]⟩ : ByteArray)] (0, 0) _ rfl (by (with_reducible repeat (first | refine blk_drewN ?_ _ | refine blk_drew ?_ | refine blk_alloc ?_ _)); refine blk_put (cs := #[.int .i64 0, .string (⟨#[]⟩ : ByteArray)]) ?_ 1 _ rfl; (with_reducible repeat (first | refine blk_drewN ?_ _ | refine blk_drew ?_ | refine blk_alloc ?_ _)); refine blk_put (cs := #[.int .i64 0, .string (⟨#[]⟩ : ByteArray)]) ?_ 0 _ rfl; (with_reducible repeat (first | refine blk_drewN ?_ _ | refine blk_drew ?_ | refine blk_alloc ?_ _)); exact BK493.out) Try.underlying27 rfl (by kernel_rfl)) rfl ?_
        exact fin_ (below_later HB.out)
    · replace c10 := Bool.eq_false_iff.mpr c10
      subst c10
      replace H := ifn Bool.false_ne_true H
      simp only [Option.some.injEq, Prod.mk.injEq] at H
      obtain ⟨rfl, rfl, rfl⟩ := H
      go_enter Try.func54, Try.ntmps54
      go_wp2_with (first | ((with_reducible refine gate_dst (N := 4) rfl ?_); (try (refine gate_guard (by rfl) ?_; dsimp only)); refine bx_ 4 #[.int .i64 0, .string (⟨#[]⟩ : ByteArray)] 27 ?_; intro gb493 hg w34 hbox hb; have BK493 := Aside0.mk (hbox); have GW493 := gwe HB hg; have GE493 := GW493; replace HB := bst HB hb; clear hb hbox hg) | ((with_reducible refine gate_dst (N := 20) rfl ?_); (try (refine gate_guard (by rfl) ?_; dsimp only)); refine Go.Proofs.YtgiljoeekpfpmaaW.PrintMore2.conv_seen rfl (N := 20) rfl 9 41 5 _ rfl Try.underlying9 Try.underlying41 Try.underlying5 a1 rfl (by have := LMc8.out; omega) y495 Ny495.out ?_; intro Av36 cv36 w35 hr_ hc_ hb; replace BK493 := bkb BK493 hb; replace HB := bst HB hb; have HR498 := Aside0.mk hr_; have HC498 := Aside0.mk hc_; clear hr_ hc_ hb) | ((with_reducible refine gate_callee (f := 78) rfl ?_); refine gl_ (some 21) Try.func78 #[.int .i64 a0, .slice Av36 y495.length cv36, .int .i64 0, .int .i64 1] rfl ?_; (with_reducible refine (impl_PlainRead.calls k a0 _ _ y495 0 1 t499 t500 false _ ?side1 ?side2 A9.out).mono ?_); (case side1 => repeat (first | exact (by repeat (first | (with_reducible exact HR498.out) | (with_reducible refine Kd.C_alloc ?_ _) | (with_reducible refine Kd.C_drewN ?_ _) | (with_reducible refine Kd.C_drew ?_) | exact HR498.out)) | (with_reducible refine Kd.C_alloc ?_ _) | (with_reducible refine Kd.C_drewN ?_ _) | (with_reducible refine Kd.C_drew ?_))); (case side2 => exact HC498.out); rintro e w37 ⟨v502, rfl, ho0, hb⟩; refine ⟨_, rfl, ?_⟩; have HO503 := Aside0.mk (Kd.R_lower (Kd.R_newB ho0 (g := gb493) (o := .cells #[.int .i64 0, .string (⟨#[]⟩ : ByteArray)] 27 (0, 0)) (blk_later BK493.out)) (below_size (below_later HB.out))); replace BK493 := bkb BK493 hb; replace HR498 := Aside0.mk (Kd.C_below (by repeat (first | (with_reducible exact HR498.out) | (with_reducible refine Kd.C_alloc ?_ _) | (with_reducible refine Kd.C_drewN ?_ _) | (with_reducible refine Kd.C_drew ?_) | exact HR498.out)) hb); replace HB := bst HB hb; (try clear hb); (try clear ho0); obtain ⟨hcz38_0, hcz38_1, hfz38_0, hfz38_1⟩ := cl2 BK493))
      refine bodyPost_ret (results_ct rfl _ _ gb493 27 #[.int .i64 0, .string (⟨#[]⟩ : ByteArray)] (0, 0) _ rfl (by (with_reducible repeat (first | refine blk_drewN ?_ _ | refine blk_drew ?_ | refine blk_alloc ?_ _)); refine blk_put (cs := #[.int .i64 0, .string (⟨#[]⟩ : ByteArray)]) ?_ 1 _ rfl; (with_reducible repeat (first | refine blk_drewN ?_ _ | refine blk_drew ?_ | refine blk_alloc ?_ _)); refine blk_put (cs := #[.int .i64 0, .string (⟨#[]⟩ : ByteArray)]) ?_ 0 _ rfl; (with_reducible repeat (first | refine blk_drewN ?_ _ | refine blk_drew ?_ | refine blk_alloc ?_ _)); exact BK493.out) Try.underlying27 rfl (by kernel_rfl)) rfl ?_
      exact fin_ (below_later HB.out)
/-! ### impl_FloatKey: function 95 -/
def impl_FloatKey.f (a0 : Int) : Option (Int) := if a0 < 0 then (some (Go.bits .xor .i64 a0 9223372036854775807)) else (some a0)
set_option maxHeartbeats 8000000 in
set_option maxRecDepth 100000 in
theorem impl_FloatKey.calls (a0 : Int) (r : Int) (w : World) (h : impl_FloatKey.f a0 = some r) :
    Calls Try.prog 95 #[.int .i64 a0] w fun e w' => e = .returned (.int .i64 r) ∧ Drawn0 w w' := by
  have H : (if a0 < 0 then (some (Go.bits .xor .i64 a0 9223372036854775807)) else (some a0)) = some r := h
  clear h
  by_cases c2 : a0 < 0
  · rw [if_pos c2] at H
    have c2b0 := decide_eq_true c2
    clear c2
    obtain rfl := Option.some.inj H
    go_enter Try.func95, Try.ntmps95
    go_wp2
    go_ret
    exact ⟨by first | rfl | (simp; done) | (simp [*]; done), by repeat (first | exact Drawn0.refl _ | apply Drawn0.step)⟩
  · rw [if_neg c2] at H
    have c2b0 := decide_eq_false c2
    clear c2
    obtain rfl := Option.some.inj H
    go_enter Try.func95, Try.ntmps95
    go_wp2
    go_ret
    exact ⟨by first | rfl | (simp; done) | (simp [*]; done), by repeat (first | exact Drawn0.refl _ | apply Drawn0.step)⟩

/-! ### impl_ValLess: function 80 -/
def impl_ValLess.j0 : Nat → Int → Bool → Int → ByteArray → Int → ByteArray → Option (Bool)
  | 0, _, _, _, _, _, _ => none
  | k + 1, x0, x16, x508000, x508001, x509000, x509001 => if x16 = true then (some false) else (if x0 = 5 then ((impl_FloatKey.f x508000).bind fun t511 => ((impl_FloatKey.f x509000).bind fun t512 => (some (decide (t511 < t512))))) else (if x0 = 6 then (some (Op.bytesLess x508001.toList x509001.toList)) else (some (decide (x508000 < x509000)))))
def impl_ValLess.f (k : Nat) (a0 : Int) (a1_0 : Int) (a1_1 : ByteArray) (a2_0 : Int) (a2_1 : ByteArray) : Option (Bool) := (impl_ValOk.f a0 a1_0 a1_1).bind fun t509 => (if t509 = true then ((impl_ValOk.f a0 a2_0 a2_1).bind fun t510 => (impl_ValLess.j0 k a0 (!t510) a1_0 a1_1 a2_0 a2_1)) else (impl_ValLess.j0 k a0 true a1_0 a1_1 a2_0 a2_1))
set_option maxHeartbeats 8000000 in
set_option maxRecDepth 100000 in
theorem impl_ValLess.calls (k : Nat) (a0 : Int) (a1_0 : Int) (a1_1 : ByteArray) (a2_0 : Int) (a2_1 : ByteArray) (r : Bool) (w : World) (h : impl_ValLess.f k a0 a1_0 a1_1 a2_0 a2_1 = some r) :
    Calls Try.prog 80 #[.int .i64 a0, .agg #[.int .i64 a1_0, .string a1_1], .agg #[.int .i64 a2_0, .string a2_1]] w fun e w' => e = .returned (.bool r) ∧ Below w.heap.size w w' := by
  have hu27 := Try.underlying27
  have HB := Aside0.mk (Below.refl w.heap.size w)
  have H : ((impl_ValOk.f a0 a1_0 a1_1).bind fun t509 => (if t509 = true then ((impl_ValOk.f a0 a2_0 a2_1).bind fun t510 => (impl_ValLess.j0 k a0 (!t510) a1_0 a1_1 a2_0 a2_1)) else (impl_ValLess.j0 k a0 true a1_0 a1_1 a2_0 a2_1))) = some r := h
  clear h
  have HC4 := Aside0.mk H
  clear H
  go_enter Try.func80, Try.ntmps80
  go_upto_region 1 with (first | ((with_reducible refine gate_dst (N := 4) rfl ?_); refine bx_ 4 #[.int .i64 a1_0, .string a1_1] 27 ?_; intro gb507 hg w5 hbox hb; have BK507 := Aside0.mk (hbox); have GW507 := gwe HB hg; have GE507 := GW507; replace HB := bst HB hb; clear hb hbox hg) | ((with_reducible refine gate_dst (N := 5) rfl ?_); refine bx_ 5 #[.int .i64 a2_0, .string a2_1] 27 ?_; intro gb508 hg w6 hbox hb; have BK508 := Aside0.mk (hbox); have GW508 := gwe HB hg; have GE508 := GW508; have NB507_508 := nbl BK507 hg; have NB508_507 := nbr (nbl BK507 hg); replace BK507 := bkb BK507 hb; replace HB := bst HB hb; clear hb hbox hg))
  repeat (go_quiet (first | ((with_reducible refine gate_dst (N := 4) rfl ?_); refine bx_ 4 #[.int .i64 a1_0, .string a1_1] 27 ?_; intro gb507 hg w5 hbox hb; have BK507 := Aside0.mk (hbox); have GW507 := gwe HB hg; have GE507 := GW507; replace HB := bst HB hb; clear hb hbox hg) | ((with_reducible refine gate_dst (N := 5) rfl ?_); refine bx_ 5 #[.int .i64 a2_0, .string a2_1] 27 ?_; intro gb508 hg w6 hbox hb; have BK508 := Aside0.mk (hbox); have GW508 := gwe HB hg; have GE508 := GW508; have NB507_508 := nbl BK507 hg; have NB508_507 := nbr (nbl BK507 hg); replace BK507 := bkb BK507 hb; replace HB := bst HB hb; clear hb hbox hg)); go_upto_region 1 with (first | ((with_reducible refine gate_dst (N := 4) rfl ?_); refine bx_ 4 #[.int .i64 a1_0, .string a1_1] 27 ?_; intro gb507 hg w5 hbox hb; have BK507 := Aside0.mk (hbox); have GW507 := gwe HB hg; have GE507 := GW507; replace HB := bst HB hb; clear hb hbox hg) | ((with_reducible refine gate_dst (N := 5) rfl ?_); refine bx_ 5 #[.int .i64 a2_0, .string a2_1] 27 ?_; intro gb508 hg w6 hbox hb; have BK508 := Aside0.mk (hbox); have GW508 := gwe HB hg; have GE508 := GW508; have NB507_508 := nbl BK507 hg; have NB508_507 := nbr (nbl BK507 hg); replace BK507 := bkb BK507 hb; replace HB := bst HB hb; clear hb hbox hg)))
  (try simp only [Act.put, List.setIfInBounds_toArray, List.set_cons_zero, List.set_cons_succ])
  go_cut [16] (fun v16 wc => ∃ (kq : Nat) (x16_3 : Bool), v16 = .bool x16_3 ∧ Aside0 (impl_ValLess.j0 kq a0 x16_3 a1_0 a1_1 a2_0 a2_1 = some r) ∧ Aside0 (kq ≤ k) ∧ Aside0 (wc.heap[gb507]? = some (.cells #[.int .i64 a1_0, .string a1_1] 27 (0, 0))) ∧ Aside0 (wc.heap[gb508]? = some (.cells #[.int .i64 a2_0, .string a2_1] 27 (0, 0))) ∧ Aside0 (Below w.heap.size w wc))
  case first =>
    have H := HC4.out
    clear HC4
    replace H := bnd H
    obtain ⟨t509, A7, H⟩ := H
    by_cases c8 : t509 = true
    · subst c8
      replace H := ifp rfl H
      replace H := bnd H
      obtain ⟨t510, A9, H⟩ := H
      have H' := Aside0.mk H
      clear H
      have hnb10 := NB507_508.out
      have hnc10 := NB508_507.out
      obtain ⟨hcz11_0, hcz11_1, hfz11_0, hfz11_1⟩ := cl2 BK507
      go_wp2_with (first | (go_at_call 77; (with_reducible refine (impl_ValOk.calls a0 a1_0 a1_1 true _ A7.out).mono ?_); rintro e w12 ⟨rfl, hb⟩; replace BK507 := bkb BK507 hb; replace BK508 := bkb BK508 hb; replace HB := bst HB hb; (try clear hb); obtain ⟨hcz13_0, hcz13_1, hfz13_0, hfz13_1⟩ := cl2 BK508) | (go_at_call 77; (with_reducible refine (impl_ValOk.calls a0 a2_0 a2_1 t510 _ A9.out).mono ?_); rintro e w14 ⟨rfl, hb⟩; replace BK507 := bkb BK507 hb; replace BK508 := bkb BK508 hb; replace HB := bst HB hb; (try clear hb)))
      repeat (go_quiet (first | (go_at_call 77; (with_reducible refine (impl_ValOk.calls a0 a1_0 a1_1 true _ A7.out).mono ?_); rintro e w12 ⟨rfl, hb⟩; replace BK507 := bkb BK507 hb; replace BK508 := bkb BK508 hb; replace HB := bst HB hb; (try clear hb); obtain ⟨hcz13_0, hcz13_1, hfz13_0, hfz13_1⟩ := cl2 BK508) | (go_at_call 77; (with_reducible refine (impl_ValOk.calls a0 a2_0 a2_1 t510 _ A9.out).mono ?_); rintro e w14 ⟨rfl, hb⟩; replace BK507 := bkb BK507 hb; replace BK508 := bkb BK508 hb; replace HB := bst HB hb; (try clear hb))); try go_wp2_with (first | (go_at_call 77; (with_reducible refine (impl_ValOk.calls a0 a1_0 a1_1 true _ A7.out).mono ?_); rintro e w12 ⟨rfl, hb⟩; replace BK507 := bkb BK507 hb; replace BK508 := bkb BK508 hb; replace HB := bst HB hb; (try clear hb); obtain ⟨hcz13_0, hcz13_1, hfz13_0, hfz13_1⟩ := cl2 BK508) | (go_at_call 77; (with_reducible refine (impl_ValOk.calls a0 a2_0 a2_1 t510 _ A9.out).mono ?_); rintro e w14 ⟨rfl, hb⟩; replace BK507 := bkb BK507 hb; replace BK508 := bkb BK508 hb; replace HB := bst HB hb; (try clear hb))))
      go_meet
      case rel => exact ⟨_, (!t510), sr, H', ⟨by first | omega | exact Nat.le_refl _⟩, ⟨blk_later BK507.out⟩, ⟨blk_later BK508.out⟩, ⟨below_later HB.out⟩⟩
    · replace c8 := Bool.eq_false_iff.mpr c8
      subst c8
      replace H := ifn Bool.false_ne_true H
      have H' := Aside0.mk H
      clear H
      have hnb15 := NB507_508.out
      have hnc15 := NB508_507.out
      obtain ⟨hcz16_0, hcz16_1, hfz16_0, hfz16_1⟩ := cl2 BK507
      go_wp2_with (first | (go_at_call 77; (with_reducible refine (impl_ValOk.calls a0 a1_0 a1_1 false _ A7.out).mono ?_); rintro e w17 ⟨rfl, hb⟩; replace BK507 := bkb BK507 hb; replace BK508 := bkb BK508 hb; replace HB := bst HB hb; (try clear hb)))
      repeat (go_quiet (first | (go_at_call 77; (with_reducible refine (impl_ValOk.calls a0 a1_0 a1_1 false _ A7.out).mono ?_); rintro e w17 ⟨rfl, hb⟩; replace BK507 := bkb BK507 hb; replace BK508 := bkb BK508 hb; replace HB := bst HB hb; (try clear hb))); try go_wp2_with (first | (go_at_call 77; (with_reducible refine (impl_ValOk.calls a0 a1_0 a1_1 false _ A7.out).mono ?_); rintro e w17 ⟨rfl, hb⟩; replace BK507 := bkb BK507 hb; replace BK508 := bkb BK508 hb; replace HB := bst HB hb; (try clear hb))))
      go_meet
      case rel => exact ⟨_, (true), sr, H', ⟨by first | omega | exact Nat.le_refl _⟩, ⟨blk_later BK507.out⟩, ⟨blk_later BK508.out⟩, ⟨below_later HB.out⟩⟩
  case rest =>
    clear HC4
    obtain ⟨kq, x16_3, rfl, HA, HJ3, BK507, BK508, HB⟩ := hcut
    cases kq with
    | zero => exact absurd HA.out (by simp [impl_ValLess.j0])
    | succ kj3 =>
      have H := HA.out
      clear HA
      simp only [impl_ValLess.j0] at H
      by_cases c18 : x16_3 = true
      · subst c18
        replace H := ifp rfl H
        obtain rfl := Option.some.inj H
        go_wp2
        repeat (go_quiet (fail); try go_wp2)
        go_ret
        exact fin_ (below_later HB.out)
      · replace c18 := Bool.eq_false_iff.mpr c18
        subst c18
        replace H := ifn Bool.false_ne_true H
        by_cases c19 : a0 = 5
        · rw [if_pos c19] at H
          have c19b0 : (a0 == 5) = true := beq_iff_eq.mpr c19
          have c19b1 : (a0 != 5) = false := bne_eq_false_iff_eq.mpr c19
          clear c19
          replace H := bnd H
          obtain ⟨t511, A20, H⟩ := H
          replace H := bnd H
          obtain ⟨t512, A21, H⟩ := H
          obtain rfl := Option.some.inj H
          have hnb22 := NB507_508.out
          have hnc22 := NB508_507.out
          obtain ⟨hcz23_0, hcz23_1, hfz23_0, hfz23_1⟩ := cl2 BK507
          go_wp2_with (first | (go_at_call 95; (with_reducible refine (impl_FloatKey.calls a1_0 t511 _ A20.out).mono ?_); rintro e w' ⟨rfl, ⟨nd, rfl⟩⟩; (try first | exact ⟨rfl, _, World.drewN_drewN _ _ _⟩ | exact ⟨rfl, _, Eq.trans (World.drewN_drewN _ _ _) (congrArg (World.drewN _) (Nat.add_assoc _ _ _))⟩); obtain ⟨hcz24_0, hcz24_1, hfz24_0, hfz24_1⟩ := cl2 BK508) | (go_at_call 95; (with_reducible refine (impl_FloatKey.calls a2_0 t512 _ A21.out).mono ?_); rintro e w' ⟨rfl, ⟨nd, rfl⟩⟩; (try first | exact ⟨rfl, _, World.drewN_drewN _ _ _⟩ | exact ⟨rfl, _, Eq.trans (World.drewN_drewN _ _ _) (congrArg (World.drewN _) (Nat.add_assoc _ _ _))⟩)))
          repeat (go_quiet (first | (go_at_call 95; (with_reducible refine (impl_FloatKey.calls a1_0 t511 _ A20.out).mono ?_); rintro e w' ⟨rfl, ⟨nd, rfl⟩⟩; (try first | exact ⟨rfl, _, World.drewN_drewN _ _ _⟩ | exact ⟨rfl, _, Eq.trans (World.drewN_drewN _ _ _) (congrArg (World.drewN _) (Nat.add_assoc _ _ _))⟩); obtain ⟨hcz24_0, hcz24_1, hfz24_0, hfz24_1⟩ := cl2 BK508) | (go_at_call 95; (with_reducible refine (impl_FloatKey.calls a2_0 t512 _ A21.out).mono ?_); rintro e w' ⟨rfl, ⟨nd, rfl⟩⟩; (try first | exact ⟨rfl, _, World.drewN_drewN _ _ _⟩ | exact ⟨rfl, _, Eq.trans (World.drewN_drewN _ _ _) (congrArg (World.drewN _) (Nat.add_assoc _ _ _))⟩))); try go_wp2_with (first | (go_at_call 95; (with_reducible refine (impl_FloatKey.calls a1_0 t511 _ A20.out).mono ?_); rintro e w' ⟨rfl, ⟨nd, rfl⟩⟩; (try first | exact ⟨rfl, _, World.drewN_drewN _ _ _⟩ | exact ⟨rfl, _, Eq.trans (World.drewN_drewN _ _ _) (congrArg (World.drewN _) (Nat.add_assoc _ _ _))⟩); obtain ⟨hcz24_0, hcz24_1, hfz24_0, hfz24_1⟩ := cl2 BK508) | (go_at_call 95; (with_reducible refine (impl_FloatKey.calls a2_0 t512 _ A21.out).mono ?_); rintro e w' ⟨rfl, ⟨nd, rfl⟩⟩; (try first | exact ⟨rfl, _, World.drewN_drewN _ _ _⟩ | exact ⟨rfl, _, Eq.trans (World.drewN_drewN _ _ _) (congrArg (World.drewN _) (Nat.add_assoc _ _ _))⟩))))
          go_ret
          exact fin_ (below_later HB.out)
        · rw [if_neg c19] at H
          have c19b0 : (a0 == 5) = false := beq_eq_false_iff_ne.mpr c19
          have c19b1 : (a0 != 5) = true := bne_iff_ne.mpr c19
          by_cases c25 : a0 = 6
          · rw [if_pos c25] at H
            have c25b0 : (a0 == 6) = true := beq_iff_eq.mpr c25
            have c25b1 : (a0 != 6) = false := bne_eq_false_iff_eq.mpr c25
            clear c25
            obtain rfl := Option.some.inj H
            have hnb26 := NB507_508.out
            have hnc26 := NB508_507.out
            obtain ⟨hcz27_0, hcz27_1, hfz27_0, hfz27_1⟩ := cl2 BK507
            obtain ⟨hcz28_0, hcz28_1, hfz28_0, hfz28_1⟩ := cl2 BK508
            go_wp2
            repeat (go_quiet (fail); try go_wp2)
            go_ret
            exact fin_ (below_later HB.out)
          · rw [if_neg c25] at H
            have c25b0 : (a0 == 6) = false := beq_eq_false_iff_ne.mpr c25
            have c25b1 : (a0 != 6) = true := bne_iff_ne.mpr c25
            obtain rfl := Option.some.inj H
            have hnb29 := NB507_508.out
            have hnc29 := NB508_507.out
            obtain ⟨hcz30_0, hcz30_1, hfz30_0, hfz30_1⟩ := cl2 BK507
            obtain ⟨hcz31_0, hcz31_1, hfz31_0, hfz31_1⟩ := cl2 BK508
            go_wp2
            repeat (go_quiet (fail); try go_wp2)
            go_ret
            exact fin_ (below_later HB.out)

/-! ### impl_statsOk: function 55 -/
def impl_statsOk.j0 : Nat → Bool → Int → Int → Int → Int → Bool → Int → ByteArray → Int → ByteArray → Option (Bool)
  | 0, _, _, _, _, _, _, _, _, _, _ => none
  | k + 1, x13, x514000, x514001, x514002, x515000, x515001, x515002, x515003, x515004, x515005 => if x13 = true then (some false) else (if x515001 = true then ((impl_ValOk.f x514000 x515002 x515003).bind fun t517 => (if t517 = true then ((impl_ValOk.f x514000 x515004 x515005).bind fun t518 => (if t518 = true then ((impl_ValLess.f k x514000 x515004 x515005 x515002 x515003).bind fun t519 => (some (!t519))) else (some false))) else (some false))) else (if (x515002 == 0 && (x515003.toList == ([] : List UInt8))) = true then (some (x515004 == 0 && (x515005.toList == ([] : List UInt8)))) else (some false)))
def impl_statsOk.f (k : Nat) (a0_0 : Int) (a0_1 : Int) (a0_2 : Int) (a1_0 : Int) (a1_1 : Bool) (a1_2 : Int) (a1_3 : ByteArray) (a1_4 : Int) (a1_5 : ByteArray) : Option (Bool) := (impl_LeafOk.f a0_0 a0_1 a0_2).bind fun t515 => (if t515 = true then ((impl_within.f a1_0 0 2000).bind fun t516 => (impl_statsOk.j0 k (!t516) a0_0 a0_1 a0_2 a1_0 a1_1 a1_2 a1_3 a1_4 a1_5)) else (impl_statsOk.j0 k true a0_0 a0_1 a0_2 a1_0 a1_1 a1_2 a1_3 a1_4 a1_5))
set_option maxHeartbeats 8000000 in
set_option maxRecDepth 100000 in
theorem impl_statsOk.calls (k : Nat) (a0_0 : Int) (a0_1 : Int) (a0_2 : Int) (a1_0 : Int) (a1_1 : Bool) (a1_2 : Int) (a1_3 : ByteArray) (a1_4 : Int) (a1_5 : ByteArray) (r : Bool) (w : World) (h : impl_statsOk.f k a0_0 a0_1 a0_2 a1_0 a1_1 a1_2 a1_3 a1_4 a1_5 = some r) :
    Calls Try.prog 55 #[.agg #[.int .i64 a0_0, .int .i64 a0_1, .int .i64 a0_2], .agg #[.int .i64 a1_0, .bool a1_1, .int .i64 a1_2, .string a1_3, .int .i64 a1_4, .string a1_5]] w fun e w' => e = .returned (.bool r) ∧ Below w.heap.size w w' := by
  have hu32 := Try.underlying32
  have hu29 := Try.underlying29
  have hu27 := Try.underlying27
  have HB := Aside0.mk (Below.refl w.heap.size w)
  have H : ((impl_LeafOk.f a0_0 a0_1 a0_2).bind fun t515 => (if t515 = true then ((impl_within.f a1_0 0 2000).bind fun t516 => (impl_statsOk.j0 k (!t516) a0_0 a0_1 a0_2 a1_0 a1_1 a1_2 a1_3 a1_4 a1_5)) else (impl_statsOk.j0 k true a0_0 a0_1 a0_2 a1_0 a1_1 a1_2 a1_3 a1_4 a1_5))) = some r := h
  clear h
  have HC3 := Aside0.mk H
  clear H
  go_enter Try.func55, Try.ntmps55
  go_upto_region 1 with (first | ((with_reducible refine gate_dst (N := 2) rfl ?_); refine bx_ 2 #[.int .i64 a0_0, .int .i64 a0_1, .int .i64 a0_2] 32 ?_; intro gb513 hg w4 hbox hb; have BK513 := Aside0.mk (hbox); have GW513 := gwe HB hg; have GE513 := GW513; replace HB := bst HB hb; clear hb hbox hg) | ((with_reducible refine gate_dst (N := 3) rfl ?_); refine bx_ 3 #[.int .i64 a1_0, .bool a1_1, .int .i64 a1_2, .string a1_3, .int .i64 a1_4, .string a1_5] 29 ?_; intro gb514 hg w5 hbox hb; have BK514 := Aside0.mk (hbox); have GW514 := gwe HB hg; have GE514 := GW514; have NB513_514 := nbl BK513 hg; have NB514_513 := nbr (nbl BK513 hg); replace BK513 := bkb BK513 hb; replace HB := bst HB hb; clear hb hbox hg))
  (try simp only [Act.put, List.setIfInBounds_toArray, List.set_cons_zero, List.set_cons_succ])
  go_cut [13] (fun v13 wc => ∃ (kq : Nat) (x13_2 : Bool), v13 = .bool x13_2 ∧ Aside0 (impl_statsOk.j0 kq x13_2 a0_0 a0_1 a0_2 a1_0 a1_1 a1_2 a1_3 a1_4 a1_5 = some r) ∧ Aside0 (kq ≤ k) ∧ Aside0 (wc.heap[gb513]? = some (.cells #[.int .i64 a0_0, .int .i64 a0_1, .int .i64 a0_2] 32 (0, 0))) ∧ Aside0 (wc.heap[gb514]? = some (.cells #[.int .i64 a1_0, .bool a1_1, .int .i64 a1_2, .string a1_3, .int .i64 a1_4, .string a1_5] 29 (0, 0))) ∧ Aside0 (Below w.heap.size w wc))
  case first =>
    have H := HC3.out
    clear HC3
    replace H := bnd H
    obtain ⟨t515, A6, H⟩ := H
    by_cases c7 : t515 = true
    · subst c7
      replace H := ifp rfl H
      replace H := bnd H
      obtain ⟨t516, A8, H⟩ := H
      have H' := Aside0.mk H
      clear H
      have hnb9 := NB513_514.out
      have hnc9 := NB514_513.out
      obtain ⟨hcz10_0, hcz10_1, hcz10_2, hfz10_0, hfz10_1, hfz10_2⟩ := cl3 BK513
      go_wp2_with (first | ((with_reducible refine gate_callee (f := 51) rfl ?_); refine gl_ (some 6) Try.func51 #[.agg #[.int .i64 a0_0, .int .i64 a0_1, .int .i64 a0_2]] rfl ?_; (with_reducible refine (impl_LeafOk.calls a0_0 a0_1 a0_2 true _ A6.out).mono ?_); rintro e w11 ⟨rfl, hb⟩; refine ⟨_, rfl, ?_⟩; replace BK513 := bkb BK513 hb; replace BK514 := bkb BK514 hb; replace HB := bst HB hb; (try clear hb); obtain ⟨hcz12_0, hcz12_1, hcz12_2, hcz12_3, hcz12_4, hcz12_5, hfz12_0, hfz12_1, hfz12_2, hfz12_3, hfz12_4, hfz12_5⟩ := cl6 BK514) | (go_at_call 48; (with_reducible refine (impl_within.calls a1_0 0 2000 t516 _ A8.out).mono ?_); rintro e w' ⟨rfl, ⟨nd, rfl⟩⟩))
      go_meet
      case rel => exact ⟨_, (!t516), sr, H', ⟨by first | omega | exact Nat.le_refl _⟩, ⟨blk_later BK513.out⟩, ⟨blk_later BK514.out⟩, ⟨below_later HB.out⟩⟩
    · replace c7 := Bool.eq_false_iff.mpr c7
      subst c7
      replace H := ifn Bool.false_ne_true H
      have H' := Aside0.mk H
      clear H
      have hnb13 := NB513_514.out
      have hnc13 := NB514_513.out
      obtain ⟨hcz14_0, hcz14_1, hcz14_2, hfz14_0, hfz14_1, hfz14_2⟩ := cl3 BK513
      go_wp2_with (first | ((with_reducible refine gate_callee (f := 51) rfl ?_); refine gl_ (some 6) Try.func51 #[.agg #[.int .i64 a0_0, .int .i64 a0_1, .int .i64 a0_2]] rfl ?_; (with_reducible refine (impl_LeafOk.calls a0_0 a0_1 a0_2 false _ A6.out).mono ?_); rintro e w15 ⟨rfl, hb⟩; refine ⟨_, rfl, ?_⟩; replace BK513 := bkb BK513 hb; replace BK514 := bkb BK514 hb; replace HB := bst HB hb; (try clear hb)))
      go_meet
      case rel => exact ⟨_, (true), sr, H', ⟨by first | omega | exact Nat.le_refl _⟩, ⟨blk_later BK513.out⟩, ⟨blk_later BK514.out⟩, ⟨below_later HB.out⟩⟩
  case rest =>
    clear HC3
    obtain ⟨kq, x13_2, rfl, HA, HJ2, BK513, BK514, HB⟩ := hcut
    cases kq with
    | zero => exact absurd HA.out (by simp [impl_statsOk.j0])
    | succ kj2 =>
      have H := HA.out
      clear HA
      simp only [impl_statsOk.j0] at H
      by_cases c16 : x13_2 = true
      · subst c16
        replace H := ifp rfl H
        obtain rfl := Option.some.inj H
        go_wp2
        go_ret
        exact fin_ (below_later HB.out)
      · replace c16 := Bool.eq_false_iff.mpr c16
        subst c16
        replace H := ifn Bool.false_ne_true H
        by_cases c17 : a1_1 = true
        · subst c17
          replace H := ifp rfl H
          replace H := bnd H
          obtain ⟨t517, A18, H⟩ := H
          by_cases c19 : t517 = true
          · subst c19
            replace H := ifp rfl H
            replace H := bnd H
            obtain ⟨t518, A20, H⟩ := H
            by_cases c21 : t518 = true
            · subst c21
              replace H := ifp rfl H
              replace H := bnd H
              obtain ⟨t519, A22, H⟩ := H
              obtain rfl := Option.some.inj H
              have hnb23 := NB514_513.out
              have hnc23 := NB513_514.out
              obtain ⟨hcz24_0, hcz24_1, hcz24_2, hcz24_3, hcz24_4, hcz24_5, hfz24_0, hfz24_1, hfz24_2, hfz24_3, hfz24_4, hfz24_5⟩ := cl6 BK514
              obtain ⟨hcz25_0, hcz25_1, hcz25_2, hfz25_0, hfz25_1, hfz25_2⟩ := cl3 BK513
              go_wp2_with (first | ((with_reducible refine gate_callee (f := 77) rfl ?_); refine gl_ (some 31) Try.func77 #[.int .i64 a0_0, .agg #[.int .i64 a1_2, .string a1_3]] rfl ?_; (with_reducible refine (impl_ValOk.calls a0_0 a1_2 a1_3 true _ A18.out).mono ?_); rintro e w26 ⟨rfl, hb⟩; refine ⟨_, rfl, ?_⟩; replace BK513 := bkb BK513 hb; replace BK514 := bkb BK514 hb; replace HB := bst HB hb; (try clear hb); obtain ⟨hcz27_0, hcz27_1, hcz27_2, hfz27_0, hfz27_1, hfz27_2⟩ := cl3 BK513; obtain ⟨hcz28_0, hcz28_1, hcz28_2, hcz28_3, hcz28_4, hcz28_5, hfz28_0, hfz28_1, hfz28_2, hfz28_3, hfz28_4, hfz28_5⟩ := cl6 BK514) | (go_at_call 77; (with_reducible refine (impl_ValOk.calls a0_0 a1_4 a1_5 true _ A20.out).mono ?_); rintro e w29 ⟨rfl, hb⟩; replace BK513 := bkb BK513 hb; replace BK514 := bkb BK514 hb; replace HB := bst HB hb; (try clear hb); obtain ⟨hcz30_0, hcz30_1, hcz30_2, hfz30_0, hfz30_1, hfz30_2⟩ := cl3 BK513; obtain ⟨hcz31_0, hcz31_1, hcz31_2, hcz31_3, hcz31_4, hcz31_5, hfz31_0, hfz31_1, hfz31_2, hfz31_3, hfz31_4, hfz31_5⟩ := cl6 BK514) | (go_at_call 80; (with_reducible refine (impl_ValLess.calls kj2 a0_0 a1_4 a1_5 a1_2 a1_3 t519 _ A22.out).mono ?_); rintro e w32 ⟨rfl, hb⟩; replace BK513 := bkb BK513 hb; replace BK514 := bkb BK514 hb; replace HB := bst HB hb; (try clear hb)))
              go_ret
              exact fin_ (below_later HB.out)
            · replace c21 := Bool.eq_false_iff.mpr c21
              subst c21
              replace H := ifn Bool.false_ne_true H
              obtain rfl := Option.some.inj H
              have hnb33 := NB514_513.out
              have hnc33 := NB513_514.out
              obtain ⟨hcz34_0, hcz34_1, hcz34_2, hcz34_3, hcz34_4, hcz34_5, hfz34_0, hfz34_1, hfz34_2, hfz34_3, hfz34_4, hfz34_5⟩ := cl6 BK514
              obtain ⟨hcz35_0, hcz35_1, hcz35_2, hfz35_0, hfz35_1, hfz35_2⟩ := cl3 BK513
              go_wp2_with (first | ((with_reducible refine gate_callee (f := 77) rfl ?_); refine gl_ (some 31) Try.func77 #[.int .i64 a0_0, .agg #[.int .i64 a1_2, .string a1_3]] rfl ?_; (with_reducible refine (impl_ValOk.calls a0_0 a1_2 a1_3 true _ A18.out).mono ?_); rintro e w36 ⟨rfl, hb⟩; refine ⟨_, rfl, ?_⟩; replace BK513 := bkb BK513 hb; replace BK514 := bkb BK514 hb; replace HB := bst HB hb; (try clear hb); obtain ⟨hcz37_0, hcz37_1, hcz37_2, hfz37_0, hfz37_1, hfz37_2⟩ := cl3 BK513; obtain ⟨hcz38_0, hcz38_1, hcz38_2, hcz38_3, hcz38_4, hcz38_5, hfz38_0, hfz38_1, hfz38_2, hfz38_3, hfz38_4, hfz38_5⟩ := cl6 BK514) | (go_at_call 77; (with_reducible refine (impl_ValOk.calls a0_0 a1_4 a1_5 false _ A20.out).mono ?_); rintro e w39 ⟨rfl, hb⟩; replace BK513 := bkb BK513 hb; replace BK514 := bkb BK514 hb; replace HB := bst HB hb; (try clear hb)))
              go_ret
              exact fin_ (below_later HB.out)
          · replace c19 := Bool.eq_false_iff.mpr c19
            subst c19
            replace H := ifn Bool.false_ne_true H
            obtain rfl := Option.some.inj H
            have hnb40 := NB514_513.out
            have hnc40 := NB513_514.out
            obtain ⟨hcz41_0, hcz41_1, hcz41_2, hcz41_3, hcz41_4, hcz41_5, hfz41_0, hfz41_1, hfz41_2, hfz41_3, hfz41_4, hfz41_5⟩ := cl6 BK514
            obtain ⟨hcz42_0, hcz42_1, hcz42_2, hfz42_0, hfz42_1, hfz42_2⟩ := cl3 BK513
            go_wp2_with (first | ((with_reducible refine gate_callee (f := 77) rfl ?_); refine gl_ (some 31) Try.func77 #[.int .i64 a0_0, .agg #[.int .i64 a1_2, .string a1_3]] rfl ?_; (with_reducible refine (impl_ValOk.calls a0_0 a1_2 a1_3 false _ A18.out).mono ?_); rintro e w43 ⟨rfl, hb⟩; refine ⟨_, rfl, ?_⟩; replace BK513 := bkb BK513 hb; replace BK514 := bkb BK514 hb; replace HB := bst HB hb; (try clear hb)))
            go_ret
            exact fin_ (below_later HB.out)
        · replace c17 := Bool.eq_false_iff.mpr c17
          subst c17
          replace H := ifn Bool.false_ne_true H
          by_cases c44 : (a1_2 == 0 && (a1_3.toList == ([] : List UInt8))) = true
          · rw [if_pos c44] at H
            have c44b0 : (a1_2 == 0 && (a1_3.toList == ([] : List UInt8))) = true := c44
            (try (have c44b1 : decide (a1_2 = 0 && (a1_3.toList == ([] : List UInt8))) = true := by simpa using c44))
            (try (have c44b2 : (a1_2 == 0 && (a1_3.toList == ([] : List UInt8))) = true := by simpa using c44))
            (try (have c44b3 : (a1_2 == 0 && a1_3.toList.isEmpty) = true := by simpa using c44))
            clear c44
            obtain rfl := Option.some.inj H
            have hnb45 := NB514_513.out
            have hnc45 := NB513_514.out
            obtain ⟨hcz46_0, hcz46_1, hcz46_2, hcz46_3, hcz46_4, hcz46_5, hfz46_0, hfz46_1, hfz46_2, hfz46_3, hfz46_4, hfz46_5⟩ := cl6 BK514
            go_wp2
            go_ret
            exact fin_ (below_later HB.out)
          · rw [if_neg c44] at H
            have c44b0 : (a1_2 == 0 && (a1_3.toList == ([] : List UInt8))) = false := by simpa using c44
            (try (have c44b1 : decide (a1_2 = 0 && (a1_3.toList == ([] : List UInt8))) = false := by simpa using c44))
            (try (have c44b2 : (a1_2 == 0 && (a1_3.toList == ([] : List UInt8))) = false := by simpa using c44))
            (try (have c44b3 : ¬ (a1_2 = 0 && (a1_3.toList == ([] : List UInt8))) := by simpa using c44))
            (try (have c44b4 : (a1_2 == 0 && a1_3.toList.isEmpty) = false := by simpa using c44))
            clear c44
            obtain rfl := Option.some.inj H
            have hnb47 := NB514_513.out
            have hnc47 := NB513_514.out
            obtain ⟨hcz48_0, hcz48_1, hcz48_2, hcz48_3, hcz48_4, hcz48_5, hfz48_0, hfz48_1, hfz48_2, hfz48_3, hfz48_4, hfz48_5⟩ := cl6 BK514
            go_wp2
            go_ret
            exact fin_ (below_later HB.out)

end Go.Proofs.Ytgiljoeekpfpmaa.PFnExactStatsFrom
