/- The machine's side of FnExactDictPack, written by wip/tools/hyb.py of this repo: each Go function as a plain Lean function, and the proof that the call comes to just its answer. No condition. -/
import Derived.Test.YtgiljoeekpfpmaaPFnExactDictPackx0
import Derived.Test.YtgiljoeekpfpmaaPFnExactDictPackx6
import Derived.Test.YtgiljoeekpfpmaaPFnExactDictPackx7
namespace Go.Proofs.Ytgiljoeekpfpmaa.PFnExactDictPack
open Go.RowKit Go.Proofs.YtgiljoeekpfpmaaW.PrintWords Go.Proofs.YtgiljoeekpfpmaaW.PrintLast Go.Proofs.YtgiljoeekpfpmaaW.PrintMore Go.Proofs.YtgiljoeekpfpmaaW.PrintMore2
attribute [local go_sem] max2_int min2_int max_two min_two max_three min_three max_four min_four   -- for this text's walks alone
set_option linter.unusedVariables false
set_option linter.unusedSimpArgs false

/-! ### impl_PlainPack: function 36 -/
def impl_PlainPack.l0 : Nat → Int → List Int → List (S27) → Int → Int → Option (List Int × Bool)
  | 0, _, _, _, _, _ => none
  | k + 1, x0, x6, x19, x20, x21 => if x21 < x20 then (if 0 ≤ x21 then (if x21 < (x19.length : Int) then (if x0 = 6 then ((impl_WordPut.f k (((rd_T27 x19 x21).f1).size : Int) 4).bind fun t410 => (if x6.length + t410.length < 140737488355328 then ((some (x6 ++ t410 : List Int)).bind fun y413 => (if y413.length + ((rd_T27 x19 x21).f1).size < 140737488355328 then (impl_PlainPack.l0 k x0 (y413 ++ bytesOf ((rd_T27 x19 x21).f1)) x19 x20 (wrap64 (x21 + 1))) else (none))) else (none))) else ((impl_wideOf.f x0).bind fun t419 => ((impl_WordPut.f k ((rd_T27 x19 x21).f0) t419).bind fun t420 => (if x6.length + t420.length < 140737488355328 then (impl_PlainPack.l0 k x0 (x6 ++ t420) x19 x20 (wrap64 (x21 + 1))) else (none))))) else (none)) else (none)) else (some (x6, true))
def impl_PlainPack.f (k : Nat) (a0 : Int) (l1 : List (S27)) : Option (List Int × Bool) := (impl_valsOk.f k a0 l1).bind fun t398 => (if t398 = true then (if a0 = 0 then ((impl_numsOf.f k l1).bind fun t399 => ((impl_packed.f k t399 1).bind fun t402 => (some (t402, true)))) else (impl_PlainPack.l0 k a0 (([] : List Int)) l1 (l1.length : Int) 0)) else (some (([] : List Int), false)))
def impl_PlainPack.T10 : Bool × List (List Nat × List Nat) := (true, [([], []), ([], []), ([1], [1]), ([2], [2]), ([3], [3]), ([0, 4, 4], [0, 4]), ([], []), ([6], [6]), ([5, 7, 5], [5, 7]), ([8, 8, 0, 1, 2, 3, 4, 5, 6, 7, 8], [0, 8])])
def impl_PlainPack.B10 : List Nat := [0, 0, 2, 6, 14, 31, 0, 64, 255, 511]
theorem impl_PlainPack.tab10 : rtab .any (opsOf Try.f36 10) = impl_PlainPack.T10 := by kernel_rfl
theorem impl_PlainPack.bits10 : waitsOk impl_PlainPack.T10.2 impl_PlainPack.B10 = true := by kernel_rfl
def impl_PlainPack.T11 : Bool × List (List Nat × List Nat) := (true, [([], []), ([], []), ([1], [1]), ([], []), ([3], [3]), ([2, 4, 4], [2, 4]), ([0, 5, 5], [0, 5]), ([6, 6, 0, 1, 2, 3, 4, 5, 6], [0, 6])])
def impl_PlainPack.B11 : List Nat := [0, 0, 2, 0, 8, 30, 63, 127]
theorem impl_PlainPack.tab11 : rtab .any (opsOf Try.f36 11) = impl_PlainPack.T11 := by kernel_rfl
theorem impl_PlainPack.bits11 : waitsOk impl_PlainPack.T11.2 impl_PlainPack.B11 = true := by kernel_rfl
set_option maxHeartbeats 8000000 in
set_option maxRecDepth 100000 in
theorem impl_PlainPack.calls (k : Nat) (a0 : Int) (A1 : Option Addr) (c1 : Nat) (l1 : List (S27)) (r1 : List Int) (r2 : Bool) (w : World) (hr1 : Kd.C k27 w A1 l1.length l1) (hc1 : l1.length ≤ c1) (h : impl_PlainPack.f k a0 l1 = some (r1, r2)) :
    Calls Try.prog 36 #[.int .i64 a0, .slice A1 l1.length c1] w fun e w' => ∃ v0_ : Value, e = .returned (.tuple #[v0_, .bool r2]) ∧ Kd.R (Kd.int .u8) 5 w' w.heap.size (fun _ => True) v0_ r1 ∧ Below w.heap.size w w' := by
  have hu27 := Try.underlying27
  have HR1 := Aside0.mk hr1
  have HC1 := Aside0.mk hc1
  clear hr1 hc1
  have HB := Aside0.mk (Below.refl w.heap.size w)
  have H : ((impl_valsOk.f k a0 l1).bind fun t398 => (if t398 = true then (if a0 = 0 then ((impl_numsOf.f k l1).bind fun t399 => ((impl_packed.f k t399 1).bind fun t402 => (some (t402, true)))) else (impl_PlainPack.l0 k a0 (([] : List Int)) l1 (l1.length : Int) 0)) else (some (([] : List Int), false)))) = some (r1, r2) := h
  clear h
  replace H := bnd H
  obtain ⟨t398, A3, H⟩ := H
  by_cases c4 : t398 = true
  · subst c4
    replace H := ifp rfl H
    by_cases c5 : a0 = 0
    · rw [if_pos c5] at H
      have c5b0 : (a0 == 0) = true := beq_iff_eq.mpr c5
      have c5b1 : (a0 != 0) = false := bne_eq_false_iff_eq.mpr c5
      clear c5
      replace H := bnd H
      obtain ⟨t399, A6, H⟩ := H
      replace H := bnd H
      obtain ⟨t402, A7, H⟩ := H
      simp only [Option.some.injEq, Prod.mk.injEq] at H
      obtain ⟨rfl, rfl⟩ := H
      go_enter Try.func36, Try.ntmps36
      go_wp2_with (first | ((with_reducible refine gate_callee (f := 61) rfl ?_); refine gl_ (some 11) Try.func61 #[.int .i64 a0, .slice A1 l1.length c1] rfl ?_; (with_reducible refine (impl_valsOk.calls k a0 _ _ l1 true _ ?side1 ?side2 A3.out).mono ?_); (case side1 => exact C_later HR1.out); (case side2 => exact HC1.out); rintro e w8 ⟨rfl, hb⟩; refine ⟨_, rfl, ?_⟩; replace HB := bst HB hb; (try clear hb)) | ((with_reducible refine gate_callee (f := 63) rfl ?_); refine gl_ (some 16) Try.func63 #[.slice A1 l1.length c1] rfl ?_; (with_reducible refine (impl_numsOf.calls k _ _ l1 t399 _ ?side1 ?side2 A6.out).mono ?_); (case side1 => repeat (first | exact (Kd.C_below HR1.out HB.out) | (with_reducible refine Kd.C_alloc ?_ _) | (with_reducible refine Kd.C_drewN ?_ _) | (with_reducible refine Kd.C_drew ?_))); (case side2 => exact HC1.out); rintro e w9 ⟨v400, rfl, ho0, hb⟩; refine ⟨_, rfl, ?_⟩; have HO401 := Aside0.mk (Kd.R_lower ho0 (below_size (below_later HB.out))); replace HB := bst HB hb; (try clear hb); (try clear ho0); obtain ⟨Ao10, co10, eo10⟩ := Kd.R_slice HO401.out; subst eo10) | ((with_reducible refine gate_callee (f := 62) rfl ?_); refine gl_ (some 17) Try.func62 #[.slice Ao10 t399.length co10, .int .i64 1] rfl ?_; (with_reducible refine (impl_packed.calls k _ _ t399 1 t402 _ ?side1 ?side2 A7.out).mono ?_); (case side1 => repeat (first | exact (Kd.R_reads' HO401.out).2.2 | (with_reducible refine Kd.C_alloc ?_ _) | (with_reducible refine Kd.C_drewN ?_ _) | (with_reducible refine Kd.C_drew ?_))); (case side2 => exact (Kd.R_reads' HO401.out).2.1); rintro e w11 ⟨v403, rfl, ho0, hb⟩; refine ⟨_, rfl, ?_⟩; have HO404 := Aside0.mk (Kd.R_lower ho0 (below_size (below_later HB.out))); replace HO401 := Aside0.mk (Kd.R_below (R_later HO401.out) hb); replace HB := bst HB hb; (try clear hb); (try clear ho0)))
      go_ret2
      exact ⟨_, by first | rfl | (simp [errW_none, errW_some] <;> rfl) | (simp [*, errW_none, errW_some] <;> rfl), by (with_reducible repeat (first | apply Kd.R_alloc | apply Kd.R_drewN | apply Kd.R_drew)); exact HO404.out, below_later HB.out⟩
    · rw [if_neg c5] at H
      have c5b0 : (a0 == 0) = false := beq_eq_false_iff_ne.mpr c5
      have c5b1 : (a0 != 0) = true := bne_iff_ne.mpr c5
      obtain ⟨y405, hy405⟩ : ∃ y_ : List Int, y_ = (([] : List Int)) := ⟨_, rfl⟩
      replace H : (impl_PlainPack.l0 k a0 y405 l1 (l1.length : Int) 0) = some (r1, r2) := by first | (rw [hy405]; with_reducible exact H) | (rw [hy405]; exact H) | exact H
      have Ny405 := Aside0.mk hy405
      clear hy405
      have H' := Aside0.mk H
      clear H
      go_enter Try.func36, Try.ntmps36
      go_wp2_with (first | ((with_reducible refine gate_callee (f := 61) rfl ?_); refine gl_ (some 11) Try.func61 #[.int .i64 a0, .slice A1 l1.length c1] rfl ?_; (with_reducible refine (impl_valsOk.calls k a0 _ _ l1 true _ ?side1 ?side2 A3.out).mono ?_); (case side1 => exact C_later HR1.out); (case side2 => exact HC1.out); rintro e w12 ⟨rfl, hb⟩; refine ⟨_, rfl, ?_⟩; replace HB := bst HB hb; (try clear hb); (try clear hk)) | ((with_reducible refine gate_dst (N := 18) rfl ?_); refine Kd.R_lit (Kd.int .u8) _ 5 ?hg (N := 18) ?hd (xs := ([] : List Int)) (inner := []) (ok := fun _ => True) (okp := fun _ => True) ?hr ?hp (fun _ hk => hk) trivial (Below.refl _ _) (Nat.le_refl _) (by simp) ?_; (case hd => rfl); (case hg => rfl); (case hr => first | (go_simp; done) | (go_simp; rfl)); (case hp => exact (Reps.none _ _)); intro v406 w13 ho14 hb hg_ hnew_; clear hg_ hnew_; (first | rw [← Ny405.out] at ho14 | (simp only [Int.reduceToNat] at ho14; rw [← Ny405.out] at ho14)); have HO407 := Aside0.mk (Kd.R_lower ho14 (below_size (below_later HB.out))); replace HB := bst HB hb; clear hb ho14))
      go_loopg [6, 21] k (fun kq v6 v21 w' => ∃ (x6_1 : List Int) (x21_1 : Int), v21 = .int .i64 x21_1 ∧ Aside0 (impl_PlainPack.l0 kq a0 x6_1 l1 (l1.length : Int) x21_1 = some (r1, r2)) ∧ Aside0 (kq ≤ k) ∧ Aside0 (Kd.R (Kd.int .u8) 5 w' w.heap.size (fun _ => True) v6 x6_1) ∧ Aside0 (Below w.heap.size w w'))
      case atStart => exact ⟨(y405), (0), sr, H', ⟨Nat.le_refl _⟩, ⟨R_later HO407.out⟩, ⟨below_later HB.out⟩⟩
      case round =>
        clear H'
        try clear c1
        try clear c4
        try clear c5
        try clear c5b0
        try clear c5b1
        obtain ⟨x6_1, x21_1, rfl, HA, HK1, HO_6, HB⟩ := hrel
        cases gk with
        | zero => exact absurd HA.out (by simp [impl_PlainPack.l0])
        | succ k1 =>
          have H := HA.out
          clear HA
          simp only [impl_PlainPack.l0] at H
          by_cases c15 : x21_1 < (l1.length : Int)
          · rw [if_pos c15] at H
            have c15b0 := decide_eq_true c15
            clear c15
            replace H := ifd H
            obtain ⟨c16b0, H⟩ := H
            replace H := ifd H
            obtain ⟨c17b0, H⟩ := H
            by_cases c18 : a0 = 6
            · rw [if_pos c18] at H
              have c18b0 : (a0 == 6) = true := beq_iff_eq.mpr c18
              have c18b1 : (a0 != 6) = false := bne_eq_false_iff_eq.mpr c18
              clear c18
              replace H := bnd H
              obtain ⟨t410, A19, H⟩ := H
              replace H := ifs H
              obtain ⟨c20, H⟩ := H
              have LMc20 := Aside0.mk c20
              clear c20
              replace H := bsm H
              obtain ⟨y413, Ny413, H⟩ := H
              replace H := ifs H
              obtain ⟨c21, H⟩ := H
              have LMc21 := Aside0.mk c21
              clear c21
              obtain ⟨y416, hy416⟩ : ∃ y_ : List Int, y_ = (y413 ++ bytesOf ((rd_T27 l1 x21_1).f1)) := ⟨_, rfl⟩
              replace H : (impl_PlainPack.l0 k1 a0 y416 l1 (l1.length : Int) (wrap64 (x21_1 + 1))) = some (r1, r2) := by first | (rw [hy416]; with_reducible exact H) | (rw [hy416]; exact H) | exact H
              have Ny416 := Aside0.mk hy416
              clear hy416
              have H' := Aside0.mk H
              clear H
              have p408 : 0 ≤ (x21_1 : Int) := dcd
              have q408 : x21_1 < (l1.length : Int) := dcd
              obtain ⟨ad408, e408, hx408_0, hx408_1⟩ := at_T27 HR1.out x21_1 p408 q408
              cases e408
              replace hx408_0 := crd HB hx408_0
              replace hx408_1 := crd HB hx408_1
              replace p408 := eq_true p408
              replace q408 := eq_true q408
              try go_wp2_with (first | ((with_reducible refine gate_dst (N := 8) rfl ?_); refine bx_ 8 #[.int .i64 0, .string (⟨#[]⟩ : ByteArray)] 27 ?_; intro gb409 hg w22 hbox hb; have BK409 := Aside0.mk (hbox); have GW409 := gwe HB hg; have GE409 := GW409; replace HO_6 := Aside0.mk (Kd.R_below (R_later HO_6.out) hb); replace HB := bst HB hb; clear hb hbox hg; obtain ⟨hcz23_0, hcz23_1, hfz23_0, hfz23_1⟩ := cl2 BK409))
              have n0_ : Aside0 (Kd.R (Kd.int .u8) 5 ((w22.setCell ⟨gb409, 0, none⟩ (.int .i64 ((rd_T27 l1 x21_1).f0))).setCell ⟨gb409, 1, none⟩ (.string ((rd_T27 l1 x21_1).f1))) w.heap.size (fun _ => True) u6 x6_1) := ⟨by (with_reducible repeat (first | apply Kd.R_alloc | apply Kd.R_drewN | apply Kd.R_drew)); exact Kd.R_mono (Kd.R_far (p := ⟨gb409, 1, none⟩) (Kd.R_far (p := ⟨gb409, 0, none⟩) (Kd.R_types HO_6.out BK409.out (by decide)) (fun _ hk => hk.2) (.int .i64 ((rd_T27 l1 x21_1).f0))) (fun _ hk => hk.2) (.string ((rd_T27 l1 x21_1).f1))) (fun _ hk => trivial)⟩
              have n1_ : Aside0 (((w22.setCell ⟨gb409, 0, none⟩ (.int .i64 ((rd_T27 l1 x21_1).f0))).setCell ⟨gb409, 1, none⟩ (.string ((rd_T27 l1 x21_1).f1))).heap[gb409]? = some (.cells #[.int .i64 ((rd_T27 l1 x21_1).f0), .string ((rd_T27 l1 x21_1).f1)] 27 (0, 0))) := ⟨blk_later BK409.out⟩
              have n2_ : Aside0 (Below w.heap.size w ((w22.setCell ⟨gb409, 0, none⟩ (.int .i64 ((rd_T27 l1 x21_1).f0))).setCell ⟨gb409, 1, none⟩ (.string ((rd_T27 l1 x21_1).f1)))) := ⟨below_later HB.out⟩
              (try clear HO_6)
              (try clear BK409)
              (try clear HB)
              generalize ((w22.setCell ⟨gb409, 0, none⟩ (.int .i64 ((rd_T27 l1 x21_1).f0))).setCell ⟨gb409, 1, none⟩ (.string ((rd_T27 l1 x21_1).f1))) = w24 at n0_ n1_ n2_ ⊢
              have HO_6 := n0_
              have BK409 := n1_
              have HB := n2_
              clear n0_ n1_ n2_
              have n0_ := Aside0.mk (Kd.R_drew HO_6.out)
              have n1_ := Aside0.mk (blk_drew BK409.out)
              have n2_ := Aside0.mk (below_drew1 HB.out)
              clear HO_6
              clear BK409
              clear HB
              have HO_6 := n0_
              have BK409 := n1_
              have HB := n2_
              clear n0_ n1_ n2_
              refine start_ (n := 10) (S := fun w' => w'.cell? ⟨gb409, 0, none⟩ = some (.int .i64 ((rd_T27 l1 x21_1).f0)) ∧ w'.cell? ⟨gb409, 1, none⟩ = some (.string ((rd_T27 l1 x21_1).f1))) (ds := []) #[false, false, false, false, false, false, false, false, false, false] (by kernel_rfl) rfl rfl ⟨(blk_cell BK409.out 0).trans rfl, (blk_cell BK409.out 1).trans rfl⟩ (fun hHeld => ?_); refine with_tabW impl_PlainPack.tab10 impl_PlainPack.bits10 (fun HT_ HW_ => ?_)
              generalize w24.drew = w25 at HO_6 BK409 HB hHeld ⊢
              refine pure_ (i := 0) (N := some 27) (v := ?_) (a' := ?_) #[true, false, false, false, false, false, false, false, false, false] rfl rfl (any_of HT_.out (by kernel_rfl)) (fun _ _ _ h => h) (Or.inl ⟨by rfl, ?_⟩) ?_ ?_
              rotate_left
              · intro w'
                go_simp
                with_reducible rfl
              rotate_left
              · simp only [Act.put, List.setIfInBounds_toArray, List.set_cons_zero, List.set_cons_succ, i64_w, i32_w]
                rfl
              refine pure_ (i := 1) (N := some 28) (v := ?_) (a' := ?_) #[true, true, false, false, false, false, false, false, false, false] rfl rfl (any_of HT_.out (by kernel_rfl)) (fun _ _ _ h => h) (Or.inl ⟨by rfl, ?_⟩) ?_ ?_
              rotate_left
              · intro w'
                go_simp
                with_reducible rfl
              rotate_left
              · simp only [Act.put, List.setIfInBounds_toArray, List.set_cons_zero, List.set_cons_succ, i64_w, i32_w]
                rfl
              refine pure_ (i := 6) (N := some 33) (v := ?_) (a' := ?_) #[true, true, false, false, false, false, true, false, false, false] rfl rfl (any_of HT_.out (by kernel_rfl)) (fun _ _ _ h => h) (Or.inl ⟨by rfl, ?_⟩) ?_ ?_
              rotate_left
              · intro w'
                go_simp
                with_reducible rfl
              rotate_left
              · simp only [Act.put, List.setIfInBounds_toArray, List.set_cons_zero, List.set_cons_succ, i64_w, i32_w]
                rfl
              refine take_ (i := 2) (N := some 29) (v := ?_) (a' := ?_) #[true, true, true, false, false, false, true, false, false, false] rfl rfl (take_ofW HT_.out HW_.out (by kernel_rfl)) (fun _ _ _ h => h) (Or.inl ⟨by rfl, ?_⟩) hHeld ?_ ?_
              rotate_left
              · rintro w' ⟨s0, s1⟩
                go_simp
                with_reducible rfl
              rotate_left
              · simp only [Act.put, List.setIfInBounds_toArray, List.set_cons_zero, List.set_cons_succ, i64_w, i32_w]
                rfl
              refine pure_ (i := 3) (N := some 30) (v := ?_) (a' := ?_) #[true, true, true, true, false, false, true, false, false, false] rfl rfl (any_of HT_.out (by kernel_rfl)) (fun _ _ _ h => h) (Or.inl ⟨by rfl, ?_⟩) ?_ ?_
              rotate_left
              · intro w'
                go_simp
                with_reducible rfl
              rotate_left
              · simp only [Act.put, List.setIfInBounds_toArray, List.set_cons_zero, List.set_cons_succ, i64_w, i32_w]
                rfl
              refine take_ (i := 7) (N := some 34) (v := ?_) (a' := ?_) #[true, true, true, true, false, false, true, true, false, false] rfl rfl (take_ofW HT_.out HW_.out (by kernel_rfl)) (fun _ _ _ h => h) (Or.inl ⟨by rfl, ?_⟩) hHeld ?_ ?_
              rotate_left
              · rintro w' ⟨s0, s1⟩
                go_simp
                with_reducible rfl
              rotate_left
              · simp only [Act.put, List.setIfInBounds_toArray, List.set_cons_zero, List.set_cons_succ, i64_w, i32_w]
                rfl
              refine one_ (i := 4) (N := some 31) #[true, true, true, true, true, false, true, true, false, false] rfl rfl (one_of HT_.out (by kernel_rfl)) (by decide) (fun K hK => ?_)
              refine goes_ Try.func64 (by kernel_rfl) rfl #[.int .i64 (((rd_T27 l1 x21_1).f1).size : Int), .int .i64 4] (by rfl) rfl rfl (by (try simp only [List.map_toArray, List.map_cons, List.map_nil]); first | done | rfl | (simp only [List.length_drop, List.length_take]; rfl)) ?_
              with_reducible refine (impl_WordPut.calls k1 (((rd_T27 l1 x21_1).f1).size : Int) 4 t410 _ A19.out).mono ?_
              rintro e w26 ⟨v411, rfl, ho0, hb⟩
              refine ⟨_, rfl, ?_⟩
              have n0_ := Aside0.mk (Kd.R_elder' (R_later HO_6.out) (Kd.R_base ho0) hb)
              have n1_ := Aside0.mk (Kd.R_lower (Kd.R_new' ho0 (Kd.R_lt (R_later HO_6.out))) (below_size (below_later HB.out)))
              have n2_ := bkb BK409 hb
              have n3_ := bst HB hb
              clear HO_6
              clear BK409
              clear HB
              have HO_6 := n0_
              have HO412 := n1_
              have BK409 := n2_
              have HB := n3_
              clear n0_ n1_ n2_ n3_
              (try clear hb)
              (try clear hb2)
              (try clear hk)
              (try clear hi)
              (try clear ho0)
              obtain ⟨Ao28, co28, eo28⟩ := Kd.R_slice HO412.out
              (first | subst eo28 | (injection eo28 with f1_ f2_ f3_; have f4_ := f1_.symm; have f5_ := f3_.symm; clear f1_ f2_ f3_; subst f4_; subst f5_))
              refine hK.out _ _ ⟨(blk_cell BK409.out 0).trans rfl, (blk_cell BK409.out 1).trans rfl⟩ (fun hHeld => ?_)
              clear hK K
              refine norm_ (a' := ?_) ?_ ?_
              rotate_left
              · show Act.put _ (some 31) _ = _
                simp only [Act.put, List.setIfInBounds_toArray, List.set_cons_zero, List.set_cons_succ, i64_w, i32_w]
                rfl
              refine one_ (i := 5) (N := some 32) #[true, true, true, true, true, true, true, true, false, false] rfl rfl (one_of HT_.out (by kernel_rfl)) (by decide) (fun K hK => ?_)
              refine Kd.R_append_rows_step (Kd.int .u8) (w0 := w) w.heap.size (by rfl) (.tmp 27) (.tmp 31) 41 5 (.int .u8 0) 1 rfl Try.underlying41 info5 rfl (by decide) (by omega) u6 x6_1 t410 _ _ _ (fun k_ => some k_ ≠ (.slice Ao28 t410.length co28 : Value).ownBlock) (fun _ => False) rfl rfl ?aO ?aR (fun _ _ h => h) (fun _ h => h.elim) ?aF ?aB ?aS ?aL ?_
              (case aR => repeat (first | exact (Kd.R_reads' HO412.out).2.2 | (with_reducible refine Kd.C_alloc ?_ _) | (with_reducible refine Kd.C_drewN ?_ _) | (with_reducible refine Kd.C_drew ?_)))
              (case aB => exact (below_later HB.out))
              (case aF => exact (fun k_ hk => Kd.fresh' (Kd.R_lt (R_later HO412.out)) k_ hk))
              (case aO => exact (by (with_reducible repeat (first | apply Kd.R_alloc | apply Kd.R_drewN | apply Kd.R_drew)); exact Kd.R_mono HO_6.out (fun _ hk => hk.2)))
              (case aS => exact (below_size (below_later HB.out)))
              (case aL => have := LMc20.out; omega)
              intro v414 w27 ho hb hg hat
              rw [← Ny413.out] at ho
              have n0_ := Aside0.mk (blk_grown (blk_later BK409.out) hg (Kd.R_ne HO_6.out BK409.out (by decide)))
              have n1_ := Aside0.mk (Kd.R_after (ok := (fun _ => True)) (R_later HO412.out) hg hat)
              have n2_ := Aside0.mk (hb)
              have n3_ := Aside0.mk (ho)
              clear BK409
              clear HO412
              clear HB
              clear HO_6
              have BK409 := n0_
              have HO412 := n1_
              have HB := n2_
              have HO415 := n3_
              clear n0_ n1_ n2_ n3_
              clear ho hb hg hat
              refine hK.out _ _ ⟨(blk_cell BK409.out 0).trans rfl, (blk_cell BK409.out 1).trans rfl⟩ (fun hHeld => ?_)
              clear hK K
              refine norm_ (a' := ?_) ?_ ?_
              rotate_left
              · show Act.put _ (some 32) _ = _
                simp only [Act.put, List.setIfInBounds_toArray, List.set_cons_zero, List.set_cons_succ, i64_w, i32_w]
                rfl
              refine one_ (i := 8) (N := some 35) #[true, true, true, true, true, true, true, true, true, false] rfl rfl (one_of HT_.out (by kernel_rfl)) (by decide) (fun K hK => ?_)
              refine Go.Proofs.YtgiljoeekpfpmaaW.PrintMore2.R_append_str_step (w0 := w) w.heap.size (by rfl) (.tmp 32) _ 41 9 5 rfl Try.underlying41 Try.underlying9 info5 v414 y413 ((rd_T27 l1 x21_1).f1) (fun k_ => some k_ ≠ (.slice Ao28 t410.length co28 : Value).ownBlock) rfl rfl ?aO ?aF ?aB ?aS ?aL ?_
              (case aB => exact (below_later HB.out))
              (case aF => exact (fun k_ hk => Kd.fresh' (Kd.R_lt (R_later HO412.out)) k_ hk))
              (case aO => exact (R_later HO415.out))
              (case aS => exact (below_size (below_later HB.out)))
              (case aL => have := LMc21.out; omega)
              intro v417 w29 ho hb hg hat
              rw [← Ny416.out] at ho
              have n0_ := Aside0.mk (blk_grown (blk_later BK409.out) hg (Kd.R_ne HO415.out BK409.out (by decide)))
              have n1_ := Aside0.mk (Kd.R_after (ok := (fun _ => True)) (R_later HO412.out) hg hat)
              have n2_ := Aside0.mk (hb)
              have n3_ := Aside0.mk (ho)
              clear BK409
              clear HO412
              clear HB
              clear HO415
              have BK409 := n0_
              have HO412 := n1_
              have HB := n2_
              have HO418 := n3_
              clear n0_ n1_ n2_ n3_
              clear ho hb hg hat
              refine hK.out _ _ ⟨(blk_cell BK409.out 0).trans rfl, (blk_cell BK409.out 1).trans rfl⟩ (fun hHeld => ?_)
              clear hK K
              refine norm_ (a' := ?_) ?_ ?_
              rotate_left
              · show Act.put _ (some 35) _ = _
                simp only [Act.put, List.setIfInBounds_toArray, List.set_cons_zero, List.set_cons_succ, i64_w, i32_w]
                rfl
              refine pure_ (i := 9) (N := some 6) (v := ?_) (a' := ?_) #[true, true, true, true, true, true, true, true, true, true] rfl rfl (any_of HT_.out (by kernel_rfl)) (fun _ _ _ h => h) (Or.inl ⟨by rfl, ?_⟩) ?_ ?_
              rotate_left
              · intro w'
                go_simp
                with_reducible rfl
              rotate_left
              · simp only [Act.put, List.setIfInBounds_toArray, List.set_cons_zero, List.set_cons_succ, i64_w, i32_w]
                rfl
              refine done_ (done_of HT_.out (by kernel_rfl)) ?_
              try go_wp2
              go_roundg k1
              case measure => have := HK1.out; omega
              case rel => exact ⟨(y416), (wrap64 (x21_1 + 1)), sr, H', ⟨by have := HK1.out; omega⟩, ⟨R_later (Kd.R_mono HO418.out (fun _ hk => trivial))⟩, ⟨below_later HB.out⟩⟩
            · rw [if_neg c18] at H
              have c18b0 : (a0 == 6) = false := beq_eq_false_iff_ne.mpr c18
              have c18b1 : (a0 != 6) = true := bne_iff_ne.mpr c18
              replace H := bnd H
              obtain ⟨t419, A30, H⟩ := H
              replace H := bnd H
              obtain ⟨t420, A31, H⟩ := H
              replace H := ifs H
              obtain ⟨c32, H⟩ := H
              have LMc32 := Aside0.mk c32
              clear c32
              obtain ⟨y423, hy423⟩ : ∃ y_ : List Int, y_ = (x6_1 ++ t420) := ⟨_, rfl⟩
              replace H : (impl_PlainPack.l0 k1 a0 y423 l1 (l1.length : Int) (wrap64 (x21_1 + 1))) = some (r1, r2) := by first | (rw [hy423]; with_reducible exact H) | (rw [hy423]; exact H) | exact H
              have Ny423 := Aside0.mk hy423
              clear hy423
              have H' := Aside0.mk H
              clear H
              have p408 : 0 ≤ (x21_1 : Int) := dcd
              have q408 : x21_1 < (l1.length : Int) := dcd
              obtain ⟨ad408, e408, hx408_0, hx408_1⟩ := at_T27 HR1.out x21_1 p408 q408
              cases e408
              replace hx408_0 := crd HB hx408_0
              replace hx408_1 := crd HB hx408_1
              replace p408 := eq_true p408
              replace q408 := eq_true q408
              try go_wp2_with (first | ((with_reducible refine gate_dst (N := 8) rfl ?_); refine bx_ 8 #[.int .i64 0, .string (⟨#[]⟩ : ByteArray)] 27 ?_; intro gb409 hg w33 hbox hb; have BK409 := Aside0.mk (hbox); have GW409 := gwe HB hg; have GE409 := GW409; replace HO_6 := Aside0.mk (Kd.R_below (R_later HO_6.out) hb); replace HB := bst HB hb; clear hb hbox hg; obtain ⟨hcz34_0, hcz34_1, hfz34_0, hfz34_1⟩ := cl2 BK409))
              have n0_ : Aside0 (Kd.R (Kd.int .u8) 5 ((w33.setCell ⟨gb409, 0, none⟩ (.int .i64 ((rd_T27 l1 x21_1).f0))).setCell ⟨gb409, 1, none⟩ (.string ((rd_T27 l1 x21_1).f1))) w.heap.size (fun _ => True) u6 x6_1) := ⟨by (with_reducible repeat (first | apply Kd.R_alloc | apply Kd.R_drewN | apply Kd.R_drew)); exact Kd.R_mono (Kd.R_far (p := ⟨gb409, 1, none⟩) (Kd.R_far (p := ⟨gb409, 0, none⟩) (Kd.R_types HO_6.out BK409.out (by decide)) (fun _ hk => hk.2) (.int .i64 ((rd_T27 l1 x21_1).f0))) (fun _ hk => hk.2) (.string ((rd_T27 l1 x21_1).f1))) (fun _ hk => trivial)⟩
              have n1_ : Aside0 (((w33.setCell ⟨gb409, 0, none⟩ (.int .i64 ((rd_T27 l1 x21_1).f0))).setCell ⟨gb409, 1, none⟩ (.string ((rd_T27 l1 x21_1).f1))).heap[gb409]? = some (.cells #[.int .i64 ((rd_T27 l1 x21_1).f0), .string ((rd_T27 l1 x21_1).f1)] 27 (0, 0))) := ⟨blk_later BK409.out⟩
              have n2_ : Aside0 (Below w.heap.size w ((w33.setCell ⟨gb409, 0, none⟩ (.int .i64 ((rd_T27 l1 x21_1).f0))).setCell ⟨gb409, 1, none⟩ (.string ((rd_T27 l1 x21_1).f1)))) := ⟨below_later HB.out⟩
              (try clear HO_6)
              (try clear BK409)
              (try clear HB)
              generalize ((w33.setCell ⟨gb409, 0, none⟩ (.int .i64 ((rd_T27 l1 x21_1).f0))).setCell ⟨gb409, 1, none⟩ (.string ((rd_T27 l1 x21_1).f1))) = w35 at n0_ n1_ n2_ ⊢
              have HO_6 := n0_
              have BK409 := n1_
              have HB := n2_
              clear n0_ n1_ n2_
              have n0_ := Aside0.mk (Kd.R_drew HO_6.out)
              have n1_ := Aside0.mk (blk_drew BK409.out)
              have n2_ := Aside0.mk (below_drew1 HB.out)
              clear HO_6
              clear BK409
              clear HB
              have HO_6 := n0_
              have BK409 := n1_
              have HB := n2_
              clear n0_ n1_ n2_
              refine start_ (n := 8) (S := fun w' => w'.cell? ⟨gb409, 0, none⟩ = some (.int .i64 ((rd_T27 l1 x21_1).f0)) ∧ w'.cell? ⟨gb409, 1, none⟩ = some (.string ((rd_T27 l1 x21_1).f1))) (ds := []) #[false, false, false, false, false, false, false, false] (by kernel_rfl) rfl rfl ⟨(blk_cell BK409.out 0).trans rfl, (blk_cell BK409.out 1).trans rfl⟩ (fun hHeld => ?_); refine with_tabW impl_PlainPack.tab11 impl_PlainPack.bits11 (fun HT_ HW_ => ?_)
              generalize w35.drew = w36 at HO_6 BK409 HB hHeld ⊢
              refine pure_ (i := 0) (N := some 36) (v := ?_) (a' := ?_) #[true, false, false, false, false, false, false, false] rfl rfl (any_of HT_.out (by kernel_rfl)) (fun _ _ _ h => h) (Or.inl ⟨by rfl, ?_⟩) ?_ ?_
              rotate_left
              · intro w'
                go_simp
                with_reducible rfl
              rotate_left
              · simp only [Act.put, List.setIfInBounds_toArray, List.set_cons_zero, List.set_cons_succ, i64_w, i32_w]
                rfl
              refine pure_ (i := 1) (N := some 37) (v := ?_) (a' := ?_) #[true, true, false, false, false, false, false, false] rfl rfl (any_of HT_.out (by kernel_rfl)) (fun _ _ _ h => h) (Or.inl ⟨by rfl, ?_⟩) ?_ ?_
              rotate_left
              · intro w'
                go_simp
                with_reducible rfl
              rotate_left
              · simp only [Act.put, List.setIfInBounds_toArray, List.set_cons_zero, List.set_cons_succ, i64_w, i32_w]
                rfl
              refine pure_ (i := 3) (N := some 39) (v := ?_) (a' := ?_) #[true, true, false, true, false, false, false, false] rfl rfl (any_of HT_.out (by kernel_rfl)) (fun _ _ _ h => h) (Or.inl ⟨by rfl, ?_⟩) ?_ ?_
              rotate_left
              · intro w'
                go_simp
                with_reducible rfl
              rotate_left
              · simp only [Act.put, List.setIfInBounds_toArray, List.set_cons_zero, List.set_cons_succ, i64_w, i32_w]
                rfl
              refine take_ (i := 2) (N := some 38) (v := ?_) (a' := ?_) #[true, true, true, true, false, false, false, false] rfl rfl (take_ofW HT_.out HW_.out (by kernel_rfl)) (fun _ _ _ h => h) (Or.inl ⟨by rfl, ?_⟩) hHeld ?_ ?_
              rotate_left
              · rintro w' ⟨s0, s1⟩
                go_simp
                with_reducible rfl
              rotate_left
              · simp only [Act.put, List.setIfInBounds_toArray, List.set_cons_zero, List.set_cons_succ, i64_w, i32_w]
                rfl
              refine one_ (i := 4) (N := some 40) #[true, true, true, true, true, false, false, false] rfl rfl (one_of HT_.out (by kernel_rfl)) (by decide) (fun K hK => ?_)
              refine goes_ Try.func65 (by kernel_rfl) rfl #[.int .i64 a0] (by rfl) rfl rfl (by (try simp only [List.map_toArray, List.map_cons, List.map_nil]); first | done | rfl | (simp only [List.length_drop, List.length_take]; rfl)) ?_
              with_reducible refine (impl_wideOf.calls a0 t419 _ A30.out).mono ?_
              rintro e w' ⟨rfl, ⟨nd, rfl⟩⟩
              refine ⟨_, rfl, ?_⟩
              refine hK.out _ _ ⟨(blk_cell BK409.out 0).trans rfl, (blk_cell BK409.out 1).trans rfl⟩ (fun hHeld => ?_)
              clear hK K
              refine norm_ (a' := ?_) ?_ ?_
              rotate_left
              · show Act.put _ (some 40) _ = _
                simp only [Act.put, List.setIfInBounds_toArray, List.set_cons_zero, List.set_cons_succ, i64_w, i32_w]
                rfl
              refine one_ (i := 5) (N := some 41) #[true, true, true, true, true, true, false, false] rfl rfl (one_of HT_.out (by kernel_rfl)) (by decide) (fun K hK => ?_)
              refine goes_ Try.func64 (by kernel_rfl) rfl #[.int .i64 ((rd_T27 l1 x21_1).f0), .int .i64 t419] (by rfl) rfl rfl (by (try simp only [List.map_toArray, List.map_cons, List.map_nil]); first | done | rfl | (simp only [List.length_drop, List.length_take]; rfl)) ?_
              with_reducible refine (impl_WordPut.calls k1 ((rd_T27 l1 x21_1).f0) t419 t420 _ A31.out).mono ?_
              rintro e w37 ⟨v421, rfl, ho0, hb⟩
              refine ⟨_, rfl, ?_⟩
              have n0_ := Aside0.mk (Kd.R_elder' (R_later HO_6.out) (Kd.R_base ho0) hb)
              have n1_ := Aside0.mk (Kd.R_lower (Kd.R_new' ho0 (Kd.R_lt (R_later HO_6.out))) (below_size (below_later HB.out)))
              have n2_ := bkb BK409 hb
              have n3_ := bst HB hb
              clear HO_6
              clear BK409
              clear HB
              have HO_6 := n0_
              have HO422 := n1_
              have BK409 := n2_
              have HB := n3_
              clear n0_ n1_ n2_ n3_
              (try clear hb)
              (try clear hb2)
              (try clear hk)
              (try clear hi)
              (try clear ho0)
              obtain ⟨Ao39, co39, eo39⟩ := Kd.R_slice HO422.out
              (first | subst eo39 | (injection eo39 with f1_ f2_ f3_; have f4_ := f1_.symm; have f5_ := f3_.symm; clear f1_ f2_ f3_; subst f4_; subst f5_))
              refine hK.out _ _ ⟨(blk_cell BK409.out 0).trans rfl, (blk_cell BK409.out 1).trans rfl⟩ (fun hHeld => ?_)
              clear hK K
              refine norm_ (a' := ?_) ?_ ?_
              rotate_left
              · show Act.put _ (some 41) _ = _
                simp only [Act.put, List.setIfInBounds_toArray, List.set_cons_zero, List.set_cons_succ, i64_w, i32_w]
                rfl
              refine one_ (i := 6) (N := some 42) #[true, true, true, true, true, true, true, false] rfl rfl (one_of HT_.out (by kernel_rfl)) (by decide) (fun K hK => ?_)
              refine Kd.R_append_rows_step (Kd.int .u8) (w0 := w) w.heap.size (by rfl) (.tmp 36) (.tmp 41) 41 5 (.int .u8 0) 1 rfl Try.underlying41 info5 rfl (by decide) (by omega) u6 x6_1 t420 _ _ _ (fun k_ => some k_ ≠ (.slice Ao39 t420.length co39 : Value).ownBlock) (fun _ => False) rfl rfl ?aO ?aR (fun _ _ h => h) (fun _ h => h.elim) ?aF ?aB ?aS ?aL ?_
              (case aR => repeat (first | exact (Kd.R_reads' HO422.out).2.2 | (with_reducible refine Kd.C_alloc ?_ _) | (with_reducible refine Kd.C_drewN ?_ _) | (with_reducible refine Kd.C_drew ?_)))
              (case aB => exact (below_later HB.out))
              (case aF => exact (fun k_ hk => Kd.fresh' (Kd.R_lt (R_later HO422.out)) k_ hk))
              (case aO => exact (by (with_reducible repeat (first | apply Kd.R_alloc | apply Kd.R_drewN | apply Kd.R_drew)); exact Kd.R_mono HO_6.out (fun _ hk => hk.2)))
              (case aS => exact (below_size (below_later HB.out)))
              (case aL => have := LMc32.out; omega)
              intro v424 w38 ho hb hg hat
              rw [← Ny423.out] at ho
              have n0_ := Aside0.mk (blk_grown (blk_later BK409.out) hg (Kd.R_ne HO_6.out BK409.out (by decide)))
              have n1_ := Aside0.mk (Kd.R_after (ok := (fun _ => True)) (R_later HO422.out) hg hat)
              have n2_ := Aside0.mk (hb)
              have n3_ := Aside0.mk (ho)
              clear BK409
              clear HO422
              clear HB
              clear HO_6
              have BK409 := n0_
              have HO422 := n1_
              have HB := n2_
              have HO425 := n3_
              clear n0_ n1_ n2_ n3_
              clear ho hb hg hat
              refine hK.out _ _ ⟨(blk_cell BK409.out 0).trans rfl, (blk_cell BK409.out 1).trans rfl⟩ (fun hHeld => ?_)
              clear hK K
              refine norm_ (a' := ?_) ?_ ?_
              rotate_left
              · show Act.put _ (some 42) _ = _
                simp only [Act.put, List.setIfInBounds_toArray, List.set_cons_zero, List.set_cons_succ, i64_w, i32_w]
                rfl
              refine pure_ (i := 7) (N := some 6) (v := ?_) (a' := ?_) #[true, true, true, true, true, true, true, true] rfl rfl (any_of HT_.out (by kernel_rfl)) (fun _ _ _ h => h) (Or.inl ⟨by rfl, ?_⟩) ?_ ?_
              rotate_left
              · intro w'
                go_simp
                with_reducible rfl
              rotate_left
              · simp only [Act.put, List.setIfInBounds_toArray, List.set_cons_zero, List.set_cons_succ, i64_w, i32_w]
                rfl
              refine done_ (done_of HT_.out (by kernel_rfl)) ?_
              try go_wp2
              go_roundg k1
              case measure => have := HK1.out; omega
              case rel => exact ⟨(y423), (wrap64 (x21_1 + 1)), sr, H', ⟨by have := HK1.out; omega⟩, ⟨R_later (Kd.R_mono HO425.out (fun _ hk => trivial))⟩, ⟨below_later HB.out⟩⟩
          · rw [if_neg c15] at H
            have c15b0 := decide_eq_false c15
            clear c15
            simp only [Option.some.injEq, Prod.mk.injEq] at H
            obtain ⟨rfl, rfl⟩ := H
            go_wp2
            go_ret2
            exact ⟨_, by first | rfl | (simp [errW_none, errW_some] <;> rfl) | (simp [*, errW_none, errW_some] <;> rfl), by (with_reducible repeat (first | apply Kd.R_alloc | apply Kd.R_drewN | apply Kd.R_drew)); exact HO_6.out, below_later HB.out⟩
  · replace c4 := Bool.eq_false_iff.mpr c4
    subst c4
    replace H := ifn Bool.false_ne_true H
    simp only [Option.some.injEq, Prod.mk.injEq] at H
    obtain ⟨rfl, rfl⟩ := H
    go_enter Try.func36, Try.ntmps36
    go_wp2_with (first | ((with_reducible refine gate_callee (f := 61) rfl ?_); refine gl_ (some 11) Try.func61 #[.int .i64 a0, .slice A1 l1.length c1] rfl ?_; (with_reducible refine (impl_valsOk.calls k a0 _ _ l1 false _ ?side1 ?side2 A3.out).mono ?_); (case side1 => exact C_later HR1.out); (case side2 => exact HC1.out); rintro e w40 ⟨rfl, hb⟩; refine ⟨_, rfl, ?_⟩; replace HB := bst HB hb; (try clear hb)))
    go_ret2
    exact ⟨_, by first | rfl | (simp [errW_none, errW_some] <;> rfl) | (simp [*, errW_none, errW_some] <;> rfl), by first | exact Kd.R_nil _ _ _ _ _ | exact Kd.N_nil _ _ _ _ _ | exact Kd.V_nil _ _ _ _ _ | exact Kd.Q_nil _ _ _ _ _ | exact Kd.S_nil _ _ _ _ _, below_later HB.out⟩

/-! ### impl_structNode: function 37 -/
def impl_structNode.l0 : Nat → List (S57) → List (List (S57)) → Int → Int → Option ((List (S57)))
  | 0, _, _, _, _ => none
  | k + 1, x5, x13, x14, x15 => if x15 < x14 then (if 0 ≤ x15 then (if x15 < (x13.length : Int) then (if x5.length + (rd_L6 x13 x15).length < 2932031007402 then (impl_structNode.l0 k (x5 ++ (rd_L6 x13 x15)) x13 x14 (wrap64 (x15 + 1))) else (none)) else (none)) else (none)) else (some x5)
def impl_structNode.f (k : Nat) (a0 : Int) (l1 : List (List (S57))) : Option ((List (S57))) := impl_structNode.l0 k (([(⟨12, a0, 0, (⟨#[]⟩ : ByteArray), (l1.length : Int)⟩ : S57)] : List (S57))) l1 (l1.length : Int) 0
set_option maxHeartbeats 8000000 in
set_option maxRecDepth 100000 in
theorem impl_structNode.calls (k : Nat) (a0 : Int) (A1 : Option Addr) (c1 : Nat) (l1 : List (List (S57))) (r : List (S57)) (w : World) (hr1 : Kd.C (Kd.slice 57 k57) w A1 l1.length l1) (hc1 : l1.length ≤ c1) (h : impl_structNode.f k a0 l1 = some r) :
    Calls Try.prog 37 #[.int .i64 a0, .slice A1 l1.length c1] w fun e w' => ∃ v0_ : Value, e = .returned (v0_) ∧ Kd.R k57 57 w' w.heap.size (fun _ => True) v0_ r ∧ Below w.heap.size w w' := by
  have hu57 := Try.underlying57
  have HR1 := Aside0.mk hr1
  have HC1 := Aside0.mk hc1
  clear hr1 hc1
  have HB := Aside0.mk (Below.refl w.heap.size w)
  have H : (impl_structNode.l0 k (([(⟨12, a0, 0, (⟨#[]⟩ : ByteArray), (l1.length : Int)⟩ : S57)] : List (S57))) l1 (l1.length : Int) 0) = some r := h
  clear h
  obtain ⟨y426, hy426⟩ : ∃ y_ : List (S57), y_ = (([(⟨12, a0, 0, (⟨#[]⟩ : ByteArray), (l1.length : Int)⟩ : S57)] : List (S57))) := ⟨_, rfl⟩
  replace H : (impl_structNode.l0 k y426 l1 (l1.length : Int) 0) = some r := by first | (rw [hy426]; with_reducible exact H) | (rw [hy426]; exact H) | exact H
  have Ny426 := Aside0.mk hy426
  clear hy426
  have H' := Aside0.mk H
  clear H
  go_enter Try.func37, Try.ntmps37
  go_wp2_with (first | ((with_reducible refine gate_dst (N := 12) rfl ?_); refine Kd.R_lit k57 _ 57 ?hg (N := 12) ?hd (xs := ([(⟨12, a0, 0, (⟨#[]⟩ : ByteArray), (l1.length : Int)⟩ : S57)] : List (S57))) (inner := [.int .i64 12, .int .i64 a0, .int .i64 0, .string (⟨#[]⟩ : ByteArray), .int .i64 (l1.length : Int)]) (ok := fun _ => True) (okp := fun _ => True) ?hr ?hp (fun _ hk => hk) trivial (Below.refl _ _) (Nat.le_refl _) (by simp) ?_; (case hd => rfl); (case hg => rfl); (case hr => first | (go_simp; done) | (go_simp; rfl)); (case hp => exact (Reps.c5 (show Kd.M k57 _ _ _ (⟨12, a0, 0, (⟨#[]⟩ : ByteArray), (l1.length : Int)⟩ : S57) [.int .i64 12, .int .i64 a0, .int .i64 0, .string (⟨#[]⟩ : ByteArray), .int .i64 (l1.length : Int)] from (k57_mkM _ _ _ (⟨12, a0, 0, (⟨#[]⟩ : ByteArray), (l1.length : Int)⟩ : S57) )) (Reps.none _ _))); intro v427 w3 ho4 hb hg_ hnew_; clear hg_ hnew_; (first | rw [← Ny426.out] at ho4 | (simp only [Int.reduceToNat] at ho4; rw [← Ny426.out] at ho4)); have HO428 := Aside0.mk (Kd.R_lower ho4 (below_size (below_later HB.out))); replace HB := bst HB hb; clear hb ho4))
  go_loopg [5, 15] k (fun kq v5 v15 w' => ∃ (x5_1 : List (S57)) (x15_1 : Int), v15 = .int .i64 x15_1 ∧ Aside0 (impl_structNode.l0 kq x5_1 l1 (l1.length : Int) x15_1 = some r) ∧ Aside0 (kq ≤ k) ∧ Aside0 (Kd.R k57 57 w' w.heap.size (fun _ => True) v5 x5_1) ∧ Aside0 (Below w.heap.size w w'))
  case atStart => exact ⟨(y426), (0), sr, H', ⟨Nat.le_refl _⟩, ⟨R_later HO428.out⟩, ⟨below_later HB.out⟩⟩
  case round =>
    clear H'
    try clear c1
    obtain ⟨x5_1, x15_1, rfl, HA, HK1, HO_5, HB⟩ := hrel
    cases gk with
    | zero => exact absurd HA.out (by simp [impl_structNode.l0])
    | succ k1 =>
      have H := HA.out
      clear HA
      simp only [impl_structNode.l0] at H
      by_cases c5 : x15_1 < (l1.length : Int)
      · rw [if_pos c5] at H
        have c5b0 := decide_eq_true c5
        clear c5
        replace H := ifd H
        obtain ⟨c6b0, H⟩ := H
        replace H := ifd H
        obtain ⟨c7b0, H⟩ := H
        replace H := ifs H
        obtain ⟨c8, H⟩ := H
        have LMc8 := Aside0.mk c8
        clear c8
        obtain ⟨y430, hy430⟩ : ∃ y_ : List (S57), y_ = (x5_1 ++ (rd_L6 l1 x15_1)) := ⟨_, rfl⟩
        replace H : (impl_structNode.l0 k1 y430 l1 (l1.length : Int) (wrap64 (x15_1 + 1))) = some r := by first | (rw [hy430]; with_reducible exact H) | (rw [hy430]; exact H) | exact H
        have Ny430 := Aside0.mk hy430
        clear hy430
        have H' := Aside0.mk H
        clear H
        have p429 : 0 ≤ (x15_1 : Int) := dcd
        have q429 : x15_1 < (l1.length : Int) := dcd
        obtain ⟨ad429, A429_0, c429_0, e429, hx429_0, hl429_0, hi429_0⟩ := at_L6 HR1.out x15_1 p429 q429
        cases e429
        replace hx429_0 := crd HB hx429_0
        have HR429_0 := Aside0.mk hi429_0
        have HC429_0 := Aside0.mk hl429_0
        clear hi429_0 hl429_0
        replace p429 := eq_true p429
        replace q429 := eq_true q429
        go_wp2_with (first | ((with_reducible refine gate_builtin (b := .append) (xs := #[.tmp 19, .tmp 20]) rfl ?_); at_builtin; refine Kd.R_append_rows k57 (w0 := w) w.heap.size rfl (.tmp 19) (.tmp 20) 34 57 (.agg #[(.int .i64 0), (.int .i64 0), (.int .i64 0), (.string ⟨#[]⟩), (.int .i64 0)]) 48 rfl Try.underlying34 info57 rfl (by decide) (by omega) u5 x5_1 (rd_L6 l1 x15_1) _ _ _ (fun _ => True) (fun _ => False) rfl rfl ?aO ?aR (fun _ _ h => h) (fun _ h => h.elim) ?aF ?aB ?aS ?aL ?_; (case aR => repeat (first | exact (Kd.C_below HR429_0.out HB.out) | (with_reducible refine Kd.C_alloc ?_ _) | (with_reducible refine Kd.C_drewN ?_ _) | (with_reducible refine Kd.C_drew ?_))); (case aB => exact (below_later HB.out)); (case aF => exact (fun _ _ => trivial)); (case aO => exact (R_later HO_5.out)); (case aS => exact (below_size (below_later HB.out))); (case aL => have := LMc8.out; omega); intro v431 w9 ho hb hg hat; rw [← Ny430.out] at ho; have n0_ := Aside0.mk (hb); have n1_ := Aside0.mk (ho); clear HB; clear HO_5; have HB := n0_; have HO432 := n1_; clear n0_ n1_; clear ho hb hg hat))
        go_roundg k1
        case measure => have := HK1.out; omega
        case rel => exact ⟨(y430), (wrap64 (x15_1 + 1)), sr, H', ⟨by have := HK1.out; omega⟩, ⟨R_later HO432.out⟩, ⟨below_later HB.out⟩⟩
      · rw [if_neg c5] at H
        have c5b0 := decide_eq_false c5
        clear c5
        obtain rfl := Option.some.inj H
        go_wp2
        go_ret
        exact ⟨_, by first | rfl | (simp [errW_none, errW_some] <;> rfl) | (simp [*, errW_none, errW_some] <;> rfl), by (with_reducible repeat (first | apply Kd.R_alloc | apply Kd.R_drewN | apply Kd.R_drew)); exact HO_5.out, below_later HB.out⟩

/-! ### impl_intNode: function 38 -/
def impl_intNode.f (a0 : Int) (a1 : Int) : Option (Int × Int × Int × ByteArray × Int) := some (5, a0, a1, (⟨#[]⟩ : ByteArray), 0)
set_option maxHeartbeats 8000000 in
set_option maxRecDepth 100000 in
theorem impl_intNode.calls (a0 : Int) (a1 : Int) (r1 : Int) (r2 : Int) (r3 : Int) (r4 : ByteArray) (r5 : Int) (w : World) (h : impl_intNode.f a0 a1 = some (r1, r2, r3, r4, r5)) :
    Calls Try.prog 38 #[.int .i64 a0, .int .i64 a1] w fun e w' => e = .returned (.agg #[.int .i64 r1, .int .i64 r2, .int .i64 r3, .string r4, .int .i64 r5]) ∧ Below w.heap.size w w' := by
  have hu57 := Try.underlying57
  have HB := Aside0.mk (Below.refl w.heap.size w)
  have H : (some (5, a0, a1, (⟨#[]⟩ : ByteArray), 0)) = some (r1, r2, r3, r4, r5) := h
  clear h
  simp only [Option.some.injEq, Prod.mk.injEq] at H
  obtain ⟨rfl, rfl, rfl, rfl, rfl⟩ := H
  go_enter Try.func38, Try.ntmps38
  go_wp2_with (first | ((with_reducible refine gate_dst (N := 4) rfl ?_); refine bx_ 4 #[.int .i64 0, .int .i64 0, .int .i64 0, .string (⟨#[]⟩ : ByteArray), .int .i64 0] 57 ?_; intro gb433 hg w3 hbox hb; have BK433 := Aside0.mk (hbox); have GW433 := gwe HB hg; have GE433 := GW433; replace HB := bst HB hb; clear hb hbox hg; obtain ⟨hcz4_0, hcz4_1, hcz4_2, hcz4_3, hcz4_4, hfz4_0, hfz4_1, hfz4_2, hfz4_3, hfz4_4⟩ := cl5 BK433))
  refine bodyPost_ret (results_cell_row rfl _ _ gb433 57 #[.int .i64 5, .int .i64 a0, .int .i64 a1, .string (⟨#[]⟩ : ByteArray), .int .i64 0] (0, 0) _ rfl (by (with_reducible repeat (first | refine blk_drewN ?_ _ | refine blk_drew ?_ | refine blk_alloc ?_ _)); refine blk_put (cs := #[.int .i64 5, .int .i64 a0, .int .i64 a1, .string (⟨#[]⟩ : ByteArray), .int .i64 0]) ?_ 4 _ rfl; (with_reducible repeat (first | refine blk_drewN ?_ _ | refine blk_drew ?_ | refine blk_alloc ?_ _)); refine blk_put (cs := #[.int .i64 5, .int .i64 a0, .int .i64 a1, .string (⟨#[]⟩ : ByteArray), .int .i64 0]) ?_ 3 _ rfl; (with_reducible repeat (first | refine blk_drewN ?_ _ | refine blk_drew ?_ | refine blk_alloc ?_ _)); refine blk_put (cs := #[.int .i64 5, .int .i64 a0, .int .i64 0, .string (⟨#[]⟩ : ByteArray), .int .i64 0]) ?_ 2 _ rfl; (with_reducible repeat (first | refine blk_drewN ?_ _ | refine blk_drew ?_ | refine blk_alloc ?_ _)); refine blk_put (cs := #[.int .i64 5, .int .i64 0, .int .i64 0, .string (⟨#[]⟩ : ByteArray), .int .i64 0]) ?_ 1 _ rfl; (with_reducible repeat (first | refine blk_drewN ?_ _ | refine blk_drew ?_ | refine blk_alloc ?_ _)); refine blk_put (cs := #[.int .i64 0, .int .i64 0, .int .i64 0, .string (⟨#[]⟩ : ByteArray), .int .i64 0]) ?_ 0 _ rfl; (with_reducible repeat (first | refine blk_drewN ?_ _ | refine blk_drew ?_ | refine blk_alloc ?_ _)); exact BK433.out) Try.underlying57 rfl (by kernel_rfl)) rfl ?_
  exact fin_ (below_later HB.out)

/-! ### impl_crcNumber: function 112 -/
def impl_crcNumber.l0 : Nat → Int → Int → Option (Int)
  | 0, _, _ => none
  | k + 1, x0, x4 => if x4 < 8 then (if (Int.tmod x0 2) = 1 then (impl_crcNumber.l0 k (Go.bits .xor .i64 (wrap64 (Int.tdiv x0 2)) 3988292384) (wrap64 (x4 + 1))) else (impl_crcNumber.l0 k (wrap64 (Int.tdiv x0 2)) (wrap64 (x4 + 1)))) else (some x0)
def impl_crcNumber.f (k : Nat) (a0 : Int) : Option (Int) := impl_crcNumber.l0 k a0 0
set_option maxHeartbeats 8000000 in
set_option maxRecDepth 100000 in
theorem impl_crcNumber.calls (k : Nat) (a0 : Int) (r : Int) (w : World) (h : impl_crcNumber.f k a0 = some r) :
    Calls Try.prog 112 #[.int .i64 a0] w fun e w' => e = .returned (.int .i64 r) ∧ Drawn0 w w' := by
  have H : (impl_crcNumber.l0 k a0 0) = some r := h
  clear h
  have H' := Aside0.mk H
  clear H
  go_enter Try.func112, Try.ntmps112
  go_wp2
  go_loopg [0, 4] k (fun kq v0 v4 w' => ∃ (x0_1 : Int) (x4_1 : Int), v0 = .int .i64 x0_1 ∧ v4 = .int .i64 x4_1 ∧ Aside0 (impl_crcNumber.l0 kq x0_1 x4_1 = some r) ∧ Aside0 (kq ≤ k) ∧ Drawn0 w w')
  case atStart => exact ⟨(a0), (0), sr, sr, H', ⟨Nat.le_refl _⟩, by repeat (first | exact Drawn0.refl _ | apply Drawn0.step)⟩
  case round =>
    clear H'
    obtain ⟨x0_1, x4_1, rfl, rfl, HA, HK1, ⟨m1, rfl⟩⟩ := hrel
    cases gk with
    | zero => exact absurd HA.out (by simp [impl_crcNumber.l0])
    | succ k1 =>
      have H := HA.out
      clear HA
      simp only [impl_crcNumber.l0] at H
      by_cases c2 : x4_1 < 8
      · rw [if_pos c2] at H
        have c2b0 := decide_eq_true c2
        clear c2
        by_cases c3 : (Int.tmod x0_1 2) = 1
        · rw [if_pos c3] at H
          have c3b0 : ((Int.tmod x0_1 2) == 1) = true := beq_iff_eq.mpr c3
          have c3b1 : ((Int.tmod x0_1 2) != 1) = false := bne_eq_false_iff_eq.mpr c3
          clear c3
          have H' := Aside0.mk H
          clear H
          go_wp2
          go_roundg k1
          case measure => have := HK1.out; omega
          case rel => exact ⟨(Go.bits .xor .i64 (wrap64 (Int.tdiv x0_1 2)) 3988292384), (wrap64 (x4_1 + 1)), sr, sr, H', ⟨by have := HK1.out; omega⟩, by repeat (first | exact Drawn0.refl _ | apply Drawn0.step)⟩
        · rw [if_neg c3] at H
          have c3b0 : ((Int.tmod x0_1 2) == 1) = false := beq_eq_false_iff_ne.mpr c3
          have c3b1 : ((Int.tmod x0_1 2) != 1) = true := bne_iff_ne.mpr c3
          have H' := Aside0.mk H
          clear H
          go_wp2
          go_roundg k1
          case measure => have := HK1.out; omega
          case rel => exact ⟨(wrap64 (Int.tdiv x0_1 2)), (wrap64 (x4_1 + 1)), sr, sr, H', ⟨by have := HK1.out; omega⟩, by repeat (first | exact Drawn0.refl _ | apply Drawn0.step)⟩
      · rw [if_neg c2] at H
        have c2b0 := decide_eq_false c2
        clear c2
        obtain rfl := Option.some.inj H
        go_wp2
        go_ret
        exact ⟨by first | rfl | (simp; done) | (simp [*]; done), by repeat (first | exact Drawn0.refl _ | apply Drawn0.step)⟩

/-! ### impl_CrcTable: function 99 -/
def impl_CrcTable.l0 : Nat → List Int → Int → Option (List Int)
  | 0, _, _ => none
  | k + 1, x1, x4 => if x4 < 256 then ((impl_crcNumber.f k x4).bind fun t437 => (if x1.length < 17592186044416 then (impl_CrcTable.l0 k (x1 ++ [t437]) (wrap64 (x4 + 1))) else (none))) else (some x1)
def impl_CrcTable.f (k : Nat)  : Option (List Int) := impl_CrcTable.l0 k (([] : List Int)) 0
set_option maxHeartbeats 8000000 in
set_option maxRecDepth 100000 in
theorem impl_CrcTable.calls (k : Nat)  (r : List Int) (w : World) (h : impl_CrcTable.f k  = some r) :
    Calls Try.prog 99 #[] w fun e w' => ∃ v0_ : Value, e = .returned (v0_) ∧ Kd.R (Kd.int .i64) 3 w' w.heap.size (fun _ => True) v0_ r ∧ Below w.heap.size w w' := by
  have HB := Aside0.mk (Below.refl w.heap.size w)
  have H : (impl_CrcTable.l0 k (([] : List Int)) 0) = some r := h
  clear h
  obtain ⟨y434, hy434⟩ : ∃ y_ : List Int, y_ = (([] : List Int)) := ⟨_, rfl⟩
  replace H : (impl_CrcTable.l0 k y434 0) = some r := by first | (rw [hy434]; with_reducible exact H) | (rw [hy434]; exact H) | exact H
  have Ny434 := Aside0.mk hy434
  clear hy434
  have H' := Aside0.mk H
  clear H
  go_enter Try.func99, Try.ntmps99
  go_wp2_with (first | ((with_reducible refine gate_dst (N := 3) rfl ?_); refine Kd.R_lit (Kd.int .i64) _ 3 ?hg (N := 3) ?hd (xs := ([] : List Int)) (inner := []) (ok := fun _ => True) (okp := fun _ => True) ?hr ?hp (fun _ hk => hk) trivial (Below.refl _ _) (Nat.le_refl _) (by simp) ?_; (case hd => rfl); (case hg => rfl); (case hr => first | (go_simp; done) | (go_simp; rfl)); (case hp => exact (Reps.none _ _)); intro v435 w1 ho2 hb hg_ hnew_; clear hg_ hnew_; (first | rw [← Ny434.out] at ho2 | (simp only [Int.reduceToNat] at ho2; rw [← Ny434.out] at ho2)); have HO436 := Aside0.mk (Kd.R_lower ho2 (below_size (below_later HB.out))); replace HB := bst HB hb; clear hb ho2))
  go_loopg [1, 4] k (fun kq v1 v4 w' => ∃ (x1_1 : List Int) (x4_1 : Int), v4 = .int .i64 x4_1 ∧ Aside0 (impl_CrcTable.l0 kq x1_1 x4_1 = some r) ∧ Aside0 (kq ≤ k) ∧ Aside0 (Kd.R (Kd.int .i64) 3 w' w.heap.size (fun _ => True) v1 x1_1) ∧ Aside0 (Below w.heap.size w w'))
  case atStart => exact ⟨(y434), (0), sr, H', ⟨Nat.le_refl _⟩, ⟨R_later HO436.out⟩, ⟨below_later HB.out⟩⟩
  case round =>
    clear H'
    obtain ⟨x1_1, x4_1, rfl, HA, HK1, HO_1, HB⟩ := hrel
    cases gk with
    | zero => exact absurd HA.out (by simp [impl_CrcTable.l0])
    | succ k1 =>
      have H := HA.out
      clear HA
      simp only [impl_CrcTable.l0] at H
      by_cases c3 : x4_1 < 256
      · rw [if_pos c3] at H
        have c3b0 := decide_eq_true c3
        clear c3
        replace H := bnd H
        obtain ⟨t437, A4, H⟩ := H
        replace H := ifs H
        obtain ⟨c5, H⟩ := H
        have LMc5 := Aside0.mk c5
        clear c5
        obtain ⟨y438, hy438⟩ : ∃ y_ : List Int, y_ = (x1_1 ++ [t437]) := ⟨_, rfl⟩
        replace H : (impl_CrcTable.l0 k1 y438 (wrap64 (x4_1 + 1))) = some r := by first | (rw [hy438]; with_reducible exact H) | (rw [hy438]; exact H) | exact H
        have Ny438 := Aside0.mk hy438
        clear hy438
        have H' := Aside0.mk H
        clear H
        go_wp2_with (first | ((with_reducible refine gate_callee (f := 112) rfl ?_); refine gl_ (some 9) Try.func112 #[.int .i64 x4_1] rfl ?_; (with_reducible refine (impl_crcNumber.calls k1 x4_1 t437 _ A4.out).mono ?_); rintro e w' ⟨rfl, ⟨nd, rfl⟩⟩; refine ⟨_, rfl, ?_⟩) | ((with_reducible refine gate_builtin (b := .append) (xs := #[.tmp 7, .tmp 10]) rfl ?_); at_builtin; refine Kd.R_append (Kd.int .i64) (w0 := w) w.heap.size rfl (.tmp 7) (.tmp 10) 83 3 (.int .i64 0) 8 rfl Try.underlying83 info3 rfl (by decide) (by omega) u1 x1_1 t437 [.int .i64 t437] (fun _ => True) (fun _ => False) rfl rfl ?aP (fun _ hk => hk.elim) ?aF ?aO ?aB ?aS ?aL ?_; (case aP => exact rfl); (case aB => exact (below_later HB.out)); (case aF => exact (fun _ _ => trivial)); (case aO => exact (R_later HO_1.out)); (case aS => exact (below_size (below_later HB.out))); (case aL => have := LMc5.out; omega); intro v439 w6 ho hb hg hat; rw [← Ny438.out] at ho; have n0_ := Aside0.mk (hb); have n1_ := Aside0.mk (ho); clear HB; clear HO_1; have HB := n0_; have HO440 := n1_; clear n0_ n1_; clear ho hb hg hat))
        go_roundg k1
        case measure => have := HK1.out; omega
        case rel => exact ⟨(y438), (wrap64 (x4_1 + 1)), sr, H', ⟨by have := HK1.out; omega⟩, ⟨R_later HO440.out⟩, ⟨below_later HB.out⟩⟩
      · rw [if_neg c3] at H
        have c3b0 := decide_eq_false c3
        clear c3
        obtain rfl := Option.some.inj H
        go_wp2
        go_ret
        exact ⟨_, by first | rfl | (simp [errW_none, errW_some] <;> rfl) | (simp [*, errW_none, errW_some] <;> rfl), by (with_reducible repeat (first | apply Kd.R_alloc | apply Kd.R_drewN | apply Kd.R_drew)); exact HO_1.out, below_later HB.out⟩

/-! ### impl_CrcMore: function 84 -/
def impl_CrcMore.l0 : Nat → Int → List Int → List Int → Int → Int → Option (Int)
  | 0, _, _, _, _, _ => none
  | k + 1, x0, x5, x14, x15, x16 => if x16 < x15 then (if 0 ≤ x16 then (if x16 < (x14.length : Int) then (if 0 ≤ (Go.bits .xor .i64 (Go.bits .and .i64 x0 255) (wrap64 (rd x14 x16))) then (if (Go.bits .xor .i64 (Go.bits .and .i64 x0 255) (wrap64 (rd x14 x16))) < (x5.length : Int) then (impl_CrcMore.l0 k (Go.bits .xor .i64 (rd x5 (Go.bits .xor .i64 (Go.bits .and .i64 x0 255) (wrap64 (rd x14 x16)))) (x0 / 256)) x5 x14 x15 (wrap64 (x16 + 1))) else (none)) else (none)) else (none)) else (none)) else (some (Go.bits .xor .i64 x0 4294967295))
def impl_CrcMore.f (k : Nat) (a0 : Int) (l1 : List Int) : Option (Int) := (impl_within.f a0 0 4294967295).bind fun t441 => (if t441 = true then ((impl_CrcTable.f k).bind fun t442 => (impl_CrcMore.l0 k (Go.bits .xor .i64 a0 4294967295) t442 l1 (l1.length : Int) 0)) else (some (-1)))
set_option maxHeartbeats 8000000 in
set_option maxRecDepth 100000 in
theorem impl_CrcMore.calls (k : Nat) (a0 : Int) (A1 : Option Addr) (c1 : Nat) (l1 : List Int) (r : Int) (w : World) (hr1 : Kd.C (Kd.int .u8) w A1 l1.length l1) (hc1 : l1.length ≤ c1) (h : impl_CrcMore.f k a0 l1 = some r) :
    Calls Try.prog 84 #[.int .i64 a0, .slice A1 l1.length c1] w fun e w' => e = .returned (.int .i64 r) ∧ Below w.heap.size w w' := by
  have HR1 := Aside0.mk hr1
  have HC1 := Aside0.mk hc1
  clear hr1 hc1
  have HB := Aside0.mk (Below.refl w.heap.size w)
  have H : ((impl_within.f a0 0 4294967295).bind fun t441 => (if t441 = true then ((impl_CrcTable.f k).bind fun t442 => (impl_CrcMore.l0 k (Go.bits .xor .i64 a0 4294967295) t442 l1 (l1.length : Int) 0)) else (some (-1)))) = some r := h
  clear h
  replace H := bnd H
  obtain ⟨t441, A3, H⟩ := H
  by_cases c4 : t441 = true
  · subst c4
    replace H := ifp rfl H
    replace H := bnd H
    obtain ⟨t442, A5, H⟩ := H
    have H' := Aside0.mk H
    clear H
    go_enter Try.func84, Try.ntmps84
    go_wp2_with (first | ((with_reducible refine gate_callee (f := 48) rfl ?_); refine gl_ (some 9) Try.func48 #[.int .i64 a0, .int .i64 0, .int .i64 4294967295] rfl ?_; (with_reducible refine (impl_within.calls a0 0 4294967295 true _ A3.out).mono ?_); rintro e w' ⟨rfl, ⟨nd, rfl⟩⟩; refine ⟨_, rfl, ?_⟩) | ((with_reducible refine gate_callee (f := 99) rfl ?_); refine gl_ (some 11) Try.func99 #[] rfl ?_; (with_reducible refine (impl_CrcTable.calls k  t442 _ A5.out).mono ?_); rintro e w6 ⟨v443, rfl, ho0, hb⟩; refine ⟨_, rfl, ?_⟩; have HO444 := Aside0.mk (Kd.R_lower ho0 (below_size (below_later HB.out))); replace HB := bst HB hb; (try clear hb); (try clear ho0)))
    go_loopg [0, 16] k (fun kq v0 v16 w' => ∃ (x0_1 : Int) (x16_1 : Int), v0 = .int .i64 x0_1 ∧ v16 = .int .i64 x16_1 ∧ Aside0 (impl_CrcMore.l0 kq x0_1 t442 l1 (l1.length : Int) x16_1 = some r) ∧ Aside0 (kq ≤ k) ∧ Aside0 (Kd.R (Kd.int .i64) 3 w' w.heap.size (fun _ => True) v443 t442) ∧ Aside0 (Below w.heap.size w w'))
    case atStart => exact ⟨(Go.bits .xor .i64 a0 4294967295), (0), sr, sr, H', ⟨Nat.le_refl _⟩, ⟨R_later HO444.out⟩, ⟨below_later HB.out⟩⟩
    case round =>
      clear H'
      try clear c1
      try clear c4
      obtain ⟨x0_1, x16_1, rfl, rfl, HA, HK1, HO_5, HB⟩ := hrel
      cases gk with
      | zero => exact absurd HA.out (by simp [impl_CrcMore.l0])
      | succ k1 =>
        have H := HA.out
        clear HA
        simp only [impl_CrcMore.l0] at H
        by_cases c7 : x16_1 < (l1.length : Int)
        · rw [if_pos c7] at H
          have c7b0 := decide_eq_true c7
          clear c7
          replace H := ifd H
          obtain ⟨c8b0, H⟩ := H
          replace H := ifd H
          obtain ⟨c9b0, H⟩ := H
          obtain ⟨ji10, hji10⟩ : ∃ j_ : Int, (Go.bits .xor .i64 (Go.bits .and .i64 x0_1 255) (wrap64 (rd l1 x16_1))) = j_ := ⟨_, rfl⟩
          replace H : (if 0 ≤ (ji10) then (if (ji10) < (t442.length : Int) then (impl_CrcMore.l0 k1 (Go.bits .xor .i64 (rd t442 (ji10)) (x0_1 / 256)) t442 l1 (l1.length : Int) (wrap64 (x16_1 + 1))) else (none)) else (none)) = some r := by first | (rw [hji10] at H; exact H) | (simp only [hji10] at H ⊢; exact H)
          replace H := ifd H
          obtain ⟨c11b0, H⟩ := H
          replace H := ifd H
          obtain ⟨c12b0, H⟩ := H
          have H' := Aside0.mk H
          clear H
          have p445 : 0 ≤ (x16_1 : Int) := dcd
          have q445 : x16_1 < (l1.length : Int) := dcd
          obtain ⟨ad445, e445, hx445_0⟩ := Kd.at_int HR1.out x16_1 p445 q445
          cases e445
          replace hx445_0 := crd HB hx445_0
          replace p445 := eq_true p445
          replace q445 := eq_true q445
          obtain ⟨Ao13, co13, eo13⟩ := Kd.R_slice HO_5.out
          subst eo13
          have p446 : 0 ≤ ((ji10) : Int) := dcd
          have q446 : (ji10) < (t442.length : Int) := dcd
          obtain ⟨ad446, e446, hx446_0⟩ := Kd.at_int (Kd.R_reads' HO_5.out).2.2 (ji10) p446 q446
          cases e446
          replace p446 := eq_true p446
          replace q446 := eq_true q446
          go_wp2
          go_roundg k1
          case measure => have := HK1.out; omega
          case rel => exact ⟨(Go.bits .xor .i64 (rd t442 (ji10)) (x0_1 / 256)), (wrap64 (x16_1 + 1)), (by first | rfl | (simp; done) | (simp only [← hji10] <;> (first | rfl | simp)) | (simp [*]; done)), sr, H', ⟨by have := HK1.out; omega⟩, ⟨R_later HO_5.out⟩, ⟨below_later HB.out⟩⟩
        · rw [if_neg c7] at H
          have c7b0 := decide_eq_false c7
          clear c7
          obtain rfl := Option.some.inj H
          go_wp2
          go_ret
          exact fin_ (below_later HB.out)
  · replace c4 := Bool.eq_false_iff.mpr c4
    subst c4
    replace H := ifn Bool.false_ne_true H
    obtain rfl := Option.some.inj H
    go_enter Try.func84, Try.ntmps84
    go_wp2_with (first | ((with_reducible refine gate_callee (f := 48) rfl ?_); refine gl_ (some 9) Try.func48 #[.int .i64 a0, .int .i64 0, .int .i64 4294967295] rfl ?_; (with_reducible refine (impl_within.calls a0 0 4294967295 false _ A3.out).mono ?_); rintro e w' ⟨rfl, ⟨nd, rfl⟩⟩; refine ⟨_, rfl, ?_⟩))
    go_ret
    exact fin_ (below_later HB.out)

/-! ### impl_CrcOf: function 66 -/
def impl_CrcOf.f (k : Nat) (l0 : List Int) : Option (Int) := (impl_CrcMore.f k 0 l0).bind fun t447 => (some t447)
set_option maxHeartbeats 8000000 in
set_option maxRecDepth 100000 in
theorem impl_CrcOf.calls (k : Nat) (A0 : Option Addr) (c0 : Nat) (l0 : List Int) (r : Int) (w : World) (hr0 : Kd.C (Kd.int .u8) w A0 l0.length l0) (hc0 : l0.length ≤ c0) (h : impl_CrcOf.f k l0 = some r) :
    Calls Try.prog 66 #[.slice A0 l0.length c0] w fun e w' => e = .returned (.int .i64 r) ∧ Below w.heap.size w w' := by
  have HR0 := Aside0.mk hr0
  have HC0 := Aside0.mk hc0
  clear hr0 hc0
  have HB := Aside0.mk (Below.refl w.heap.size w)
  have H : ((impl_CrcMore.f k 0 l0).bind fun t447 => (some t447)) = some r := h
  clear h
  replace H := bnd H
  obtain ⟨t447, A2, H⟩ := H
  obtain rfl := Option.some.inj H
  go_enter Try.func66, Try.ntmps66
  go_wp2_with (first | ((with_reducible refine gate_callee (f := 84) rfl ?_); refine gl_ (some 4) Try.func84 #[.int .i64 0, .slice A0 l0.length c0] rfl ?_; (with_reducible refine (impl_CrcMore.calls k 0 _ _ l0 t447 _ ?side1 ?side2 A2.out).mono ?_); (case side1 => exact C_later HR0.out); (case side2 => exact HC0.out); rintro e w3 ⟨rfl, hb⟩; refine ⟨_, rfl, ?_⟩; replace HB := bst HB hb; (try clear hb)))
  go_ret
  exact fin_ (below_later HB.out)

end Go.Proofs.Ytgiljoeekpfpmaa.PFnExactDictPack
