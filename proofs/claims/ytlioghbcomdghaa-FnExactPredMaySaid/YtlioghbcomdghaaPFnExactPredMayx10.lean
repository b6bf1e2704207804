/- The machine's side of FnExactPredMay, written by wip/tools/hyb.py of this repo: each Go function as a plain Lean function, and the proof that the call comes to just its answer. No condition. -/
import Derived.Test.YtlioghbcomdghaaPFnExactPredMayx0
import Derived.Test.YtlioghbcomdghaaPFnExactPredMayx2
import Derived.Test.YtlioghbcomdghaaPFnExactPredMayx8
import Derived.Test.YtlioghbcomdghaaPFnExactPredMayx9
namespace Go.Proofs.Ytlioghbcomdghaa.PFnExactPredMay
open Go.RowKit Go.Proofs.YtlioghbcomdghaaW.PrintWords Go.Proofs.YtlioghbcomdghaaW.PrintLast Go.Proofs.YtlioghbcomdghaaW.PrintMore Go.Proofs.YtlioghbcomdghaaW.PrintMore2
attribute [local go_sem] max2_int min2_int max_two min_two max_three min_three max_four min_four   -- for this text's walks alone
set_option linter.unusedVariables false
set_option linter.unusedSimpArgs false

attribute [local go_sem high] eqA61
/-! ### impl_PredOk: function 24 -/
mutual
def impl_PredOk.j0 : Nat → List (S57) → List (S61) → Bool → Option (Bool)
 | 0, _, _, _ => none
 | k + 1, x0, x1, x16 => if x16 = true then (some false) else (if 0 ≤ (x1.length : Int) then (if ((x1.length : Int) : Int).toNat ≤ 35184372088832 then (impl_PredOk.l0 k x0 x1 (List.replicate ((x1.length : Int) : Int).toNat 0) x1 (x1.length : Int) 0) else (none)) else (none))
def impl_PredOk.l0 : Nat → List (S57) → List (S61) → List Int → List (S61) → Int → Int → Option (Bool)
 | 0, _, _, _, _, _, _ => none
 | k + 1, x0, x1, x5, x20, x21, x22 => if x22 < x21 then (if 0 ≤ x22 then (if x22 < (x20.length : Int) then (if x22 < (x5.length : Int) then ((some (x5.set (x22 : Int).toNat x22 : List Int)).bind fun y370 => ((impl_within.f ((rd_T61 x20 x22).f0) 1 4).bind fun t371 => (if t371 = true then ((impl_plainPred.f k x0 ((rd_T61 x20 x22).f0) ((rd_T61 x20 x22).f1) ((rd_T61 x20 x22).f2.f0) ((rd_T61 x20 x22).f2.f1) ((rd_T61 x20 x22).f3) ((rd_T61 x20 x22).f4)).bind fun t372 => (if t372 = true then (impl_PredOk.l0 k x0 x1 y370 x20 x21 (wrap64 (x22 + 1))) else (some false))) else ((impl_isPair.f ((rd_T61 x20 x22).f0)).bind fun t373 => (if t373 = true then (if x22 = 0 then (impl_PredOk.j2 k x0 x1 y370 x22 x20 x21 x22 true ((rd_T61 x20 x22).f0) ((rd_T61 x20 x22).f1) ((rd_T61 x20 x22).f2.f0) ((rd_T61 x20 x22).f2.f1) ((rd_T61 x20 x22).f3) ((rd_T61 x20 x22).f4)) else (if 0 ≤ (wrap64 (x22 - 1)) then (if (wrap64 (x22 - 1)) < (x5.length : Int) then (if (rd y370 (wrap64 (x22 - 1))) = 0 then (impl_PredOk.j2 k x0 x1 y370 x22 x20 x21 x22 true ((rd_T61 x20 x22).f0) ((rd_T61 x20 x22).f1) ((rd_T61 x20 x22).f2.f0) ((rd_T61 x20 x22).f2.f1) ((rd_T61 x20 x22).f3) ((rd_T61 x20 x22).f4)) else (impl_PredOk.j2 k x0 x1 y370 x22 x20 x21 x22 (!(((rd_T61 x20 x22).f1) == 0) || ((!(((rd_T61 x20 x22).f2.f0) == 0) || (!((((rd_T61 x20 x22).f2.f1).toList) == ([] : List UInt8)))) || (!(((rd_T61 x20 x22).f3) == (wrap64 ((rd y370 (wrap64 (x22 - 1))) - 1))) || (!(((rd_T61 x20 x22).f4) == (wrap64 (x22 - 1))))))) ((rd_T61 x20 x22).f0) ((rd_T61 x20 x22).f1) ((rd_T61 x20 x22).f2.f0) ((rd_T61 x20 x22).f2.f1) ((rd_T61 x20 x22).f3) ((rd_T61 x20 x22).f4))) else (none)) else (none))) else (if ((rd_T61 x20 x22).f0) = 7 then (if x22 = 0 then (some false) else (if (!(((rd_T61 x20 x22).f0) == 7) || (!(((rd_T61 x20 x22).f1) == 0) || ((!(((rd_T61 x20 x22).f2.f0) == 0) || (!((((rd_T61 x20 x22).f2.f1).toList) == ([] : List UInt8)))) || (!(((rd_T61 x20 x22).f3) == (wrap64 (x22 - 1))) || (!(((rd_T61 x20 x22).f4) == 0)))))) = true then (some false) else (if 0 ≤ ((rd_T61 x20 x22).f3) then (if ((rd_T61 x20 x22).f3) < (x5.length : Int) then (impl_PredOk.l0 k x0 x1 (y370.set (x22 : Int).toNat (rd y370 ((rd_T61 x20 x22).f3))) x20 x21 (wrap64 (x22 + 1))) else (none)) else (none)))) else (some false))))))) else (none)) else (none)) else (none)) else (if 0 ≤ (wrap64 ((x1.length : Int) - 1)) then (if (wrap64 ((x1.length : Int) - 1)) < (x5.length : Int) then (some ((rd x5 (wrap64 ((x1.length : Int) - 1))) == 0)) else (none)) else (none))
def impl_PredOk.j2 : Nat → List (S57) → List (S61) → List Int → Int → List (S61) → Int → Int → Bool → Int → Int → Int → ByteArray → Int → Int → Option (Bool)
 | 0, _, _, _, _, _, _, _, _, _, _, _, _, _, _ => none
 | k + 1, x0, x1, x5, x6, x20, x21, x22, x67, x370000, x370001, x370002, x370003, x370004, x370005 => if x67 = true then (some false) else (if 0 ≤ x370004 then (if x370004 < (x5.length : Int) then (if 0 ≤ x6 then (if x6 < (x5.length : Int) then (impl_PredOk.l0 k x0 x1 (x5.set (x6 : Int).toNat (rd x5 x370004)) x20 x21 (wrap64 (x22 + 1))) else (none)) else (none)) else (none)) else (none))
end
def impl_PredOk.f (k : Nat) (l0 : List (S57)) (l1 : List (S61)) : Option (Bool) := (impl_SchemaOk.f k l0).bind fun t362 => (if t362 = true then ((impl_within.f (l1.length : Int) 1 31).bind fun t363 => (impl_PredOk.j0 k l0 l1 (!t363))) else (impl_PredOk.j0 k l0 l1 true))
set_option maxHeartbeats 8000000 in
set_option maxRecDepth 100000 in
theorem impl_PredOk.calls (k : Nat) (A0 : Option Addr) (c0 : Nat) (l0 : List (S57)) (A1 : Option Addr) (c1 : Nat) (l1 : List (S61)) (r : Bool) (w : World) (hr0 : Kd.C k57 w A0 l0.length l0) (hc0 : l0.length ≤ c0) (hr1 : Kd.C k61 w A1 l1.length l1) (hc1 : l1.length ≤ c1) (h : impl_PredOk.f k l0 l1 = some r) :
  Calls Try.prog 24 #[.slice A0 l0.length c0, .slice A1 l1.length c1] w fun e w' => e = .returned (.bool r) ∧ Below w.heap.size w w' := by
 have hu61 := Try.underlying61
 have HR0 := Aside0.mk hr0
 have HC0 := Aside0.mk hc0
 clear hr0 hc0
 have HR1 := Aside0.mk hr1
 have HC1 := Aside0.mk hc1
 clear hr1 hc1
 have HB := Aside0.mk (Below.refl w.heap.size w)
 have H : ((impl_SchemaOk.f k l0).bind fun t362 => (if t362 = true then ((impl_within.f (l1.length : Int) 1 31).bind fun t363 => (impl_PredOk.j0 k l0 l1 (!t363))) else (impl_PredOk.j0 k l0 l1 true))) = some r := h
 clear h
 have HC3 := Aside0.mk H
 clear H
 go_enter Try.func24, Try.ntmps24
 go_upto_region 1 with (fail)
 repeat (go_quiet (fail); go_upto_region 1 with (fail))
 go_cut [16] (fun v16 wc => ∃ (kq : Nat) (x16_2 : Bool), v16 = .bool x16_2 ∧ Aside0 (impl_PredOk.j0 kq l0 l1 x16_2 = some r) ∧ Aside0 (kq ≤ k) ∧ Aside0 (Below w.heap.size w wc))
 case first =>
  have H := HC3.out
  clear HC3
  replace H := bnd H
  obtain ⟨t362, A4, H⟩ := H
  by_cases c5 : t362 = true
  ·
   subst c5
   replace H := ifp rfl H
   replace H := bnd H
   obtain ⟨t363, A6, H⟩ := H
   have H' := Aside0.mk H
   clear H
   go_wp2_with (first | (go_at_call 41; (with_reducible refine (impl_SchemaOk.calls k _ _ l0 true _ ?side1 ?side2 A4.out).mono ?_); (case side1 => repeat (first | exact (Kd.C_below HR0.out HB.out) | (with_reducible refine Kd.C_alloc ?_ _) | (with_reducible refine Kd.C_drewN ?_ _) | (with_reducible refine Kd.C_drew ?_))); (case side2 => exact HC0.out); rintro e w7 ⟨rfl, hb⟩; replace HB := bst HB hb; (try clear hb)) | (go_at_call 42; (with_reducible refine (impl_within.calls (l1.length : Int) 1 31 t363 _ A6.out).mono ?_); rintro e w' ⟨rfl, ⟨nd, rfl⟩⟩; (try first | exact ⟨rfl, _, World.drewN_drewN _ _ _⟩ | exact ⟨rfl, _, Eq.trans (World.drewN_drewN _ _ _) (congrArg (World.drewN _) (Nat.add_assoc _ _ _))⟩)))
   repeat (go_quiet (first | (go_at_call 42; (with_reducible refine (impl_within.calls (l1.length : Int) 1 31 t363 _ A6.out).mono ?_); rintro e w' ⟨rfl, ⟨nd, rfl⟩⟩; (try first | exact ⟨rfl, _, World.drewN_drewN _ _ _⟩ | exact ⟨rfl, _, Eq.trans (World.drewN_drewN _ _ _) (congrArg (World.drewN _) (Nat.add_assoc _ _ _))⟩))); try go_wp2_with (first | (go_at_call 41; (with_reducible refine (impl_SchemaOk.calls k _ _ l0 true _ ?side1 ?side2 A4.out).mono ?_); (case side1 => repeat (first | exact (Kd.C_below HR0.out HB.out) | (with_reducible refine Kd.C_alloc ?_ _) | (with_reducible refine Kd.C_drewN ?_ _) | (with_reducible refine Kd.C_drew ?_))); (case side2 => exact HC0.out); rintro e w7 ⟨rfl, hb⟩; replace HB := bst HB hb; (try clear hb)) | (go_at_call 42; (with_reducible refine (impl_within.calls (l1.length : Int) 1 31 t363 _ A6.out).mono ?_); rintro e w' ⟨rfl, ⟨nd, rfl⟩⟩; (try first | exact ⟨rfl, _, World.drewN_drewN _ _ _⟩ | exact ⟨rfl, _, Eq.trans (World.drewN_drewN _ _ _) (congrArg (World.drewN _) (Nat.add_assoc _ _ _))⟩))))
   go_meet
   case rel => exact ⟨_, (!t363), sr, H', ⟨by first | omega | exact Nat.le_refl _⟩, ⟨below_later HB.out⟩⟩
  ·
   replace c5 := Bool.eq_false_iff.mpr c5
   subst c5
   replace H := ifn Bool.false_ne_true H
   have H' := Aside0.mk H
   clear H
   go_wp2_with (first | (go_at_call 41; (with_reducible refine (impl_SchemaOk.calls k _ _ l0 false _ ?side1 ?side2 A4.out).mono ?_); (case side1 => repeat (first | exact (Kd.C_below HR0.out HB.out) | (with_reducible refine Kd.C_alloc ?_ _) | (with_reducible refine Kd.C_drewN ?_ _) | (with_reducible refine Kd.C_drew ?_))); (case side2 => exact HC0.out); rintro e w8 ⟨rfl, hb⟩; replace HB := bst HB hb; (try clear hb)))
   repeat (go_quiet (fail); try go_wp2_with (first | (go_at_call 41; (with_reducible refine (impl_SchemaOk.calls k _ _ l0 false _ ?side1 ?side2 A4.out).mono ?_); (case side1 => repeat (first | exact (Kd.C_below HR0.out HB.out) | (with_reducible refine Kd.C_alloc ?_ _) | (with_reducible refine Kd.C_drewN ?_ _) | (with_reducible refine Kd.C_drew ?_))); (case side2 => exact HC0.out); rintro e w8 ⟨rfl, hb⟩; replace HB := bst HB hb; (try clear hb))))
   go_meet
   case rel => exact ⟨_, (true), sr, H', ⟨by first | omega | exact Nat.le_refl _⟩, ⟨below_later HB.out⟩⟩
 case rest =>
  clear HC3
  try clear c1
  obtain ⟨kq, x16_2, rfl, HA, HJ2, HB⟩ := hcut
  cases kq with
  | zero => exact absurd HA.out (by simp [impl_PredOk.j0])
  | succ kj2 =>
   have H := HA.out
   clear HA
   simp only [impl_PredOk.j0] at H
   by_cases c9 : x16_2 = true
   ·
    subst c9
    replace H := ifp rfl H
    obtain rfl := Option.some.inj H
    go_wp2
    repeat (go_quiet (fail); try go_wp2)
    go_ret
    exact fin_ (below_later HB.out)
   ·
    replace c9 := Bool.eq_false_iff.mpr c9
    subst c9
    replace H := ifn Bool.false_ne_true H
    by_cases c10 : 0 ≤ (l1.length : Int)
    ·
     rw [if_pos c10] at H
     have c10b0 := eq_true c10
     have c10b1 := decide_eq_true c10
     clear c10
     by_cases c11 : ((l1.length : Int) : Int).toNat ≤ 35184372088832
     ·
      rw [if_pos c11] at H
      have c11b0 := eq_true c11
      have c11b1 := decide_eq_true c11
      clear c11
      obtain ⟨y364, hy364⟩ : ∃ y_ : List Int, y_ = (List.replicate ((l1.length : Int) : Int).toNat 0) := ⟨_, rfl⟩
      replace H : (impl_PredOk.l0 kj2 l0 l1 y364 l1 (l1.length : Int) 0) = some r := by first | (rw [hy364]; with_reducible exact H) | (rw [hy364]; exact H) | exact H
      have Ny364 := Aside0.mk hy364
      clear hy364
      have H' := Aside0.mk H
      clear H
      go_wp2_with (first | ((with_reducible refine gate_dst (N := 19) rfl ?_); (try (refine gate_guard (by rfl) ?_; dsimp only)); refine Kd.R_make (Kd.int .i64) _ 3 rfl (N := 19) rfl 54 _ _ rfl (l1.length : Int) rfl rfl Try.underlying54 (.int .i64 0) 8 info3 rfl (by decide) (by omega) 0 (ok := fun _ => True) (okp := fun _ => True) rfl (fun _ hk => hk) trivial (dcd) (Nat.le_trans (Nat.mul_le_mul_right _ (dcd : (l1.length : Int).toNat ≤ 35184372088832)) (by omega)) (Below.refl _ _) (Nat.le_refl _) ?_; intro v365 w12 ho13 hb hg_ hnew_; clear hg_ hnew_; (first | rw [← Ny364.out] at ho13 | (simp only [Int.reduceToNat] at ho13; rw [← Ny364.out] at ho13)); have HO366 := Aside0.mk (Kd.R_lower ho13 (below_size (below_later HB.out))); replace HB := bst HB hb; clear hb ho13))
      repeat (go_quiet (fail); try go_wp2_with (first | ((with_reducible refine gate_dst (N := 19) rfl ?_); (try (refine gate_guard (by rfl) ?_; dsimp only)); refine Kd.R_make (Kd.int .i64) _ 3 rfl (N := 19) rfl 54 _ _ rfl (l1.length : Int) rfl rfl Try.underlying54 (.int .i64 0) 8 info3 rfl (by decide) (by omega) 0 (ok := fun _ => True) (okp := fun _ => True) rfl (fun _ hk => hk) trivial (dcd) (Nat.le_trans (Nat.mul_le_mul_right _ (dcd : (l1.length : Int).toNat ≤ 35184372088832)) (by omega)) (Below.refl _ _) (Nat.le_refl _) ?_; intro v365 w12 ho13 hb hg_ hnew_; clear hg_ hnew_; (first | rw [← Ny364.out] at ho13 | (simp only [Int.reduceToNat] at ho13; rw [← Ny364.out] at ho13)); have HO366 := Aside0.mk (Kd.R_lower ho13 (below_size (below_later HB.out))); replace HB := bst HB hb; clear hb ho13)))
      go_loopg [22] kj2 (fun kq v22 w' => ∃ (x5_2 : List Int) (x22_2 : Int), v22 = .int .i64 x22_2 ∧ Aside0 (impl_PredOk.l0 kq l0 l1 x5_2 l1 (l1.length : Int) x22_2 = some r) ∧ Aside0 (kq ≤ kj2) ∧ Aside0 (Kd.R (Kd.int .i64) 3 w' w.heap.size (fun _ => True) v365 x5_2) ∧ Aside0 (Below w.heap.size w w'))
      case atStart => exact ⟨(y364), (0), sr, H', ⟨Nat.le_refl _⟩, ⟨R_later HO366.out⟩, ⟨below_later HB.out⟩⟩
      case round =>
       clear H'
       try clear c1
       try clear c9
       try clear c10
       try clear c10b0
       try clear c10b1
       try clear c11
       try clear c11b0
       try clear c11b1
       obtain ⟨x5_2, x22_2, rfl, HA, HK2, HO_5, HB⟩ := hrel
       cases gk with
       | zero => exact absurd HA.out (by simp [impl_PredOk.l0])
       | succ k2 =>
        have H := HA.out
        clear HA
        simp only [impl_PredOk.l0] at H
        by_cases c14 : x22_2 < (l1.length : Int)
        ·
         rw [if_pos c14] at H
         have c14b0 := decide_eq_true c14
         clear c14
         by_cases c15 : 0 ≤ x22_2
         ·
          rw [if_pos c15] at H
          have c15b0 := decide_eq_true c15
          clear c15
          by_cases c16 : x22_2 < (l1.length : Int)
          ·
           rw [if_pos c16] at H
           have c16b0 := decide_eq_true c16
           clear c16
           by_cases c17 : x22_2 < (x5_2.length : Int)
           ·
            rw [if_pos c17] at H
            have c17b0 := decide_eq_true c17
            clear c17
            replace H := bsm H
            obtain ⟨y370, Ny370, H⟩ := H
            replace H := bnd H
            obtain ⟨t371, A19, H⟩ := H
            by_cases c20 : t371 = true
            ·
             subst c20
             replace H := ifp rfl H
             replace H := bnd H
             obtain ⟨t372, A21, H⟩ := H
             by_cases c22 : t372 = true
             ·
              subst c22
              replace H := ifp rfl H
              have H' := Aside0.mk H
              clear H
              have p368 : 0 ≤ (x22_2 : Int) := dcd
              have q368 : x22_2 < (l1.length : Int) := dcd
              obtain ⟨ad368, e368, hx368_0, hx368_1, hx368_2, hx368_3, hx368_4, hx368_5⟩ := at_T61 HR1.out x22_2 p368 q368
              cases e368
              replace hx368_0 := crd HB hx368_0
              replace hx368_1 := crd HB hx368_1
              replace hx368_2 := crd HB hx368_2
              replace hx368_3 := crd HB hx368_3
              replace hx368_4 := crd HB hx368_4
              replace hx368_5 := crd HB hx368_5
              replace p368 := eq_true p368
              replace q368 := eq_true q368
              go_wp2_with (first | ((with_reducible refine gate_dst (N := 7) rfl ?_); (try (refine gate_guard (by rfl) ?_; dsimp only)); refine bx_ 7 #[.int .i64 0, .int .i64 0, .int .i64 0, .string (⟨#[]⟩ : ByteArray), .int .i64 0, .int .i64 0] 61 ?_; intro gb369 hg w23 hbox hb; have BK369 := Aside0.mk (hbox); have GW369 := gwe HB hg; have GE369 := GW369; replace HO_5 := Aside0.mk (Kd.R_below (R_later HO_5.out) hb); replace HB := bst HB hb; clear hb hbox hg; obtain ⟨hcz24_0, hcz24_1, hcz24_2, hcz24_3, hcz24_4, hcz24_5, hfz24_0, hfz24_1, hfz24_2, hfz24_3, hfz24_4, hfz24_5⟩ := cl6 BK369) | ((with_reducible refine gate_store (t := 61) (p := 7) rfl ?_); (try (rw [drewN_self w23]; generalize hq_ : World.drewN w23 _ = w23; have n0_ := Aside0.mk (Kd.R_at hq_ HO_5.out); have n1_ := Aside0.mk (blk_at hq_ BK369.out); have n2_ := Aside0.mk (below_at hq_ HB.out); clear hq_ HO_5 BK369 HB; have HO_5 := n0_; have BK369 := n1_; have HB := n2_; clear n0_ n1_ n2_)); refine st_ 61 7 ((((((w23.setCell ⟨gb369, 0, none⟩ (.int .i64 ((rd_T61 l1 x22_2).f0))).setCell ⟨gb369, 1, none⟩ (.int .i64 ((rd_T61 l1 x22_2).f1))).setCell ⟨gb369, 2, none⟩ (.int .i64 ((rd_T61 l1 x22_2).f2.f0))).setCell ⟨gb369, 3, none⟩ (.string ((rd_T61 l1 x22_2).f2.f1))).setCell ⟨gb369, 4, none⟩ (.int .i64 ((rd_T61 l1 x22_2).f3))).setCell ⟨gb369, 5, none⟩ (.int .i64 ((rd_T61 l1 x22_2).f4))) ?_; intro w25 hw; have n0_ : Aside0 (Kd.R (Kd.int .i64) 3 w25 w.heap.size (fun _ => True) v365 x5_2) := ⟨(by rw [hw]; exact (by (with_reducible repeat (first | apply Kd.R_alloc | apply Kd.R_drewN | apply Kd.R_drew)); exact Kd.R_mono (Kd.R_far (p := ⟨gb369, 5, none⟩) (Kd.R_far (p := ⟨gb369, 4, none⟩) (Kd.R_far (p := ⟨gb369, 3, none⟩) (Kd.R_far (p := ⟨gb369, 2, none⟩) (Kd.R_far (p := ⟨gb369, 1, none⟩) (Kd.R_far (p := ⟨gb369, 0, none⟩) (Kd.R_types HO_5.out BK369.out (by decide)) (fun _ hk => hk.2) (.int .i64 ((rd_T61 l1 x22_2).f0))) (fun _ hk => hk.2) (.int .i64 ((rd_T61 l1 x22_2).f1))) (fun _ hk => hk.2) (.int .i64 ((rd_T61 l1 x22_2).f2.f0))) (fun _ hk => hk.2) (.string ((rd_T61 l1 x22_2).f2.f1))) (fun _ hk => hk.2) (.int .i64 ((rd_T61 l1 x22_2).f3))) (fun _ hk => hk.2) (.int .i64 ((rd_T61 l1 x22_2).f4))) (fun _ hk => trivial)))⟩; have n1_ : Aside0 (w25.heap[gb369]? = some (.cells #[.int .i64 ((rd_T61 l1 x22_2).f0), .int .i64 ((rd_T61 l1 x22_2).f1), .int .i64 ((rd_T61 l1 x22_2).f2.f0), .string ((rd_T61 l1 x22_2).f2.f1), .int .i64 ((rd_T61 l1 x22_2).f3), .int .i64 ((rd_T61 l1 x22_2).f4)] 61 (0, 0))) := ⟨(by rw [hw]; exact (blk_later BK369.out))⟩; have n2_ : Aside0 (Below w.heap.size w w25) := ⟨(by rw [hw]; exact (below_later HB.out))⟩; clear hw; clear HO_5; clear BK369; clear HB; have HO_5 := n0_; have BK369 := n1_; have HB := n2_; clear n0_ n1_ n2_; have p18 : 0 ≤ (x22_2 : Int) := dcd; have q18 : (x22_2 : Int) < ((x5_2.length : Int) : Int) := dcd; obtain ⟨go18, co18, eo18, gb18, gl18, cl18, HG18⟩ := Kd.R_form HO_5.out (by omega); (first | cases eo18 | (injection eo18 with ea_ en_ ec_; (first | subst ea_ | (injection ea_ with ea_; subst ea_)); subst ec_; clear en_)); have GB18 := Aside0.mk gb18; have GG18 := Aside0.mk HG18; clear gb18 gl18 HG18; obtain ⟨hx18_0, hf18_0⟩ := Kd.R_celln 0 HO_5.out (x22_2 : Int) p18 q18; replace p18 := eq_true p18; replace q18 := eq_true q18; obtain ⟨hy26_, hz26_⟩ := Kd.R_celln 0 HO_5.out (x22_2 : Int) (dcd) (dcd); have HP26 := Kd.R_putg HO_5.out (x22_2 : Int) x22_2) | ((with_reducible refine gate_store (t := 3) (p := 30) rfl ?_); (try (rw [drewN_self w25]; generalize hq_ : World.drewN w25 _ = w25; have n0_ := Aside0.mk (Kd.R_at hq_ HO_5.out); have n1_ := Aside0.mk (blk_at hq_ BK369.out); have n2_ := Aside0.mk (below_at hq_ HB.out); clear hq_ HO_5 BK369 HB; have HO_5 := n0_; have BK369 := n1_; have HB := n2_; clear n0_ n1_ n2_; (try (obtain ⟨hy26_, hz26_⟩ := Kd.R_celln 0 HO_5.out (x22_2 : Int) (dcd) (dcd))); (try (have HP26 := Kd.R_putg HO_5.out (x22_2 : Int) x22_2)))); refine st_ 3 30 (w25.setCell ⟨go18, (x22_2 : Int).toNat, none⟩ (.int .i64 x22_2)) ?_; intro w27 hw; have hg : w25.grownBy w27 (some go18) := (by rw [hw]; exact HP26.2); have hp_ : Kd.R (Kd.int .i64) 3 w27 w.heap.size (fun _ => True) (.slice (some ⟨go18, 0, none⟩) x5_2.length co18) y370 := (by rw [hw, Ny370.out]; exact HP26.1); clear HP26; replace BK369 := Aside0.mk (blk_grown (blk_later BK369.out) hg (Kd.R_ne HO_5.out BK369.out (by decide))); replace HO_5 := Aside0.mk (hp_); replace HB := Aside0.mk ((by rw [hw]; exact below_set (HB.out) GB18.out : Below w.heap.size w w27)); clear hg hw hp_; obtain ⟨hcz28_0, hcz28_1, hcz28_2, hcz28_3, hcz28_4, hcz28_5, hfz28_0, hfz28_1, hfz28_2, hfz28_3, hfz28_4, hfz28_5⟩ := cl6 BK369) | (go_at_call 42; (with_reducible refine (impl_within.calls ((rd_T61 l1 x22_2).f0) 1 4 true _ A19.out).mono ?_); rintro e w' ⟨rfl, ⟨nd, rfl⟩⟩; (try first | exact ⟨rfl, _, World.drewN_drewN _ _ _⟩ | exact ⟨rfl, _, Eq.trans (World.drewN_drewN _ _ _) (congrArg (World.drewN _) (Nat.add_assoc _ _ _))⟩)) | (go_at_call 43; (with_reducible refine (impl_plainPred.calls k2 _ _ l0 ((rd_T61 l1 x22_2).f0) ((rd_T61 l1 x22_2).f1) ((rd_T61 l1 x22_2).f2.f0) ((rd_T61 l1 x22_2).f2.f1) ((rd_T61 l1 x22_2).f3) ((rd_T61 l1 x22_2).f4) true _ ?side1 ?side2 A21.out).mono ?_); (case side1 => repeat (first | exact (Kd.C_below HR0.out (below_later HB.out)) | (with_reducible refine Kd.C_alloc ?_ _) | (with_reducible refine Kd.C_drewN ?_ _) | (with_reducible refine Kd.C_drew ?_))); (case side2 => exact HC0.out); rintro e w29 ⟨rfl, hb⟩; replace HO_5 := Aside0.mk (Kd.R_below (R_later HO_5.out) hb); replace BK369 := bkb BK369 hb; replace HB := bst HB hb; (try clear hb); (try clear hk)))
              repeat (go_quiet (first | (go_at_call 42; (with_reducible refine (impl_within.calls ((rd_T61 l1 x22_2).f0) 1 4 true _ A19.out).mono ?_); rintro e w' ⟨rfl, ⟨nd, rfl⟩⟩; (try first | exact ⟨rfl, _, World.drewN_drewN _ _ _⟩ | exact ⟨rfl, _, Eq.trans (World.drewN_drewN _ _ _) (congrArg (World.drewN _) (Nat.add_assoc _ _ _))⟩))); try go_wp2_with (first | ((with_reducible refine gate_dst (N := 7) rfl ?_); (try (refine gate_guard (by rfl) ?_; dsimp only)); refine bx_ 7 #[.int .i64 0, .int .i64 0, .int .i64 0, .string (⟨#[]⟩ : ByteArray), .int .i64 0, .int .i64 0] 61 ?_; intro gb369 hg w23 hbox hb; have BK369 := Aside0.mk (hbox); have GW369 := gwe HB hg; have GE369 := GW369; replace HO_5 := Aside0.mk (Kd.R_below (R_later HO_5.out) hb); replace HB := bst HB hb; clear hb hbox hg; obtain ⟨hcz24_0, hcz24_1, hcz24_2, hcz24_3, hcz24_4, hcz24_5, hfz24_0, hfz24_1, hfz24_2, hfz24_3, hfz24_4, hfz24_5⟩ := cl6 BK369) | ((with_reducible refine gate_store (t := 61) (p := 7) rfl ?_); (try (rw [drewN_self w23]; generalize hq_ : World.drewN w23 _ = w23; have n0_ := Aside0.mk (Kd.R_at hq_ HO_5.out); have n1_ := Aside0.mk (blk_at hq_ BK369.out); have n2_ := Aside0.mk (below_at hq_ HB.out); clear hq_ HO_5 BK369 HB; have HO_5 := n0_; have BK369 := n1_; have HB := n2_; clear n0_ n1_ n2_)); refine st_ 61 7 ((((((w23.setCell ⟨gb369, 0, none⟩ (.int .i64 ((rd_T61 l1 x22_2).f0))).setCell ⟨gb369, 1, none⟩ (.int .i64 ((rd_T61 l1 x22_2).f1))).setCell ⟨gb369, 2, none⟩ (.int .i64 ((rd_T61 l1 x22_2).f2.f0))).setCell ⟨gb369, 3, none⟩ (.string ((rd_T61 l1 x22_2).f2.f1))).setCell ⟨gb369, 4, none⟩ (.int .i64 ((rd_T61 l1 x22_2).f3))).setCell ⟨gb369, 5, none⟩ (.int .i64 ((rd_T61 l1 x22_2).f4))) ?_; intro w25 hw; have n0_ : Aside0 (Kd.R (Kd.int .i64) 3 w25 w.heap.size (fun _ => True) v365 x5_2) := ⟨(by rw [hw]; exact (by (with_reducible repeat (first | apply Kd.R_alloc | apply Kd.R_drewN | apply Kd.R_drew)); exact Kd.R_mono (Kd.R_far (p := ⟨gb369, 5, none⟩) (Kd.R_far (p := ⟨gb369, 4, none⟩) (Kd.R_far (p := ⟨gb369, 3, none⟩) (Kd.R_far (p := ⟨gb369, 2, none⟩) (Kd.R_far (p := ⟨gb369, 1, none⟩) (Kd.R_far (p := ⟨gb369, 0, none⟩) (Kd.R_types HO_5.out BK369.out (by decide)) (fun _ hk => hk.2) (.int .i64 ((rd_T61 l1 x22_2).f0))) (fun _ hk => hk.2) (.int .i64 ((rd_T61 l1 x22_2).f1))) (fun _ hk => hk.2) (.int .i64 ((rd_T61 l1 x22_2).f2.f0))) (fun _ hk => hk.2) (.string ((rd_T61 l1 x22_2).f2.f1))) (fun _ hk => hk.2) (.int .i64 ((rd_T61 l1 x22_2).f3))) (fun _ hk => hk.2) (.int .i64 ((rd_T61 l1 x22_2).f4))) (fun _ hk => trivial)))⟩; have n1_ : Aside0 (w25.heap[gb369]? = some (.cells #[.int .i64 ((rd_T61 l1 x22_2).f0), .int .i64 ((rd_T61 l1 x22_2).f1), .int .i64 ((rd_T61 l1 x22_2).f2.f0), .string ((rd_T61 l1 x22_2).f2.f1), .int .i64 ((rd_T61 l1 x22_2).f3), .int .i64 ((rd_T61 l1 x22_2).f4)] 61 (0, 0))) := ⟨(by rw [hw]; exact (blk_later BK369.out))⟩; have n2_ : Aside0 (Below w.heap.size w w25) := ⟨(by rw [hw]; exact (below_later HB.out))⟩; clear hw; clear HO_5; clear BK369; clear HB; have HO_5 := n0_; have BK369 := n1_; have HB := n2_; clear n0_ n1_ n2_; have p18 : 0 ≤ (x22_2 : Int) := dcd; have q18 : (x22_2 : Int) < ((x5_2.length : Int) : Int) := dcd; obtain ⟨go18, co18, eo18, gb18, gl18, cl18, HG18⟩ := Kd.R_form HO_5.out (by omega); (first | cases eo18 | (injection eo18 with ea_ en_ ec_; (first | subst ea_ | (injection ea_ with ea_; subst ea_)); subst ec_; clear en_)); have GB18 := Aside0.mk gb18; have GG18 := Aside0.mk HG18; clear gb18 gl18 HG18; obtain ⟨hx18_0, hf18_0⟩ := Kd.R_celln 0 HO_5.out (x22_2 : Int) p18 q18; replace p18 := eq_true p18; replace q18 := eq_true q18; obtain ⟨hy26_, hz26_⟩ := Kd.R_celln 0 HO_5.out (x22_2 : Int) (dcd) (dcd); have HP26 := Kd.R_putg HO_5.out (x22_2 : Int) x22_2) | ((with_reducible refine gate_store (t := 3) (p := 30) rfl ?_); (try (rw [drewN_self w25]; generalize hq_ : World.drewN w25 _ = w25; have n0_ := Aside0.mk (Kd.R_at hq_ HO_5.out); have n1_ := Aside0.mk (blk_at hq_ BK369.out); have n2_ := Aside0.mk (below_at hq_ HB.out); clear hq_ HO_5 BK369 HB; have HO_5 := n0_; have BK369 := n1_; have HB := n2_; clear n0_ n1_ n2_; (try (obtain ⟨hy26_, hz26_⟩ := Kd.R_celln 0 HO_5.out (x22_2 : Int) (dcd) (dcd))); (try (have HP26 := Kd.R_putg HO_5.out (x22_2 : Int) x22_2)))); refine st_ 3 30 (w25.setCell ⟨go18, (x22_2 : Int).toNat, none⟩ (.int .i64 x22_2)) ?_; intro w27 hw; have hg : w25.grownBy w27 (some go18) := (by rw [hw]; exact HP26.2); have hp_ : Kd.R (Kd.int .i64) 3 w27 w.heap.size (fun _ => True) (.slice (some ⟨go18, 0, none⟩) x5_2.length co18) y370 := (by rw [hw, Ny370.out]; exact HP26.1); clear HP26; replace BK369 := Aside0.mk (blk_grown (blk_later BK369.out) hg (Kd.R_ne HO_5.out BK369.out (by decide))); replace HO_5 := Aside0.mk (hp_); replace HB := Aside0.mk ((by rw [hw]; exact below_set (HB.out) GB18.out : Below w.heap.size w w27)); clear hg hw hp_; obtain ⟨hcz28_0, hcz28_1, hcz28_2, hcz28_3, hcz28_4, hcz28_5, hfz28_0, hfz28_1, hfz28_2, hfz28_3, hfz28_4, hfz28_5⟩ := cl6 BK369) | (go_at_call 42; (with_reducible refine (impl_within.calls ((rd_T61 l1 x22_2).f0) 1 4 true _ A19.out).mono ?_); rintro e w' ⟨rfl, ⟨nd, rfl⟩⟩; (try first | exact ⟨rfl, _, World.drewN_drewN _ _ _⟩ | exact ⟨rfl, _, Eq.trans (World.drewN_drewN _ _ _) (congrArg (World.drewN _) (Nat.add_assoc _ _ _))⟩)) | (go_at_call 43; (with_reducible refine (impl_plainPred.calls k2 _ _ l0 ((rd_T61 l1 x22_2).f0) ((rd_T61 l1 x22_2).f1) ((rd_T61 l1 x22_2).f2.f0) ((rd_T61 l1 x22_2).f2.f1) ((rd_T61 l1 x22_2).f3) ((rd_T61 l1 x22_2).f4) true _ ?side1 ?side2 A21.out).mono ?_); (case side1 => repeat (first | exact (Kd.C_below HR0.out (below_later HB.out)) | (with_reducible refine Kd.C_alloc ?_ _) | (with_reducible refine Kd.C_drewN ?_ _) | (with_reducible refine Kd.C_drew ?_))); (case side2 => exact HC0.out); rintro e w29 ⟨rfl, hb⟩; replace HO_5 := Aside0.mk (Kd.R_below (R_later HO_5.out) hb); replace BK369 := bkb BK369 hb; replace HB := bst HB hb; (try clear hb); (try clear hk))))
              go_roundg k2
              case measure => have := HJ2.out; have := HK2.out; omega
              case rel => exact ⟨(y370), (wrap64 (x22_2 + 1)), sr, H', ⟨by have := HJ2.out; have := HK2.out; omega⟩, ⟨R_later HO_5.out⟩, ⟨below_later HB.out⟩⟩
             ·
              replace c22 := Bool.eq_false_iff.mpr c22
              subst c22
              replace H := ifn Bool.false_ne_true H
              obtain rfl := Option.some.inj H
              have p368 : 0 ≤ (x22_2 : Int) := dcd
              have q368 : x22_2 < (l1.length : Int) := dcd
              obtain ⟨ad368, e368, hx368_0, hx368_1, hx368_2, hx368_3, hx368_4, hx368_5⟩ := at_T61 HR1.out x22_2 p368 q368
              cases e368
              replace hx368_0 := crd HB hx368_0
              replace hx368_1 := crd HB hx368_1
              replace hx368_2 := crd HB hx368_2
              replace hx368_3 := crd HB hx368_3
              replace hx368_4 := crd HB hx368_4
              replace hx368_5 := crd HB hx368_5
              replace p368 := eq_true p368
              replace q368 := eq_true q368
              go_wp2_with (first | ((with_reducible refine gate_dst (N := 7) rfl ?_); (try (refine gate_guard (by rfl) ?_; dsimp only)); refine bx_ 7 #[.int .i64 0, .int .i64 0, .int .i64 0, .string (⟨#[]⟩ : ByteArray), .int .i64 0, .int .i64 0] 61 ?_; intro gb369 hg w30 hbox hb; have BK369 := Aside0.mk (hbox); have GW369 := gwe HB hg; have GE369 := GW369; replace HO_5 := Aside0.mk (Kd.R_below (R_later HO_5.out) hb); replace HB := bst HB hb; clear hb hbox hg; obtain ⟨hcz31_0, hcz31_1, hcz31_2, hcz31_3, hcz31_4, hcz31_5, hfz31_0, hfz31_1, hfz31_2, hfz31_3, hfz31_4, hfz31_5⟩ := cl6 BK369) | ((with_reducible refine gate_store (t := 61) (p := 7) rfl ?_); (try (rw [drewN_self w30]; generalize hq_ : World.drewN w30 _ = w30; have n0_ := Aside0.mk (Kd.R_at hq_ HO_5.out); have n1_ := Aside0.mk (blk_at hq_ BK369.out); have n2_ := Aside0.mk (below_at hq_ HB.out); clear hq_ HO_5 BK369 HB; have HO_5 := n0_; have BK369 := n1_; have HB := n2_; clear n0_ n1_ n2_)); refine st_ 61 7 ((((((w30.setCell ⟨gb369, 0, none⟩ (.int .i64 ((rd_T61 l1 x22_2).f0))).setCell ⟨gb369, 1, none⟩ (.int .i64 ((rd_T61 l1 x22_2).f1))).setCell ⟨gb369, 2, none⟩ (.int .i64 ((rd_T61 l1 x22_2).f2.f0))).setCell ⟨gb369, 3, none⟩ (.string ((rd_T61 l1 x22_2).f2.f1))).setCell ⟨gb369, 4, none⟩ (.int .i64 ((rd_T61 l1 x22_2).f3))).setCell ⟨gb369, 5, none⟩ (.int .i64 ((rd_T61 l1 x22_2).f4))) ?_; intro w32 hw; have n0_ : Aside0 (Kd.R (Kd.int .i64) 3 w32 w.heap.size (fun _ => True) v365 x5_2) := ⟨(by rw [hw]; exact (by (with_reducible repeat (first | apply Kd.R_alloc | apply Kd.R_drewN | apply Kd.R_drew)); exact Kd.R_mono (Kd.R_far (p := ⟨gb369, 5, none⟩) (Kd.R_far (p := ⟨gb369, 4, none⟩) (Kd.R_far (p := ⟨gb369, 3, none⟩) (Kd.R_far (p := ⟨gb369, 2, none⟩) (Kd.R_far (p := ⟨gb369, 1, none⟩) (Kd.R_far (p := ⟨gb369, 0, none⟩) (Kd.R_types HO_5.out BK369.out (by decide)) (fun _ hk => hk.2) (.int .i64 ((rd_T61 l1 x22_2).f0))) (fun _ hk => hk.2) (.int .i64 ((rd_T61 l1 x22_2).f1))) (fun _ hk => hk.2) (.int .i64 ((rd_T61 l1 x22_2).f2.f0))) (fun _ hk => hk.2) (.string ((rd_T61 l1 x22_2).f2.f1))) (fun _ hk => hk.2) (.int .i64 ((rd_T61 l1 x22_2).f3))) (fun _ hk => hk.2) (.int .i64 ((rd_T61 l1 x22_2).f4))) (fun _ hk => trivial)))⟩; have n1_ : Aside0 (w32.heap[gb369]? = some (.cells #[.int .i64 ((rd_T61 l1 x22_2).f0), .int .i64 ((rd_T61 l1 x22_2).f1), .int .i64 ((rd_T61 l1 x22_2).f2.f0), .string ((rd_T61 l1 x22_2).f2.f1), .int .i64 ((rd_T61 l1 x22_2).f3), .int .i64 ((rd_T61 l1 x22_2).f4)] 61 (0, 0))) := ⟨(by rw [hw]; exact (blk_later BK369.out))⟩; have n2_ : Aside0 (Below w.heap.size w w32) := ⟨(by rw [hw]; exact (below_later HB.out))⟩; clear hw; clear HO_5; clear BK369; clear HB; have HO_5 := n0_; have BK369 := n1_; have HB := n2_; clear n0_ n1_ n2_; have p18 : 0 ≤ (x22_2 : Int) := dcd; have q18 : (x22_2 : Int) < ((x5_2.length : Int) : Int) := dcd; obtain ⟨go18, co18, eo18, gb18, gl18, cl18, HG18⟩ := Kd.R_form HO_5.out (by omega); (first | cases eo18 | (injection eo18 with ea_ en_ ec_; (first | subst ea_ | (injection ea_ with ea_; subst ea_)); subst ec_; clear en_)); have GB18 := Aside0.mk gb18; have GG18 := Aside0.mk HG18; clear gb18 gl18 HG18; obtain ⟨hx18_0, hf18_0⟩ := Kd.R_celln 0 HO_5.out (x22_2 : Int) p18 q18; replace p18 := eq_true p18; replace q18 := eq_true q18; obtain ⟨hy33_, hz33_⟩ := Kd.R_celln 0 HO_5.out (x22_2 : Int) (dcd) (dcd); have HP33 := Kd.R_putg HO_5.out (x22_2 : Int) x22_2) | ((with_reducible refine gate_store (t := 3) (p := 30) rfl ?_); (try (rw [drewN_self w32]; generalize hq_ : World.drewN w32 _ = w32; have n0_ := Aside0.mk (Kd.R_at hq_ HO_5.out); have n1_ := Aside0.mk (blk_at hq_ BK369.out); have n2_ := Aside0.mk (below_at hq_ HB.out); clear hq_ HO_5 BK369 HB; have HO_5 := n0_; have BK369 := n1_; have HB := n2_; clear n0_ n1_ n2_; (try (obtain ⟨hy33_, hz33_⟩ := Kd.R_celln 0 HO_5.out (x22_2 : Int) (dcd) (dcd))); (try (have HP33 := Kd.R_putg HO_5.out (x22_2 : Int) x22_2)))); refine st_ 3 30 (w32.setCell ⟨go18, (x22_2 : Int).toNat, none⟩ (.int .i64 x22_2)) ?_; intro w34 hw; have hg : w32.grownBy w34 (some go18) := (by rw [hw]; exact HP33.2); have hp_ : Kd.R (Kd.int .i64) 3 w34 w.heap.size (fun _ => True) (.slice (some ⟨go18, 0, none⟩) x5_2.length co18) y370 := (by rw [hw, Ny370.out]; exact HP33.1); clear HP33; replace BK369 := Aside0.mk (blk_grown (blk_later BK369.out) hg (Kd.R_ne HO_5.out BK369.out (by decide))); replace HO_5 := Aside0.mk (hp_); replace HB := Aside0.mk ((by rw [hw]; exact below_set (HB.out) GB18.out : Below w.heap.size w w34)); clear hg hw hp_; obtain ⟨hcz35_0, hcz35_1, hcz35_2, hcz35_3, hcz35_4, hcz35_5, hfz35_0, hfz35_1, hfz35_2, hfz35_3, hfz35_4, hfz35_5⟩ := cl6 BK369) | (go_at_call 42; (with_reducible refine (impl_within.calls ((rd_T61 l1 x22_2).f0) 1 4 true _ A19.out).mono ?_); rintro e w' ⟨rfl, ⟨nd, rfl⟩⟩; (try first | exact ⟨rfl, _, World.drewN_drewN _ _ _⟩ | exact ⟨rfl, _, Eq.trans (World.drewN_drewN _ _ _) (congrArg (World.drewN _) (Nat.add_assoc _ _ _))⟩)) | (go_at_call 43; (with_reducible refine (impl_plainPred.calls k2 _ _ l0 ((rd_T61 l1 x22_2).f0) ((rd_T61 l1 x22_2).f1) ((rd_T61 l1 x22_2).f2.f0) ((rd_T61 l1 x22_2).f2.f1) ((rd_T61 l1 x22_2).f3) ((rd_T61 l1 x22_2).f4) false _ ?side1 ?side2 A21.out).mono ?_); (case side1 => repeat (first | exact (Kd.C_below HR0.out (below_later HB.out)) | (with_reducible refine Kd.C_alloc ?_ _) | (with_reducible refine Kd.C_drewN ?_ _) | (with_reducible refine Kd.C_drew ?_))); (case side2 => exact HC0.out); rintro e w36 ⟨rfl, hb⟩; replace HO_5 := Aside0.mk (Kd.R_below (R_later HO_5.out) hb); replace BK369 := bkb BK369 hb; replace HB := bst HB hb; (try clear hb); (try clear hk)))
              repeat (go_quiet (first | (go_at_call 42; (with_reducible refine (impl_within.calls ((rd_T61 l1 x22_2).f0) 1 4 true _ A19.out).mono ?_); rintro e w' ⟨rfl, ⟨nd, rfl⟩⟩; (try first | exact ⟨rfl, _, World.drewN_drewN _ _ _⟩ | exact ⟨rfl, _, Eq.trans (World.drewN_drewN _ _ _) (congrArg (World.drewN _) (Nat.add_assoc _ _ _))⟩))); try go_wp2_with (first | ((with_reducible refine gate_dst (N := 7) rfl ?_); (try (refine gate_guard (by rfl) ?_; dsimp only)); refine bx_ 7 #[.int .i64 0, .int .i64 0, .int .i64 0, .string (⟨#[]⟩ : ByteArray), .int .i64 0, .int .i64 0] 61 ?_; intro gb369 hg w30 hbox hb; have BK369 := Aside0.mk (hbox); have GW369 := gwe HB hg; have GE369 := GW369; replace HO_5 := Aside0.mk (Kd.R_below (R_later HO_5.out) hb); replace HB := bst HB hb; clear hb hbox hg; obtain ⟨hcz31_0, hcz31_1, hcz31_2, hcz31_3, hcz31_4, hcz31_5, hfz31_0, hfz31_1, hfz31_2, hfz31_3, hfz31_4, hfz31_5⟩ := cl6 BK369) | ((with_reducible refine gate_store (t := 61) (p := 7) rfl ?_); (try (rw [drewN_self w30]; generalize hq_ : World.drewN w30 _ = w30; have n0_ := Aside0.mk (Kd.R_at hq_ HO_5.out); have n1_ := Aside0.mk (blk_at hq_ BK369.out); have n2_ := Aside0.mk (below_at hq_ HB.out); clear hq_ HO_5 BK369 HB; have HO_5 := n0_; have BK369 := n1_; have HB := n2_; clear n0_ n1_ n2_)); refine st_ 61 7 ((((((w30.setCell ⟨gb369, 0, none⟩ (.int .i64 ((rd_T61 l1 x22_2).f0))).setCell ⟨gb369, 1, none⟩ (.int .i64 ((rd_T61 l1 x22_2).f1))).setCell ⟨gb369, 2, none⟩ (.int .i64 ((rd_T61 l1 x22_2).f2.f0))).setCell ⟨gb369, 3, none⟩ (.string ((rd_T61 l1 x22_2).f2.f1))).setCell ⟨gb369, 4, none⟩ (.int .i64 ((rd_T61 l1 x22_2).f3))).setCell ⟨gb369, 5, none⟩ (.int .i64 ((rd_T61 l1 x22_2).f4))) ?_; intro w32 hw; have n0_ : Aside0 (Kd.R (Kd.int .i64) 3 w32 w.heap.size (fun _ => True) v365 x5_2) := ⟨(by rw [hw]; exact (by (with_reducible repeat (first | apply Kd.R_alloc | apply Kd.R_drewN | apply Kd.R_drew)); exact Kd.R_mono (Kd.R_far (p := ⟨gb369, 5, none⟩) (Kd.R_far (p := ⟨gb369, 4, none⟩) (Kd.R_far (p := ⟨gb369, 3, none⟩) (Kd.R_far (p := ⟨gb369, 2, none⟩) (Kd.R_far (p := ⟨gb369, 1, none⟩) (Kd.R_far (p := ⟨gb369, 0, none⟩) (Kd.R_types HO_5.out BK369.out (by decide)) (fun _ hk => hk.2) (.int .i64 ((rd_T61 l1 x22_2).f0))) (fun _ hk => hk.2) (.int .i64 ((rd_T61 l1 x22_2).f1))) (fun _ hk => hk.2) (.int .i64 ((rd_T61 l1 x22_2).f2.f0))) (fun _ hk => hk.2) (.string ((rd_T61 l1 x22_2).f2.f1))) (fun _ hk => hk.2) (.int .i64 ((rd_T61 l1 x22_2).f3))) (fun _ hk => hk.2) (.int .i64 ((rd_T61 l1 x22_2).f4))) (fun _ hk => trivial)))⟩; have n1_ : Aside0 (w32.heap[gb369]? = some (.cells #[.int .i64 ((rd_T61 l1 x22_2).f0), .int .i64 ((rd_T61 l1 x22_2).f1), .int .i64 ((rd_T61 l1 x22_2).f2.f0), .string ((rd_T61 l1 x22_2).f2.f1), .int .i64 ((rd_T61 l1 x22_2).f3), .int .i64 ((rd_T61 l1 x22_2).f4)] 61 (0, 0))) := ⟨(by rw [hw]; exact (blk_later BK369.out))⟩; have n2_ : Aside0 (Below w.heap.size w w32) := ⟨(by rw [hw]; exact (below_later HB.out))⟩; clear hw; clear HO_5; clear BK369; clear HB; have HO_5 := n0_; have BK369 := n1_; have HB := n2_; clear n0_ n1_ n2_; have p18 : 0 ≤ (x22_2 : Int) := dcd; have q18 : (x22_2 : Int) < ((x5_2.length : Int) : Int) := dcd; obtain ⟨go18, co18, eo18, gb18, gl18, cl18, HG18⟩ := Kd.R_form HO_5.out (by omega); (first | cases eo18 | (injection eo18 with ea_ en_ ec_; (first | subst ea_ | (injection ea_ with ea_; subst ea_)); subst ec_; clear en_)); have GB18 := Aside0.mk gb18; have GG18 := Aside0.mk HG18; clear gb18 gl18 HG18; obtain ⟨hx18_0, hf18_0⟩ := Kd.R_celln 0 HO_5.out (x22_2 : Int) p18 q18; replace p18 := eq_true p18; replace q18 := eq_true q18; obtain ⟨hy33_, hz33_⟩ := Kd.R_celln 0 HO_5.out (x22_2 : Int) (dcd) (dcd); have HP33 := Kd.R_putg HO_5.out (x22_2 : Int) x22_2) | ((with_reducible refine gate_store (t := 3) (p := 30) rfl ?_); (try (rw [drewN_self w32]; generalize hq_ : World.drewN w32 _ = w32; have n0_ := Aside0.mk (Kd.R_at hq_ HO_5.out); have n1_ := Aside0.mk (blk_at hq_ BK369.out); have n2_ := Aside0.mk (below_at hq_ HB.out); clear hq_ HO_5 BK369 HB; have HO_5 := n0_; have BK369 := n1_; have HB := n2_; clear n0_ n1_ n2_; (try (obtain ⟨hy33_, hz33_⟩ := Kd.R_celln 0 HO_5.out (x22_2 : Int) (dcd) (dcd))); (try (have HP33 := Kd.R_putg HO_5.out (x22_2 : Int) x22_2)))); refine st_ 3 30 (w32.setCell ⟨go18, (x22_2 : Int).toNat, none⟩ (.int .i64 x22_2)) ?_; intro w34 hw; have hg : w32.grownBy w34 (some go18) := (by rw [hw]; exact HP33.2); have hp_ : Kd.R (Kd.int .i64) 3 w34 w.heap.size (fun _ => True) (.slice (some ⟨go18, 0, none⟩) x5_2.length co18) y370 := (by rw [hw, Ny370.out]; exact HP33.1); clear HP33; replace BK369 := Aside0.mk (blk_grown (blk_later BK369.out) hg (Kd.R_ne HO_5.out BK369.out (by decide))); replace HO_5 := Aside0.mk (hp_); replace HB := Aside0.mk ((by rw [hw]; exact below_set (HB.out) GB18.out : Below w.heap.size w w34)); clear hg hw hp_; obtain ⟨hcz35_0, hcz35_1, hcz35_2, hcz35_3, hcz35_4, hcz35_5, hfz35_0, hfz35_1, hfz35_2, hfz35_3, hfz35_4, hfz35_5⟩ := cl6 BK369) | (go_at_call 42; (with_reducible refine (impl_within.calls ((rd_T61 l1 x22_2).f0) 1 4 true _ A19.out).mono ?_); rintro e w' ⟨rfl, ⟨nd, rfl⟩⟩; (try first | exact ⟨rfl, _, World.drewN_drewN _ _ _⟩ | exact ⟨rfl, _, Eq.trans (World.drewN_drewN _ _ _) (congrArg (World.drewN _) (Nat.add_assoc _ _ _))⟩)) | (go_at_call 43; (with_reducible refine (impl_plainPred.calls k2 _ _ l0 ((rd_T61 l1 x22_2).f0) ((rd_T61 l1 x22_2).f1) ((rd_T61 l1 x22_2).f2.f0) ((rd_T61 l1 x22_2).f2.f1) ((rd_T61 l1 x22_2).f3) ((rd_T61 l1 x22_2).f4) false _ ?side1 ?side2 A21.out).mono ?_); (case side1 => repeat (first | exact (Kd.C_below HR0.out (below_later HB.out)) | (with_reducible refine Kd.C_alloc ?_ _) | (with_reducible refine Kd.C_drewN ?_ _) | (with_reducible refine Kd.C_drew ?_))); (case side2 => exact HC0.out); rintro e w36 ⟨rfl, hb⟩; replace HO_5 := Aside0.mk (Kd.R_below (R_later HO_5.out) hb); replace BK369 := bkb BK369 hb; replace HB := bst HB hb; (try clear hb); (try clear hk))))
              go_ret
              exact fin_ (below_later HB.out)
            ·
             replace c20 := Bool.eq_false_iff.mpr c20
             subst c20
             replace H := ifn Bool.false_ne_true H
             replace H := bnd H
             obtain ⟨t373, A37, H⟩ := H
             by_cases c38 : t373 = true
             ·
              subst c38
              replace H := ifp rfl H
              have HC39 := Aside0.mk H
              clear H
              have p368 : 0 ≤ (x22_2 : Int) := dcd
              have q368 : x22_2 < (l1.length : Int) := dcd
              obtain ⟨ad368, e368, hx368_0, hx368_1, hx368_2, hx368_3, hx368_4, hx368_5⟩ := at_T61 HR1.out x22_2 p368 q368
              cases e368
              replace hx368_0 := crd HB hx368_0
              replace hx368_1 := crd HB hx368_1
              replace hx368_2 := crd HB hx368_2
              replace hx368_3 := crd HB hx368_3
              replace hx368_4 := crd HB hx368_4
              replace hx368_5 := crd HB hx368_5
              replace p368 := eq_true p368
              replace q368 := eq_true q368
              go_upto_region 13 with (first | ((with_reducible refine gate_dst (N := 7) rfl ?_); (try (refine gate_guard (by rfl) ?_; dsimp only)); refine bx_ 7 #[.int .i64 0, .int .i64 0, .int .i64 0, .string (⟨#[]⟩ : ByteArray), .int .i64 0, .int .i64 0] 61 ?_; intro gb369 hg w40 hbox hb; have BK369 := Aside0.mk (hbox); have GW369 := gwe HB hg; have GE369 := GW369; replace HO_5 := Aside0.mk (Kd.R_below (R_later HO_5.out) hb); replace HB := bst HB hb; clear hb hbox hg; obtain ⟨hcz41_0, hcz41_1, hcz41_2, hcz41_3, hcz41_4, hcz41_5, hfz41_0, hfz41_1, hfz41_2, hfz41_3, hfz41_4, hfz41_5⟩ := cl6 BK369) | ((with_reducible refine gate_store (t := 61) (p := 7) rfl ?_); (try (rw [drewN_self w40]; generalize hq_ : World.drewN w40 _ = w40; have n0_ := Aside0.mk (Kd.R_at hq_ HO_5.out); have n1_ := Aside0.mk (blk_at hq_ BK369.out); have n2_ := Aside0.mk (below_at hq_ HB.out); clear hq_ HO_5 BK369 HB; have HO_5 := n0_; have BK369 := n1_; have HB := n2_; clear n0_ n1_ n2_)); refine st_ 61 7 ((((((w40.setCell ⟨gb369, 0, none⟩ (.int .i64 ((rd_T61 l1 x22_2).f0))).setCell ⟨gb369, 1, none⟩ (.int .i64 ((rd_T61 l1 x22_2).f1))).setCell ⟨gb369, 2, none⟩ (.int .i64 ((rd_T61 l1 x22_2).f2.f0))).setCell ⟨gb369, 3, none⟩ (.string ((rd_T61 l1 x22_2).f2.f1))).setCell ⟨gb369, 4, none⟩ (.int .i64 ((rd_T61 l1 x22_2).f3))).setCell ⟨gb369, 5, none⟩ (.int .i64 ((rd_T61 l1 x22_2).f4))) ?_; intro w42 hw; have n0_ : Aside0 (Kd.R (Kd.int .i64) 3 w42 w.heap.size (fun _ => True) v365 x5_2) := ⟨(by rw [hw]; exact (by (with_reducible repeat (first | apply Kd.R_alloc | apply Kd.R_drewN | apply Kd.R_drew)); exact Kd.R_mono (Kd.R_far (p := ⟨gb369, 5, none⟩) (Kd.R_far (p := ⟨gb369, 4, none⟩) (Kd.R_far (p := ⟨gb369, 3, none⟩) (Kd.R_far (p := ⟨gb369, 2, none⟩) (Kd.R_far (p := ⟨gb369, 1, none⟩) (Kd.R_far (p := ⟨gb369, 0, none⟩) (Kd.R_types HO_5.out BK369.out (by decide)) (fun _ hk => hk.2) (.int .i64 ((rd_T61 l1 x22_2).f0))) (fun _ hk => hk.2) (.int .i64 ((rd_T61 l1 x22_2).f1))) (fun _ hk => hk.2) (.int .i64 ((rd_T61 l1 x22_2).f2.f0))) (fun _ hk => hk.2) (.string ((rd_T61 l1 x22_2).f2.f1))) (fun _ hk => hk.2) (.int .i64 ((rd_T61 l1 x22_2).f3))) (fun _ hk => hk.2) (.int .i64 ((rd_T61 l1 x22_2).f4))) (fun _ hk => trivial)))⟩; have n1_ : Aside0 (w42.heap[gb369]? = some (.cells #[.int .i64 ((rd_T61 l1 x22_2).f0), .int .i64 ((rd_T61 l1 x22_2).f1), .int .i64 ((rd_T61 l1 x22_2).f2.f0), .string ((rd_T61 l1 x22_2).f2.f1), .int .i64 ((rd_T61 l1 x22_2).f3), .int .i64 ((rd_T61 l1 x22_2).f4)] 61 (0, 0))) := ⟨(by rw [hw]; exact (blk_later BK369.out))⟩; have n2_ : Aside0 (Below w.heap.size w w42) := ⟨(by rw [hw]; exact (below_later HB.out))⟩; clear hw; clear HO_5; clear BK369; clear HB; have HO_5 := n0_; have BK369 := n1_; have HB := n2_; clear n0_ n1_ n2_; have p18 : 0 ≤ (x22_2 : Int) := dcd; have q18 : (x22_2 : Int) < ((x5_2.length : Int) : Int) := dcd; obtain ⟨go18, co18, eo18, gb18, gl18, cl18, HG18⟩ := Kd.R_form HO_5.out (by omega); (first | cases eo18 | (injection eo18 with ea_ en_ ec_; (first | subst ea_ | (injection ea_ with ea_; subst ea_)); subst ec_; clear en_)); have GB18 := Aside0.mk gb18; have GG18 := Aside0.mk HG18; clear gb18 gl18 HG18; obtain ⟨hx18_0, hf18_0⟩ := Kd.R_celln 0 HO_5.out (x22_2 : Int) p18 q18; replace p18 := eq_true p18; replace q18 := eq_true q18; obtain ⟨hy43_, hz43_⟩ := Kd.R_celln 0 HO_5.out (x22_2 : Int) (dcd) (dcd); have HP43 := Kd.R_putg HO_5.out (x22_2 : Int) x22_2) | ((with_reducible refine gate_store (t := 3) (p := 30) rfl ?_); (try (rw [drewN_self w42]; generalize hq_ : World.drewN w42 _ = w42; have n0_ := Aside0.mk (Kd.R_at hq_ HO_5.out); have n1_ := Aside0.mk (blk_at hq_ BK369.out); have n2_ := Aside0.mk (below_at hq_ HB.out); clear hq_ HO_5 BK369 HB; have HO_5 := n0_; have BK369 := n1_; have HB := n2_; clear n0_ n1_ n2_; (try (obtain ⟨hy43_, hz43_⟩ := Kd.R_celln 0 HO_5.out (x22_2 : Int) (dcd) (dcd))); (try (have HP43 := Kd.R_putg HO_5.out (x22_2 : Int) x22_2)))); refine st_ 3 30 (w42.setCell ⟨go18, (x22_2 : Int).toNat, none⟩ (.int .i64 x22_2)) ?_; intro w44 hw; have hg : w42.grownBy w44 (some go18) := (by rw [hw]; exact HP43.2); have hp_ : Kd.R (Kd.int .i64) 3 w44 w.heap.size (fun _ => True) (.slice (some ⟨go18, 0, none⟩) x5_2.length co18) y370 := (by rw [hw, Ny370.out]; exact HP43.1); clear HP43; replace BK369 := Aside0.mk (blk_grown (blk_later BK369.out) hg (Kd.R_ne HO_5.out BK369.out (by decide))); replace HO_5 := Aside0.mk (hp_); replace HB := Aside0.mk ((by rw [hw]; exact below_set (HB.out) GB18.out : Below w.heap.size w w44)); clear hg hw hp_; obtain ⟨hcz45_0, hcz45_1, hcz45_2, hcz45_3, hcz45_4, hcz45_5, hfz45_0, hfz45_1, hfz45_2, hfz45_3, hfz45_4, hfz45_5⟩ := cl6 BK369) | (go_at_call 42; (with_reducible refine (impl_within.calls ((rd_T61 l1 x22_2).f0) 1 4 false _ A19.out).mono ?_); rintro e w' ⟨rfl, ⟨nd, rfl⟩⟩; (try first | exact ⟨rfl, _, World.drewN_drewN _ _ _⟩ | exact ⟨rfl, _, Eq.trans (World.drewN_drewN _ _ _) (congrArg (World.drewN _) (Nat.add_assoc _ _ _))⟩)) | (go_at_call 44; (with_reducible refine (impl_isPair.calls ((rd_T61 l1 x22_2).f0) true _ A37.out).mono ?_); rintro e w' ⟨rfl, ⟨nd, rfl⟩⟩; (try first | exact ⟨rfl, _, World.drewN_drewN _ _ _⟩ | exact ⟨rfl, _, Eq.trans (World.drewN_drewN _ _ _) (congrArg (World.drewN _) (Nat.add_assoc _ _ _))⟩)))
              repeat (go_quiet (first | (go_at_call 42; (with_reducible refine (impl_within.calls ((rd_T61 l1 x22_2).f0) 1 4 false _ A19.out).mono ?_); rintro e w' ⟨rfl, ⟨nd, rfl⟩⟩; (try first | exact ⟨rfl, _, World.drewN_drewN _ _ _⟩ | exact ⟨rfl, _, Eq.trans (World.drewN_drewN _ _ _) (congrArg (World.drewN _) (Nat.add_assoc _ _ _))⟩)) | (go_at_call 44; (with_reducible refine (impl_isPair.calls ((rd_T61 l1 x22_2).f0) true _ A37.out).mono ?_); rintro e w' ⟨rfl, ⟨nd, rfl⟩⟩; (try first | exact ⟨rfl, _, World.drewN_drewN _ _ _⟩ | exact ⟨rfl, _, Eq.trans (World.drewN_drewN _ _ _) (congrArg (World.drewN _) (Nat.add_assoc _ _ _))⟩))); go_upto_region 13 with (first | ((with_reducible refine gate_dst (N := 7) rfl ?_); (try (refine gate_guard (by rfl) ?_; dsimp only)); refine bx_ 7 #[.int .i64 0, .int .i64 0, .int .i64 0, .string (⟨#[]⟩ : ByteArray), .int .i64 0, .int .i64 0] 61 ?_; intro gb369 hg w40 hbox hb; have BK369 := Aside0.mk (hbox); have GW369 := gwe HB hg; have GE369 := GW369; replace HO_5 := Aside0.mk (Kd.R_below (R_later HO_5.out) hb); replace HB := bst HB hb; clear hb hbox hg; obtain ⟨hcz41_0, hcz41_1, hcz41_2, hcz41_3, hcz41_4, hcz41_5, hfz41_0, hfz41_1, hfz41_2, hfz41_3, hfz41_4, hfz41_5⟩ := cl6 BK369) | ((with_reducible refine gate_store (t := 61) (p := 7) rfl ?_); (try (rw [drewN_self w40]; generalize hq_ : World.drewN w40 _ = w40; have n0_ := Aside0.mk (Kd.R_at hq_ HO_5.out); have n1_ := Aside0.mk (blk_at hq_ BK369.out); have n2_ := Aside0.mk (below_at hq_ HB.out); clear hq_ HO_5 BK369 HB; have HO_5 := n0_; have BK369 := n1_; have HB := n2_; clear n0_ n1_ n2_)); refine st_ 61 7 ((((((w40.setCell ⟨gb369, 0, none⟩ (.int .i64 ((rd_T61 l1 x22_2).f0))).setCell ⟨gb369, 1, none⟩ (.int .i64 ((rd_T61 l1 x22_2).f1))).setCell ⟨gb369, 2, none⟩ (.int .i64 ((rd_T61 l1 x22_2).f2.f0))).setCell ⟨gb369, 3, none⟩ (.string ((rd_T61 l1 x22_2).f2.f1))).setCell ⟨gb369, 4, none⟩ (.int .i64 ((rd_T61 l1 x22_2).f3))).setCell ⟨gb369, 5, none⟩ (.int .i64 ((rd_T61 l1 x22_2).f4))) ?_; intro w42 hw; have n0_ : Aside0 (Kd.R (Kd.int .i64) 3 w42 w.heap.size (fun _ => True) v365 x5_2) := ⟨(by rw [hw]; exact (by (with_reducible repeat (first | apply Kd.R_alloc | apply Kd.R_drewN | apply Kd.R_drew)); exact Kd.R_mono (Kd.R_far (p := ⟨gb369, 5, none⟩) (Kd.R_far (p := ⟨gb369, 4, none⟩) (Kd.R_far (p := ⟨gb369, 3, none⟩) (Kd.R_far (p := ⟨gb369, 2, none⟩) (Kd.R_far (p := ⟨gb369, 1, none⟩) (Kd.R_far (p := ⟨gb369, 0, none⟩) (Kd.R_types HO_5.out BK369.out (by decide)) (fun _ hk => hk.2) (.int .i64 ((rd_T61 l1 x22_2).f0))) (fun _ hk => hk.2) (.int .i64 ((rd_T61 l1 x22_2).f1))) (fun _ hk => hk.2) (.int .i64 ((rd_T61 l1 x22_2).f2.f0))) (fun _ hk => hk.2) (.string ((rd_T61 l1 x22_2).f2.f1))) (fun _ hk => hk.2) (.int .i64 ((rd_T61 l1 x22_2).f3))) (fun _ hk => hk.2) (.int .i64 ((rd_T61 l1 x22_2).f4))) (fun _ hk => trivial)))⟩; have n1_ : Aside0 (w42.heap[gb369]? = some (.cells #[.int .i64 ((rd_T61 l1 x22_2).f0), .int .i64 ((rd_T61 l1 x22_2).f1), .int .i64 ((rd_T61 l1 x22_2).f2.f0), .string ((rd_T61 l1 x22_2).f2.f1), .int .i64 ((rd_T61 l1 x22_2).f3), .int .i64 ((rd_T61 l1 x22_2).f4)] 61 (0, 0))) := ⟨(by rw [hw]; exact (blk_later BK369.out))⟩; have n2_ : Aside0 (Below w.heap.size w w42) := ⟨(by rw [hw]; exact (below_later HB.out))⟩; clear hw; clear HO_5; clear BK369; clear HB; have HO_5 := n0_; have BK369 := n1_; have HB := n2_; clear n0_ n1_ n2_; have p18 : 0 ≤ (x22_2 : Int) := dcd; have q18 : (x22_2 : Int) < ((x5_2.length : Int) : Int) := dcd; obtain ⟨go18, co18, eo18, gb18, gl18, cl18, HG18⟩ := Kd.R_form HO_5.out (by omega); (first | cases eo18 | (injection eo18 with ea_ en_ ec_; (first | subst ea_ | (injection ea_ with ea_; subst ea_)); subst ec_; clear en_)); have GB18 := Aside0.mk gb18; have GG18 := Aside0.mk HG18; clear gb18 gl18 HG18; obtain ⟨hx18_0, hf18_0⟩ := Kd.R_celln 0 HO_5.out (x22_2 : Int) p18 q18; replace p18 := eq_true p18; replace q18 := eq_true q18; obtain ⟨hy43_, hz43_⟩ := Kd.R_celln 0 HO_5.out (x22_2 : Int) (dcd) (dcd); have HP43 := Kd.R_putg HO_5.out (x22_2 : Int) x22_2) | ((with_reducible refine gate_store (t := 3) (p := 30) rfl ?_); (try (rw [drewN_self w42]; generalize hq_ : World.drewN w42 _ = w42; have n0_ := Aside0.mk (Kd.R_at hq_ HO_5.out); have n1_ := Aside0.mk (blk_at hq_ BK369.out); have n2_ := Aside0.mk (below_at hq_ HB.out); clear hq_ HO_5 BK369 HB; have HO_5 := n0_; have BK369 := n1_; have HB := n2_; clear n0_ n1_ n2_; (try (obtain ⟨hy43_, hz43_⟩ := Kd.R_celln 0 HO_5.out (x22_2 : Int) (dcd) (dcd))); (try (have HP43 := Kd.R_putg HO_5.out (x22_2 : Int) x22_2)))); refine st_ 3 30 (w42.setCell ⟨go18, (x22_2 : Int).toNat, none⟩ (.int .i64 x22_2)) ?_; intro w44 hw; have hg : w42.grownBy w44 (some go18) := (by rw [hw]; exact HP43.2); have hp_ : Kd.R (Kd.int .i64) 3 w44 w.heap.size (fun _ => True) (.slice (some ⟨go18, 0, none⟩) x5_2.length co18) y370 := (by rw [hw, Ny370.out]; exact HP43.1); clear HP43; replace BK369 := Aside0.mk (blk_grown (blk_later BK369.out) hg (Kd.R_ne HO_5.out BK369.out (by decide))); replace HO_5 := Aside0.mk (hp_); replace HB := Aside0.mk ((by rw [hw]; exact below_set (HB.out) GB18.out : Below w.heap.size w w44)); clear hg hw hp_; obtain ⟨hcz45_0, hcz45_1, hcz45_2, hcz45_3, hcz45_4, hcz45_5, hfz45_0, hfz45_1, hfz45_2, hfz45_3, hfz45_4, hfz45_5⟩ := cl6 BK369) | (go_at_call 42; (with_reducible refine (impl_within.calls ((rd_T61 l1 x22_2).f0) 1 4 false _ A19.out).mono ?_); rintro e w' ⟨rfl, ⟨nd, rfl⟩⟩; (try first | exact ⟨rfl, _, World.drewN_drewN _ _ _⟩ | exact ⟨rfl, _, Eq.trans (World.drewN_drewN _ _ _) (congrArg (World.drewN _) (Nat.add_assoc _ _ _))⟩)) | (go_at_call 44; (with_reducible refine (impl_isPair.calls ((rd_T61 l1 x22_2).f0) true _ A37.out).mono ?_); rintro e w' ⟨rfl, ⟨nd, rfl⟩⟩; (try first | exact ⟨rfl, _, World.drewN_drewN _ _ _⟩ | exact ⟨rfl, _, Eq.trans (World.drewN_drewN _ _ _) (congrArg (World.drewN _) (Nat.add_assoc _ _ _))⟩))))
              (try simp only [Act.put, List.setIfInBounds_toArray, List.set_cons_zero, List.set_cons_succ])
              go_cut [67] (fun v67 wc => ∃ (kq : Nat) (x67_38 : Bool), v67 = .bool x67_38 ∧ Aside0 (impl_PredOk.j2 kq l0 l1 y370 x22_2 l1 (l1.length : Int) x22_2 x67_38 ((rd_T61 l1 x22_2).f0) ((rd_T61 l1 x22_2).f1) ((rd_T61 l1 x22_2).f2.f0) ((rd_T61 l1 x22_2).f2.f1) ((rd_T61 l1 x22_2).f3) ((rd_T61 l1 x22_2).f4) = some r) ∧ Aside0 (kq ≤ k2) ∧ Aside0 (Kd.R (Kd.int .i64) 3 wc w.heap.size (fun _ => True) (.slice (some ⟨go18, 0, none⟩) x5_2.length co18) y370) ∧ Aside0 (wc.heap[gb369]? = some (.cells #[.int .i64 ((rd_T61 l1 x22_2).f0), .int .i64 ((rd_T61 l1 x22_2).f1), .int .i64 ((rd_T61 l1 x22_2).f2.f0), .string ((rd_T61 l1 x22_2).f2.f1), .int .i64 ((rd_T61 l1 x22_2).f3), .int .i64 ((rd_T61 l1 x22_2).f4)] 61 (0, 0))) ∧ Aside0 (Below w.heap.size w wc))
              case first =>
               have H := HC39.out
               clear HC39
               by_cases c46 : x22_2 = 0
               ·
                rw [if_pos c46] at H
                have c46b0 : (x22_2 == 0) = true := beq_iff_eq.mpr c46
                have c46b1 : (x22_2 != 0) = false := bne_eq_false_iff_eq.mpr c46
                clear c46
                (first | rw [c46b0] | rw [c46b1] | (simp only [i64_w, i32_w]; rw [c46b0]) | skip)
                have H' := Aside0.mk H
                clear H
                go_wp2
                repeat (go_quiet (fail); try go_wp2)
                go_meet
                case rel => exact ⟨_, (true), sr, H', ⟨by have := HJ2.out; have := HK2.out; first | omega | exact Nat.le_refl _⟩, ⟨R_later HO_5.out⟩, ⟨blk_later BK369.out⟩, ⟨below_later HB.out⟩⟩
               ·
                rw [if_neg c46] at H
                have c46b0 : (x22_2 == 0) = false := beq_eq_false_iff_ne.mpr c46
                have c46b1 : (x22_2 != 0) = true := bne_iff_ne.mpr c46
                (first | rw [c46b0] | rw [c46b1] | (simp only [i64_w, i32_w]; rw [c46b0]) | skip)
                obtain ⟨ji47, hji47⟩ : ∃ j_ : Int, (wrap64 (x22_2 - 1)) = j_ := ⟨_, rfl⟩
                replace H : (if 0 ≤ (ji47) then (if (ji47) < (x5_2.length : Int) then (if (rd y370 (ji47)) = 0 then (impl_PredOk.j2 k2 l0 l1 y370 x22_2 l1 (l1.length : Int) x22_2 true ((rd_T61 l1 x22_2).f0) ((rd_T61 l1 x22_2).f1) ((rd_T61 l1 x22_2).f2.f0) ((rd_T61 l1 x22_2).f2.f1) ((rd_T61 l1 x22_2).f3) ((rd_T61 l1 x22_2).f4)) else (impl_PredOk.j2 k2 l0 l1 y370 x22_2 l1 (l1.length : Int) x22_2 (!(((rd_T61 l1 x22_2).f1) == 0) || ((!(((rd_T61 l1 x22_2).f2.f0) == 0) || (!((((rd_T61 l1 x22_2).f2.f1).toList) == ([] : List UInt8)))) || (!(((rd_T61 l1 x22_2).f3) == (wrap64 ((rd y370 (ji47)) - 1))) || (!(((rd_T61 l1 x22_2).f4) == (ji47)))))) ((rd_T61 l1 x22_2).f0) ((rd_T61 l1 x22_2).f1) ((rd_T61 l1 x22_2).f2.f0) ((rd_T61 l1 x22_2).f2.f1) ((rd_T61 l1 x22_2).f3) ((rd_T61 l1 x22_2).f4))) else (none)) else (none)) = some r := by first | (rw [hji47] at H; exact H) | (simp only [hji47] at H ⊢; exact H)
                have hji47w : (IntKind.i64.wrap (x22_2 - 1)) = ji47 := (i64_w _).trans hji47
                by_cases c48 : 0 ≤ (ji47)
                ·
                 rw [if_pos c48] at H
                 have c48b0 := decide_eq_true c48
                 clear c48
                 by_cases c49 : (ji47) < (x5_2.length : Int)
                 ·
                  rw [if_pos c49] at H
                  have c49b0 := decide_eq_true c49
                  clear c49
                  by_cases c50 : (rd y370 (ji47)) = 0
                  ·
                   rw [if_pos c50] at H
                   have c50b0 : ((rd y370 (ji47)) == 0) = true := beq_iff_eq.mpr c50
                   have c50b1 : ((rd y370 (ji47)) != 0) = false := bne_eq_false_iff_eq.mpr c50
                   clear c50
                   have H' := Aside0.mk H
                   clear H
                   have p374 : 0 ≤ ((ji47) : Int) := dcd
                   have q374 : (ji47) < (y370.length : Int) := (by have h_ : ((ji47) : Int) < ((x5_2.length : Int) : Int) := dcd; first | (have e_ := (Kd.R_reads' HO_5.out).1; omega) | simpa only [Ny370.out, List.length_set] using h_)
                   have ql374 : (((ji47) : Int) < ((x5_2.length : Int) : Int)) = True := eq_true (dcd)
                   obtain ⟨ad374, e374, hx374_0⟩ := Kd.at_int (Kd.R_reads' HO_5.out).2.2 (ji47) p374 q374
                   obtain rfl : (⟨go18, 0, none⟩ : Addr) = ad374 := (by injection e374)
                   (first | simp only [add_plain] at hx374_0 | simp only [add_at] at hx374_0 | simp only [Addr.add, Nat.zero_add] at hx374_0 | skip)
                   replace p374 := eq_true p374
                   replace q374 := eq_true q374
                   go_wp2
                   repeat (go_quiet (fail); try go_wp2)
                   go_meet
                   case rel => exact ⟨_, (true), sr, H', ⟨by have := HJ2.out; have := HK2.out; first | omega | exact Nat.le_refl _⟩, ⟨R_later HO_5.out⟩, ⟨blk_later BK369.out⟩, ⟨below_later HB.out⟩⟩
                  ·
                   rw [if_neg c50] at H
                   have c50b0 : ((rd y370 (ji47)) == 0) = false := beq_eq_false_iff_ne.mpr c50
                   have c50b1 : ((rd y370 (ji47)) != 0) = true := bne_iff_ne.mpr c50
                   have H' := Aside0.mk H
                   clear H
                   have p374 : 0 ≤ ((ji47) : Int) := dcd
                   have q374 : (ji47) < (y370.length : Int) := (by have h_ : ((ji47) : Int) < ((x5_2.length : Int) : Int) := dcd; first | (have e_ := (Kd.R_reads' HO_5.out).1; omega) | simpa only [Ny370.out, List.length_set] using h_)
                   have ql374 : (((ji47) : Int) < ((x5_2.length : Int) : Int)) = True := eq_true (dcd)
                   obtain ⟨ad374, e374, hx374_0⟩ := Kd.at_int (Kd.R_reads' HO_5.out).2.2 (ji47) p374 q374
                   obtain rfl : (⟨go18, 0, none⟩ : Addr) = ad374 := (by injection e374)
                   (first | simp only [add_plain] at hx374_0 | simp only [add_at] at hx374_0 | simp only [Addr.add, Nat.zero_add] at hx374_0 | skip)
                   replace p374 := eq_true p374
                   replace q374 := eq_true q374
                   obtain ⟨hcz51_0, hcz51_1, hcz51_2, hcz51_3, hcz51_4, hcz51_5, hfz51_0, hfz51_1, hfz51_2, hfz51_3, hfz51_4, hfz51_5⟩ := cl6 BK369
                   have p375 : 0 ≤ ((ji47) : Int) := dcd
                   have q375 : (ji47) < (y370.length : Int) := (by have h_ : ((ji47) : Int) < ((x5_2.length : Int) : Int) := dcd; first | (have e_ := (Kd.R_reads' HO_5.out).1; omega) | simpa only [Ny370.out, List.length_set] using h_)
                   have ql375 : (((ji47) : Int) < ((x5_2.length : Int) : Int)) = True := eq_true (dcd)
                   obtain ⟨ad375, e375, hx375_0⟩ := Kd.at_int (Kd.R_reads' HO_5.out).2.2 (ji47) p375 q375
                   obtain rfl : (⟨go18, 0, none⟩ : Addr) = ad375 := (by injection e375)
                   (first | simp only [add_plain] at hx375_0 | simp only [add_at] at hx375_0 | simp only [Addr.add, Nat.zero_add] at hx375_0 | skip)
                   replace p375 := eq_true p375
                   replace q375 := eq_true q375
                   go_wp2
                   repeat (go_quiet (fail); try go_wp2)
                   go_meet
                   case rel => exact ⟨_, ((!(((rd_T61 l1 x22_2).f1) == 0) || ((!(((rd_T61 l1 x22_2).f2.f0) == 0) || (!((((rd_T61 l1 x22_2).f2.f1).toList) == ([] : List UInt8)))) || (!(((rd_T61 l1 x22_2).f3) == (wrap64 ((rd y370 (ji47)) - 1))) || (!(((rd_T61 l1 x22_2).f4) == (ji47))))))), (by first | rfl | (simp; done) | (simp only [← hji47] <;> (first | rfl | simp)) | (simp [*]; done)), H', ⟨by have := HJ2.out; have := HK2.out; first | omega | exact Nat.le_refl _⟩, ⟨R_later HO_5.out⟩, ⟨blk_later BK369.out⟩, ⟨below_later HB.out⟩⟩
                 ·
                  rw [if_neg c49] at H
                  exact absurd H (by simp)
                ·
                 rw [if_neg c48] at H
                 exact absurd H (by simp)
              case rest =>
               clear HC39
               try clear c1
               try clear c9
               try clear c10
               try clear c10b0
               try clear c10b1
               try clear c11
               try clear c11b0
               try clear c11b1
               try clear c14
               try clear c14b0
               try clear c15
               try clear c15b0
               try clear c16
               try clear c16b0
               try clear c17
               try clear c17b0
               try clear p18
               try clear q18
               try clear c20
               try clear c38
               try clear hcz41_0
               try clear hcz41_1
               try clear hcz41_2
               try clear hcz41_3
               try clear hcz41_4
               try clear hcz41_5
               try clear hcz45_0
               try clear hcz45_1
               try clear hcz45_2
               try clear hcz45_3
               try clear hcz45_4
               try clear hcz45_5
               try clear hfz41_0
               try clear hfz41_1
               try clear hfz41_2
               try clear hfz41_3
               try clear hfz41_4
               try clear hfz41_5
               try clear hfz45_0
               try clear hfz45_1
               try clear hfz45_2
               try clear hfz45_3
               try clear hfz45_4
               try clear hfz45_5
               try clear hx18_0
               try clear hx368_0
               try clear hx368_1
               try clear hx368_2
               try clear hx368_3
               try clear hx368_4
               try clear hx368_5
               try clear p18
               try clear p368
               try clear q18
               try clear q368
               obtain ⟨kq, x67_38, rfl, HA, HJ38, HO_5, BK369, HB⟩ := hcut
               have hl5_38 := (Kd.R_reads' HO_5.out).1
               rw [hl5_38] at HO_5
               (try simp only [hl5_38])
               (try simp only [hl5_38] at BK369)
               cases kq with
               | zero => exact absurd HA.out (by simp [impl_PredOk.j2])
               | succ kj38 =>
                have H := HA.out
                clear HA
                simp only [impl_PredOk.j2] at H
                by_cases c52 : x67_38 = true
                ·
                 subst c52
                 replace H := ifp rfl H
                 obtain rfl := Option.some.inj H
                 go_wp2
                 repeat (go_quiet (fail); try go_wp2)
                 go_ret
                 exact fin_ (below_later HB.out)
                ·
                 replace c52 := Bool.eq_false_iff.mpr c52
                 subst c52
                 replace H := ifn Bool.false_ne_true H
                 by_cases c53 : 0 ≤ ((rd_T61 l1 x22_2).f3)
                 ·
                  rw [if_pos c53] at H
                  have c53b0 := decide_eq_true c53
                  clear c53
                  by_cases c54 : ((rd_T61 l1 x22_2).f3) < (y370.length : Int)
                  ·
                   rw [if_pos c54] at H
                   have c54b0 := decide_eq_true c54
                   clear c54
                   by_cases c55 : 0 ≤ x22_2
                   ·
                    rw [if_pos c55] at H
                    have c55b0 := decide_eq_true c55
                    clear c55
                    by_cases c56 : x22_2 < (y370.length : Int)
                    ·
                     rw [if_pos c56] at H
                     have c56b0 := decide_eq_true c56
                     clear c56
                     obtain ⟨y377, hy377⟩ : ∃ y_ : List Int, y_ = (y370.set (x22_2 : Int).toNat (rd y370 ((rd_T61 l1 x22_2).f3))) := ⟨_, rfl⟩
                     replace H : (impl_PredOk.l0 kj38 l0 l1 y377 l1 (l1.length : Int) (wrap64 (x22_2 + 1))) = some r := by first | (rw [hy377]; with_reducible exact H) | (rw [hy377]; exact H) | exact H
                     have Ny377 := Aside0.mk hy377
                     clear hy377
                     have H' := Aside0.mk H
                     clear H
                     obtain ⟨hcz58_0, hcz58_1, hcz58_2, hcz58_3, hcz58_4, hcz58_5, hfz58_0, hfz58_1, hfz58_2, hfz58_3, hfz58_4, hfz58_5⟩ := cl6 BK369
                     have p376 : 0 ≤ (((rd_T61 l1 x22_2).f3) : Int) := dcd
                     have q376 : ((rd_T61 l1 x22_2).f3) < (y370.length : Int) := dcd
                     obtain ⟨ad376, e376, hx376_0⟩ := Kd.at_int (Kd.R_reads' HO_5.out).2.2 ((rd_T61 l1 x22_2).f3) p376 q376
                     obtain rfl : (⟨go18, 0, none⟩ : Addr) = ad376 := (by injection e376)
                     (first | simp only [add_plain] at hx376_0 | simp only [add_at] at hx376_0 | simp only [Addr.add, Nat.zero_add] at hx376_0 | skip)
                     replace p376 := eq_true p376
                     replace q376 := eq_true q376
                     have p57 : 0 ≤ (x22_2 : Int) := dcd
                     have q57 : (x22_2 : Int) < ((y370.length : Int) : Int) := dcd
                     obtain ⟨hx57_0, hf57_0⟩ := Kd.R_celln 0 HO_5.out (x22_2 : Int) p57 q57
                     replace p57 := eq_true p57
                     replace q57 := eq_true q57
                     have HP59 := Kd.R_putg HO_5.out (x22_2 : Int) (rd y370 ((rd_T61 l1 x22_2).f3))
                     go_wp2_with (first | ((with_reducible refine gate_store (t := 3) (p := 75) rfl ?_); (try (rw [drewN_self wc]; generalize hq_ : World.drewN wc _ = wc; have n0_ := Aside0.mk (Kd.R_at hq_ HO_5.out); have n1_ := Aside0.mk (blk_at hq_ BK369.out); have n2_ := Aside0.mk (below_at hq_ HB.out); clear hq_ HO_5 BK369 HB; have HO_5 := n0_; have BK369 := n1_; have HB := n2_; clear n0_ n1_ n2_; (try (have HP59 := Kd.R_putg HO_5.out (x22_2 : Int) (rd y370 ((rd_T61 l1 x22_2).f3)))))); refine st_ 3 75 (wc.setCell ⟨go18, (x22_2 : Int).toNat, none⟩ (.int .i64 (rd y370 ((rd_T61 l1 x22_2).f3)))) ?_; intro w60 hw; have hg : wc.grownBy w60 (some go18) := (by rw [hw]; exact HP59.2); have hp_ : Kd.R (Kd.int .i64) 3 w60 w.heap.size (fun _ => True) (.slice (some ⟨go18, 0, none⟩) y370.length co18) y377 := (by rw [hw, Ny377.out]; exact HP59.1); clear HP59; replace BK369 := Aside0.mk (blk_grown (blk_later BK369.out) hg (Kd.R_ne HO_5.out BK369.out (by decide))); replace HO_5 := Aside0.mk (hp_); replace HB := Aside0.mk ((by rw [hw]; exact below_set (HB.out) GB18.out : Below w.heap.size w w60)); clear hg hw hp_))
                     repeat (go_quiet (fail); try go_wp2_with (first | ((with_reducible refine gate_store (t := 3) (p := 75) rfl ?_); (try (rw [drewN_self wc]; generalize hq_ : World.drewN wc _ = wc; have n0_ := Aside0.mk (Kd.R_at hq_ HO_5.out); have n1_ := Aside0.mk (blk_at hq_ BK369.out); have n2_ := Aside0.mk (below_at hq_ HB.out); clear hq_ HO_5 BK369 HB; have HO_5 := n0_; have BK369 := n1_; have HB := n2_; clear n0_ n1_ n2_; (try (have HP59 := Kd.R_putg HO_5.out (x22_2 : Int) (rd y370 ((rd_T61 l1 x22_2).f3)))))); refine st_ 3 75 (wc.setCell ⟨go18, (x22_2 : Int).toNat, none⟩ (.int .i64 (rd y370 ((rd_T61 l1 x22_2).f3)))) ?_; intro w60 hw; have hg : wc.grownBy w60 (some go18) := (by rw [hw]; exact HP59.2); have hp_ : Kd.R (Kd.int .i64) 3 w60 w.heap.size (fun _ => True) (.slice (some ⟨go18, 0, none⟩) y370.length co18) y377 := (by rw [hw, Ny377.out]; exact HP59.1); clear HP59; replace BK369 := Aside0.mk (blk_grown (blk_later BK369.out) hg (Kd.R_ne HO_5.out BK369.out (by decide))); replace HO_5 := Aside0.mk (hp_); replace HB := Aside0.mk ((by rw [hw]; exact below_set (HB.out) GB18.out : Below w.heap.size w w60)); clear hg hw hp_)))
                     (try simp only [← hl5_38])
                     go_roundg kj38
                     case measure => have := HJ2.out; have := HK2.out; have := HJ38.out; omega
                     case rel => exact ⟨(y377), (wrap64 (x22_2 + 1)), sr, H', ⟨by have := HJ2.out; have := HK2.out; have := HJ38.out; omega⟩, ⟨by (try simp only [hl5_38]); (with_reducible repeat (first | apply Kd.R_alloc | apply Kd.R_drewN | apply Kd.R_drew)); exact HO_5.out⟩, ⟨below_later HB.out⟩⟩
                    ·
                     rw [if_neg c56] at H
                     exact absurd H (by simp)
                   ·
                    rw [if_neg c55] at H
                    exact absurd H (by simp)
                  ·
                   rw [if_neg c54] at H
                   exact absurd H (by simp)
                 ·
                  rw [if_neg c53] at H
                  exact absurd H (by simp)
             ·
              replace c38 := Bool.eq_false_iff.mpr c38
              subst c38
              replace H := ifn Bool.false_ne_true H
              by_cases c61 : ((rd_T61 l1 x22_2).f0) = 7
              ·
               rw [if_pos c61] at H
               have c61b0 : (((rd_T61 l1 x22_2).f0) == 7) = true := beq_iff_eq.mpr c61
               have c61b1 : (((rd_T61 l1 x22_2).f0) != 7) = false := bne_eq_false_iff_eq.mpr c61
               clear c61
               by_cases c62 : x22_2 = 0
               ·
                rw [if_pos c62] at H
                have c62b0 : (x22_2 == 0) = true := beq_iff_eq.mpr c62
                have c62b1 : (x22_2 != 0) = false := bne_eq_false_iff_eq.mpr c62
                clear c62
                obtain rfl := Option.some.inj H
                have p368 : 0 ≤ (x22_2 : Int) := dcd
                have q368 : x22_2 < (l1.length : Int) := dcd
                obtain ⟨ad368, e368, hx368_0, hx368_1, hx368_2, hx368_3, hx368_4, hx368_5⟩ := at_T61 HR1.out x22_2 p368 q368
                cases e368
                replace hx368_0 := crd HB hx368_0
                replace hx368_1 := crd HB hx368_1
                replace hx368_2 := crd HB hx368_2
                replace hx368_3 := crd HB hx368_3
                replace hx368_4 := crd HB hx368_4
                replace hx368_5 := crd HB hx368_5
                replace p368 := eq_true p368
                replace q368 := eq_true q368
                go_wp2_with (first | ((with_reducible refine gate_dst (N := 7) rfl ?_); (try (refine gate_guard (by rfl) ?_; dsimp only)); refine bx_ 7 #[.int .i64 0, .int .i64 0, .int .i64 0, .string (⟨#[]⟩ : ByteArray), .int .i64 0, .int .i64 0] 61 ?_; intro gb369 hg w63 hbox hb; have BK369 := Aside0.mk (hbox); have GW369 := gwe HB hg; have GE369 := GW369; replace HO_5 := Aside0.mk (Kd.R_below (R_later HO_5.out) hb); replace HB := bst HB hb; clear hb hbox hg; obtain ⟨hcz64_0, hcz64_1, hcz64_2, hcz64_3, hcz64_4, hcz64_5, hfz64_0, hfz64_1, hfz64_2, hfz64_3, hfz64_4, hfz64_5⟩ := cl6 BK369) | ((with_reducible refine gate_store (t := 61) (p := 7) rfl ?_); (try (rw [drewN_self w63]; generalize hq_ : World.drewN w63 _ = w63; have n0_ := Aside0.mk (Kd.R_at hq_ HO_5.out); have n1_ := Aside0.mk (blk_at hq_ BK369.out); have n2_ := Aside0.mk (below_at hq_ HB.out); clear hq_ HO_5 BK369 HB; have HO_5 := n0_; have BK369 := n1_; have HB := n2_; clear n0_ n1_ n2_)); refine st_ 61 7 ((((((w63.setCell ⟨gb369, 0, none⟩ (.int .i64 ((rd_T61 l1 x22_2).f0))).setCell ⟨gb369, 1, none⟩ (.int .i64 ((rd_T61 l1 x22_2).f1))).setCell ⟨gb369, 2, none⟩ (.int .i64 ((rd_T61 l1 x22_2).f2.f0))).setCell ⟨gb369, 3, none⟩ (.string ((rd_T61 l1 x22_2).f2.f1))).setCell ⟨gb369, 4, none⟩ (.int .i64 ((rd_T61 l1 x22_2).f3))).setCell ⟨gb369, 5, none⟩ (.int .i64 ((rd_T61 l1 x22_2).f4))) ?_; intro w65 hw; have n0_ : Aside0 (Kd.R (Kd.int .i64) 3 w65 w.heap.size (fun _ => True) v365 x5_2) := ⟨(by rw [hw]; exact (by (with_reducible repeat (first | apply Kd.R_alloc | apply Kd.R_drewN | apply Kd.R_drew)); exact Kd.R_mono (Kd.R_far (p := ⟨gb369, 5, none⟩) (Kd.R_far (p := ⟨gb369, 4, none⟩) (Kd.R_far (p := ⟨gb369, 3, none⟩) (Kd.R_far (p := ⟨gb369, 2, none⟩) (Kd.R_far (p := ⟨gb369, 1, none⟩) (Kd.R_far (p := ⟨gb369, 0, none⟩) (Kd.R_types HO_5.out BK369.out (by decide)) (fun _ hk => hk.2) (.int .i64 ((rd_T61 l1 x22_2).f0))) (fun _ hk => hk.2) (.int .i64 ((rd_T61 l1 x22_2).f1))) (fun _ hk => hk.2) (.int .i64 ((rd_T61 l1 x22_2).f2.f0))) (fun _ hk => hk.2) (.string ((rd_T61 l1 x22_2).f2.f1))) (fun _ hk => hk.2) (.int .i64 ((rd_T61 l1 x22_2).f3))) (fun _ hk => hk.2) (.int .i64 ((rd_T61 l1 x22_2).f4))) (fun _ hk => trivial)))⟩; have n1_ : Aside0 (w65.heap[gb369]? = some (.cells #[.int .i64 ((rd_T61 l1 x22_2).f0), .int .i64 ((rd_T61 l1 x22_2).f1), .int .i64 ((rd_T61 l1 x22_2).f2.f0), .string ((rd_T61 l1 x22_2).f2.f1), .int .i64 ((rd_T61 l1 x22_2).f3), .int .i64 ((rd_T61 l1 x22_2).f4)] 61 (0, 0))) := ⟨(by rw [hw]; exact (blk_later BK369.out))⟩; have n2_ : Aside0 (Below w.heap.size w w65) := ⟨(by rw [hw]; exact (below_later HB.out))⟩; clear hw; clear HO_5; clear BK369; clear HB; have HO_5 := n0_; have BK369 := n1_; have HB := n2_; clear n0_ n1_ n2_; have p18 : 0 ≤ (x22_2 : Int) := dcd; have q18 : (x22_2 : Int) < ((x5_2.length : Int) : Int) := dcd; obtain ⟨go18, co18, eo18, gb18, gl18, cl18, HG18⟩ := Kd.R_form HO_5.out (by omega); (first | cases eo18 | (injection eo18 with ea_ en_ ec_; (first | subst ea_ | (injection ea_ with ea_; subst ea_)); subst ec_; clear en_)); have GB18 := Aside0.mk gb18; have GG18 := Aside0.mk HG18; clear gb18 gl18 HG18; obtain ⟨hx18_0, hf18_0⟩ := Kd.R_celln 0 HO_5.out (x22_2 : Int) p18 q18; replace p18 := eq_true p18; replace q18 := eq_true q18; obtain ⟨hy66_, hz66_⟩ := Kd.R_celln 0 HO_5.out (x22_2 : Int) (dcd) (dcd); have HP66 := Kd.R_putg HO_5.out (x22_2 : Int) x22_2) | ((with_reducible refine gate_store (t := 3) (p := 30) rfl ?_); (try (rw [drewN_self w65]; generalize hq_ : World.drewN w65 _ = w65; have n0_ := Aside0.mk (Kd.R_at hq_ HO_5.out); have n1_ := Aside0.mk (blk_at hq_ BK369.out); have n2_ := Aside0.mk (below_at hq_ HB.out); clear hq_ HO_5 BK369 HB; have HO_5 := n0_; have BK369 := n1_; have HB := n2_; clear n0_ n1_ n2_; (try (obtain ⟨hy66_, hz66_⟩ := Kd.R_celln 0 HO_5.out (x22_2 : Int) (dcd) (dcd))); (try (have HP66 := Kd.R_putg HO_5.out (x22_2 : Int) x22_2)))); refine st_ 3 30 (w65.setCell ⟨go18, (x22_2 : Int).toNat, none⟩ (.int .i64 x22_2)) ?_; intro w67 hw; have hg : w65.grownBy w67 (some go18) := (by rw [hw]; exact HP66.2); have hp_ : Kd.R (Kd.int .i64) 3 w67 w.heap.size (fun _ => True) (.slice (some ⟨go18, 0, none⟩) x5_2.length co18) y370 := (by rw [hw, Ny370.out]; exact HP66.1); clear HP66; replace BK369 := Aside0.mk (blk_grown (blk_later BK369.out) hg (Kd.R_ne HO_5.out BK369.out (by decide))); replace HO_5 := Aside0.mk (hp_); replace HB := Aside0.mk ((by rw [hw]; exact below_set (HB.out) GB18.out : Below w.heap.size w w67)); clear hg hw hp_; obtain ⟨hcz68_0, hcz68_1, hcz68_2, hcz68_3, hcz68_4, hcz68_5, hfz68_0, hfz68_1, hfz68_2, hfz68_3, hfz68_4, hfz68_5⟩ := cl6 BK369) | (go_at_call 42; (with_reducible refine (impl_within.calls ((rd_T61 l1 x22_2).f0) 1 4 false _ A19.out).mono ?_); rintro e w' ⟨rfl, ⟨nd, rfl⟩⟩; (try first | exact ⟨rfl, _, World.drewN_drewN _ _ _⟩ | exact ⟨rfl, _, Eq.trans (World.drewN_drewN _ _ _) (congrArg (World.drewN _) (Nat.add_assoc _ _ _))⟩)) | (go_at_call 44; (with_reducible refine (impl_isPair.calls ((rd_T61 l1 x22_2).f0) false _ A37.out).mono ?_); rintro e w' ⟨rfl, ⟨nd, rfl⟩⟩; (try first | exact ⟨rfl, _, World.drewN_drewN _ _ _⟩ | exact ⟨rfl, _, Eq.trans (World.drewN_drewN _ _ _) (congrArg (World.drewN _) (Nat.add_assoc _ _ _))⟩)))
                repeat (go_quiet (first | (go_at_call 42; (with_reducible refine (impl_within.calls ((rd_T61 l1 x22_2).f0) 1 4 false _ A19.out).mono ?_); rintro e w' ⟨rfl, ⟨nd, rfl⟩⟩; (try first | exact ⟨rfl, _, World.drewN_drewN _ _ _⟩ | exact ⟨rfl, _, Eq.trans (World.drewN_drewN _ _ _) (congrArg (World.drewN _) (Nat.add_assoc _ _ _))⟩)) | (go_at_call 44; (with_reducible refine (impl_isPair.calls ((rd_T61 l1 x22_2).f0) false _ A37.out).mono ?_); rintro e w' ⟨rfl, ⟨nd, rfl⟩⟩; (try first | exact ⟨rfl, _, World.drewN_drewN _ _ _⟩ | exact ⟨rfl, _, Eq.trans (World.drewN_drewN _ _ _) (congrArg (World.drewN _) (Nat.add_assoc _ _ _))⟩))); try go_wp2_with (first | ((with_reducible refine gate_dst (N := 7) rfl ?_); (try (refine gate_guard (by rfl) ?_; dsimp only)); refine bx_ 7 #[.int .i64 0, .int .i64 0, .int .i64 0, .string (⟨#[]⟩ : ByteArray), .int .i64 0, .int .i64 0] 61 ?_; intro gb369 hg w63 hbox hb; have BK369 := Aside0.mk (hbox); have GW369 := gwe HB hg; have GE369 := GW369; replace HO_5 := Aside0.mk (Kd.R_below (R_later HO_5.out) hb); replace HB := bst HB hb; clear hb hbox hg; obtain ⟨hcz64_0, hcz64_1, hcz64_2, hcz64_3, hcz64_4, hcz64_5, hfz64_0, hfz64_1, hfz64_2, hfz64_3, hfz64_4, hfz64_5⟩ := cl6 BK369) | ((with_reducible refine gate_store (t := 61) (p := 7) rfl ?_); (try (rw [drewN_self w63]; generalize hq_ : World.drewN w63 _ = w63; have n0_ := Aside0.mk (Kd.R_at hq_ HO_5.out); have n1_ := Aside0.mk (blk_at hq_ BK369.out); have n2_ := Aside0.mk (below_at hq_ HB.out); clear hq_ HO_5 BK369 HB; have HO_5 := n0_; have BK369 := n1_; have HB := n2_; clear n0_ n1_ n2_)); refine st_ 61 7 ((((((w63.setCell ⟨gb369, 0, none⟩ (.int .i64 ((rd_T61 l1 x22_2).f0))).setCell ⟨gb369, 1, none⟩ (.int .i64 ((rd_T61 l1 x22_2).f1))).setCell ⟨gb369, 2, none⟩ (.int .i64 ((rd_T61 l1 x22_2).f2.f0))).setCell ⟨gb369, 3, none⟩ (.string ((rd_T61 l1 x22_2).f2.f1))).setCell ⟨gb369, 4, none⟩ (.int .i64 ((rd_T61 l1 x22_2).f3))).setCell ⟨gb369, 5, none⟩ (.int .i64 ((rd_T61 l1 x22_2).f4))) ?_; intro w65 hw; have n0_ : Aside0 (Kd.R (Kd.int .i64) 3 w65 w.heap.size (fun _ => True) v365 x5_2) := ⟨(by rw [hw]; exact (by (with_reducible repeat (first | apply Kd.R_alloc | apply Kd.R_drewN | apply Kd.R_drew)); exact Kd.R_mono (Kd.R_far (p := ⟨gb369, 5, none⟩) (Kd.R_far (p := ⟨gb369, 4, none⟩) (Kd.R_far (p := ⟨gb369, 3, none⟩) (Kd.R_far (p := ⟨gb369, 2, none⟩) (Kd.R_far (p := ⟨gb369, 1, none⟩) (Kd.R_far (p := ⟨gb369, 0, none⟩) (Kd.R_types HO_5.out BK369.out (by decide)) (fun _ hk => hk.2) (.int .i64 ((rd_T61 l1 x22_2).f0))) (fun _ hk => hk.2) (.int .i64 ((rd_T61 l1 x22_2).f1))) (fun _ hk => hk.2) (.int .i64 ((rd_T61 l1 x22_2).f2.f0))) (fun _ hk => hk.2) (.string ((rd_T61 l1 x22_2).f2.f1))) (fun _ hk => hk.2) (.int .i64 ((rd_T61 l1 x22_2).f3))) (fun _ hk => hk.2) (.int .i64 ((rd_T61 l1 x22_2).f4))) (fun _ hk => trivial)))⟩; have n1_ : Aside0 (w65.heap[gb369]? = some (.cells #[.int .i64 ((rd_T61 l1 x22_2).f0), .int .i64 ((rd_T61 l1 x22_2).f1), .int .i64 ((rd_T61 l1 x22_2).f2.f0), .string ((rd_T61 l1 x22_2).f2.f1), .int .i64 ((rd_T61 l1 x22_2).f3), .int .i64 ((rd_T61 l1 x22_2).f4)] 61 (0, 0))) := ⟨(by rw [hw]; exact (blk_later BK369.out))⟩; have n2_ : Aside0 (Below w.heap.size w w65) := ⟨(by rw [hw]; exact (below_later HB.out))⟩; clear hw; clear HO_5; clear BK369; clear HB; have HO_5 := n0_; have BK369 := n1_; have HB := n2_; clear n0_ n1_ n2_; have p18 : 0 ≤ (x22_2 : Int) := dcd; have q18 : (x22_2 : Int) < ((x5_2.length : Int) : Int) := dcd; obtain ⟨go18, co18, eo18, gb18, gl18, cl18, HG18⟩ := Kd.R_form HO_5.out (by omega); (first | cases eo18 | (injection eo18 with ea_ en_ ec_; (first | subst ea_ | (injection ea_ with ea_; subst ea_)); subst ec_; clear en_)); have GB18 := Aside0.mk gb18; have GG18 := Aside0.mk HG18; clear gb18 gl18 HG18; obtain ⟨hx18_0, hf18_0⟩ := Kd.R_celln 0 HO_5.out (x22_2 : Int) p18 q18; replace p18 := eq_true p18; replace q18 := eq_true q18; obtain ⟨hy66_, hz66_⟩ := Kd.R_celln 0 HO_5.out (x22_2 : Int) (dcd) (dcd); have HP66 := Kd.R_putg HO_5.out (x22_2 : Int) x22_2) | ((with_reducible refine gate_store (t := 3) (p := 30) rfl ?_); (try (rw [drewN_self w65]; generalize hq_ : World.drewN w65 _ = w65; have n0_ := Aside0.mk (Kd.R_at hq_ HO_5.out); have n1_ := Aside0.mk (blk_at hq_ BK369.out); have n2_ := Aside0.mk (below_at hq_ HB.out); clear hq_ HO_5 BK369 HB; have HO_5 := n0_; have BK369 := n1_; have HB := n2_; clear n0_ n1_ n2_; (try (obtain ⟨hy66_, hz66_⟩ := Kd.R_celln 0 HO_5.out (x22_2 : Int) (dcd) (dcd))); (try (have HP66 := Kd.R_putg HO_5.out (x22_2 : Int) x22_2)))); refine st_ 3 30 (w65.setCell ⟨go18, (x22_2 : Int).toNat, none⟩ (.int .i64 x22_2)) ?_; intro w67 hw; have hg : w65.grownBy w67 (some go18) := (by rw [hw]; exact HP66.2); have hp_ : Kd.R (Kd.int .i64) 3 w67 w.heap.size (fun _ => True) (.slice (some ⟨go18, 0, none⟩) x5_2.length co18) y370 := (by rw [hw, Ny370.out]; exact HP66.1); clear HP66; replace BK369 := Aside0.mk (blk_grown (blk_later BK369.out) hg (Kd.R_ne HO_5.out BK369.out (by decide))); replace HO_5 := Aside0.mk (hp_); replace HB := Aside0.mk ((by rw [hw]; exact below_set (HB.out) GB18.out : Below w.heap.size w w67)); clear hg hw hp_; obtain ⟨hcz68_0, hcz68_1, hcz68_2, hcz68_3, hcz68_4, hcz68_5, hfz68_0, hfz68_1, hfz68_2, hfz68_3, hfz68_4, hfz68_5⟩ := cl6 BK369) | (go_at_call 42; (with_reducible refine (impl_within.calls ((rd_T61 l1 x22_2).f0) 1 4 false _ A19.out).mono ?_); rintro e w' ⟨rfl, ⟨nd, rfl⟩⟩; (try first | exact ⟨rfl, _, World.drewN_drewN _ _ _⟩ | exact ⟨rfl, _, Eq.trans (World.drewN_drewN _ _ _) (congrArg (World.drewN _) (Nat.add_assoc _ _ _))⟩)) | (go_at_call 44; (with_reducible refine (impl_isPair.calls ((rd_T61 l1 x22_2).f0) false _ A37.out).mono ?_); rintro e w' ⟨rfl, ⟨nd, rfl⟩⟩; (try first | exact ⟨rfl, _, World.drewN_drewN _ _ _⟩ | exact ⟨rfl, _, Eq.trans (World.drewN_drewN _ _ _) (congrArg (World.drewN _) (Nat.add_assoc _ _ _))⟩))))
                go_ret
                exact fin_ (below_later HB.out)
               ·
                rw [if_neg c62] at H
                have c62b0 : (x22_2 == 0) = false := beq_eq_false_iff_ne.mpr c62
                have c62b1 : (x22_2 != 0) = true := bne_iff_ne.mpr c62
                by_cases c69 : (!(((rd_T61 l1 x22_2).f0) == 7) || (!(((rd_T61 l1 x22_2).f1) == 0) || ((!(((rd_T61 l1 x22_2).f2.f0) == 0) || (!((((rd_T61 l1 x22_2).f2.f1).toList) == ([] : List UInt8)))) || (!(((rd_T61 l1 x22_2).f3) == (wrap64 (x22_2 - 1))) || (!(((rd_T61 l1 x22_2).f4) == 0)))))) = true
                ·
                 rw [if_pos c69] at H
                 have c69b0 : (!(((rd_T61 l1 x22_2).f0) == 7) || (!(((rd_T61 l1 x22_2).f1) == 0) || ((!(((rd_T61 l1 x22_2).f2.f0) == 0) || (!((((rd_T61 l1 x22_2).f2.f1).toList) == ([] : List UInt8)))) || (!(((rd_T61 l1 x22_2).f3) == (wrap64 (x22_2 - 1))) || (!(((rd_T61 l1 x22_2).f4) == 0)))))) = true := c69
                 have c69b2 : (!(((rd_T61 l1 x22_2).f1) == 0) || ((!(((rd_T61 l1 x22_2).f2.f0) == 0) || (!((((rd_T61 l1 x22_2).f2.f1).toList).isEmpty))) || (!(((rd_T61 l1 x22_2).f3) == (wrap64 (x22_2 - 1))) || (!(((rd_T61 l1 x22_2).f4) == 0))))) = true := by have e_ : (((rd_T61 l1 x22_2).f0) == 7) = true := (by assumption); have n_ : ((((rd_T61 l1 x22_2).f2.f1).toList) == ([] : List UInt8)) = (((rd_T61 l1 x22_2).f2.f1).toList).isEmpty := (by generalize (((rd_T61 l1 x22_2).f2.f1).toList) = l_; cases l_ <;> rfl); have h_ := c69b0; rw [e_, n_, Bool.not_true, Bool.false_or] at h_; exact h_
                 clear c69
                 obtain rfl := Option.some.inj H
                 have p368 : 0 ≤ (x22_2 : Int) := dcd
                 have q368 : x22_2 < (l1.length : Int) := dcd
                 obtain ⟨ad368, e368, hx368_0, hx368_1, hx368_2, hx368_3, hx368_4, hx368_5⟩ := at_T61 HR1.out x22_2 p368 q368
                 cases e368
                 replace hx368_0 := crd HB hx368_0
                 replace hx368_1 := crd HB hx368_1
                 replace hx368_2 := crd HB hx368_2
                 replace hx368_3 := crd HB hx368_3
                 replace hx368_4 := crd HB hx368_4
                 replace hx368_5 := crd HB hx368_5
                 replace p368 := eq_true p368
                 replace q368 := eq_true q368
                 go_wp2_with (first | ((with_reducible refine gate_dst (N := 7) rfl ?_); (try (refine gate_guard (by rfl) ?_; dsimp only)); refine bx_ 7 #[.int .i64 0, .int .i64 0, .int .i64 0, .string (⟨#[]⟩ : ByteArray), .int .i64 0, .int .i64 0] 61 ?_; intro gb369 hg w70 hbox hb; have BK369 := Aside0.mk (hbox); have GW369 := gwe HB hg; have GE369 := GW369; replace HO_5 := Aside0.mk (Kd.R_below (R_later HO_5.out) hb); replace HB := bst HB hb; clear hb hbox hg; obtain ⟨hcz71_0, hcz71_1, hcz71_2, hcz71_3, hcz71_4, hcz71_5, hfz71_0, hfz71_1, hfz71_2, hfz71_3, hfz71_4, hfz71_5⟩ := cl6 BK369) | ((with_reducible refine gate_store (t := 61) (p := 7) rfl ?_); (try (rw [drewN_self w70]; generalize hq_ : World.drewN w70 _ = w70; have n0_ := Aside0.mk (Kd.R_at hq_ HO_5.out); have n1_ := Aside0.mk (blk_at hq_ BK369.out); have n2_ := Aside0.mk (below_at hq_ HB.out); clear hq_ HO_5 BK369 HB; have HO_5 := n0_; have BK369 := n1_; have HB := n2_; clear n0_ n1_ n2_)); refine st_ 61 7 ((((((w70.setCell ⟨gb369, 0, none⟩ (.int .i64 ((rd_T61 l1 x22_2).f0))).setCell ⟨gb369, 1, none⟩ (.int .i64 ((rd_T61 l1 x22_2).f1))).setCell ⟨gb369, 2, none⟩ (.int .i64 ((rd_T61 l1 x22_2).f2.f0))).setCell ⟨gb369, 3, none⟩ (.string ((rd_T61 l1 x22_2).f2.f1))).setCell ⟨gb369, 4, none⟩ (.int .i64 ((rd_T61 l1 x22_2).f3))).setCell ⟨gb369, 5, none⟩ (.int .i64 ((rd_T61 l1 x22_2).f4))) ?_; intro w72 hw; have n0_ : Aside0 (Kd.R (Kd.int .i64) 3 w72 w.heap.size (fun _ => True) v365 x5_2) := ⟨(by rw [hw]; exact (by (with_reducible repeat (first | apply Kd.R_alloc | apply Kd.R_drewN | apply Kd.R_drew)); exact Kd.R_mono (Kd.R_far (p := ⟨gb369, 5, none⟩) (Kd.R_far (p := ⟨gb369, 4, none⟩) (Kd.R_far (p := ⟨gb369, 3, none⟩) (Kd.R_far (p := ⟨gb369, 2, none⟩) (Kd.R_far (p := ⟨gb369, 1, none⟩) (Kd.R_far (p := ⟨gb369, 0, none⟩) (Kd.R_types HO_5.out BK369.out (by decide)) (fun _ hk => hk.2) (.int .i64 ((rd_T61 l1 x22_2).f0))) (fun _ hk => hk.2) (.int .i64 ((rd_T61 l1 x22_2).f1))) (fun _ hk => hk.2) (.int .i64 ((rd_T61 l1 x22_2).f2.f0))) (fun _ hk => hk.2) (.string ((rd_T61 l1 x22_2).f2.f1))) (fun _ hk => hk.2) (.int .i64 ((rd_T61 l1 x22_2).f3))) (fun _ hk => hk.2) (.int .i64 ((rd_T61 l1 x22_2).f4))) (fun _ hk => trivial)))⟩; have n1_ : Aside0 (w72.heap[gb369]? = some (.cells #[.int .i64 ((rd_T61 l1 x22_2).f0), .int .i64 ((rd_T61 l1 x22_2).f1), .int .i64 ((rd_T61 l1 x22_2).f2.f0), .string ((rd_T61 l1 x22_2).f2.f1), .int .i64 ((rd_T61 l1 x22_2).f3), .int .i64 ((rd_T61 l1 x22_2).f4)] 61 (0, 0))) := ⟨(by rw [hw]; exact (blk_later BK369.out))⟩; have n2_ : Aside0 (Below w.heap.size w w72) := ⟨(by rw [hw]; exact (below_later HB.out))⟩; clear hw; clear HO_5; clear BK369; clear HB; have HO_5 := n0_; have BK369 := n1_; have HB := n2_; clear n0_ n1_ n2_; have p18 : 0 ≤ (x22_2 : Int) := dcd; have q18 : (x22_2 : Int) < ((x5_2.length : Int) : Int) := dcd; obtain ⟨go18, co18, eo18, gb18, gl18, cl18, HG18⟩ := Kd.R_form HO_5.out (by omega); (first | cases eo18 | (injection eo18 with ea_ en_ ec_; (first | subst ea_ | (injection ea_ with ea_; subst ea_)); subst ec_; clear en_)); have GB18 := Aside0.mk gb18; have GG18 := Aside0.mk HG18; clear gb18 gl18 HG18; obtain ⟨hx18_0, hf18_0⟩ := Kd.R_celln 0 HO_5.out (x22_2 : Int) p18 q18; replace p18 := eq_true p18; replace q18 := eq_true q18; obtain ⟨hy73_, hz73_⟩ := Kd.R_celln 0 HO_5.out (x22_2 : Int) (dcd) (dcd); have HP73 := Kd.R_putg HO_5.out (x22_2 : Int) x22_2) | ((with_reducible refine gate_store (t := 3) (p := 30) rfl ?_); (try (rw [drewN_self w72]; generalize hq_ : World.drewN w72 _ = w72; have n0_ := Aside0.mk (Kd.R_at hq_ HO_5.out); have n1_ := Aside0.mk (blk_at hq_ BK369.out); have n2_ := Aside0.mk (below_at hq_ HB.out); clear hq_ HO_5 BK369 HB; have HO_5 := n0_; have BK369 := n1_; have HB := n2_; clear n0_ n1_ n2_; (try (obtain ⟨hy73_, hz73_⟩ := Kd.R_celln 0 HO_5.out (x22_2 : Int) (dcd) (dcd))); (try (have HP73 := Kd.R_putg HO_5.out (x22_2 : Int) x22_2)))); refine st_ 3 30 (w72.setCell ⟨go18, (x22_2 : Int).toNat, none⟩ (.int .i64 x22_2)) ?_; intro w74 hw; have hg : w72.grownBy w74 (some go18) := (by rw [hw]; exact HP73.2); have hp_ : Kd.R (Kd.int .i64) 3 w74 w.heap.size (fun _ => True) (.slice (some ⟨go18, 0, none⟩) x5_2.length co18) y370 := (by rw [hw, Ny370.out]; exact HP73.1); clear HP73; replace BK369 := Aside0.mk (blk_grown (blk_later BK369.out) hg (Kd.R_ne HO_5.out BK369.out (by decide))); replace HO_5 := Aside0.mk (hp_); replace HB := Aside0.mk ((by rw [hw]; exact below_set (HB.out) GB18.out : Below w.heap.size w w74)); clear hg hw hp_; obtain ⟨hcz75_0, hcz75_1, hcz75_2, hcz75_3, hcz75_4, hcz75_5, hfz75_0, hfz75_1, hfz75_2, hfz75_3, hfz75_4, hfz75_5⟩ := cl6 BK369) | (go_at_call 42; (with_reducible refine (impl_within.calls ((rd_T61 l1 x22_2).f0) 1 4 false _ A19.out).mono ?_); rintro e w' ⟨rfl, ⟨nd, rfl⟩⟩; (try first | exact ⟨rfl, _, World.drewN_drewN _ _ _⟩ | exact ⟨rfl, _, Eq.trans (World.drewN_drewN _ _ _) (congrArg (World.drewN _) (Nat.add_assoc _ _ _))⟩)) | (go_at_call 44; (with_reducible refine (impl_isPair.calls ((rd_T61 l1 x22_2).f0) false _ A37.out).mono ?_); rintro e w' ⟨rfl, ⟨nd, rfl⟩⟩; (try first | exact ⟨rfl, _, World.drewN_drewN _ _ _⟩ | exact ⟨rfl, _, Eq.trans (World.drewN_drewN _ _ _) (congrArg (World.drewN _) (Nat.add_assoc _ _ _))⟩)))
                 repeat (go_quiet (first | (go_at_call 42; (with_reducible refine (impl_within.calls ((rd_T61 l1 x22_2).f0) 1 4 false _ A19.out).mono ?_); rintro e w' ⟨rfl, ⟨nd, rfl⟩⟩; (try first | exact ⟨rfl, _, World.drewN_drewN _ _ _⟩ | exact ⟨rfl, _, Eq.trans (World.drewN_drewN _ _ _) (congrArg (World.drewN _) (Nat.add_assoc _ _ _))⟩)) | (go_at_call 44; (with_reducible refine (impl_isPair.calls ((rd_T61 l1 x22_2).f0) false _ A37.out).mono ?_); rintro e w' ⟨rfl, ⟨nd, rfl⟩⟩; (try first | exact ⟨rfl, _, World.drewN_drewN _ _ _⟩ | exact ⟨rfl, _, Eq.trans (World.drewN_drewN _ _ _) (congrArg (World.drewN _) (Nat.add_assoc _ _ _))⟩))); try go_wp2_with (first | ((with_reducible refine gate_dst (N := 7) rfl ?_); (try (refine gate_guard (by rfl) ?_; dsimp only)); refine bx_ 7 #[.int .i64 0, .int .i64 0, .int .i64 0, .string (⟨#[]⟩ : ByteArray), .int .i64 0, .int .i64 0] 61 ?_; intro gb369 hg w70 hbox hb; have BK369 := Aside0.mk (hbox); have GW369 := gwe HB hg; have GE369 := GW369; replace HO_5 := Aside0.mk (Kd.R_below (R_later HO_5.out) hb); replace HB := bst HB hb; clear hb hbox hg; obtain ⟨hcz71_0, hcz71_1, hcz71_2, hcz71_3, hcz71_4, hcz71_5, hfz71_0, hfz71_1, hfz71_2, hfz71_3, hfz71_4, hfz71_5⟩ := cl6 BK369) | ((with_reducible refine gate_store (t := 61) (p := 7) rfl ?_); (try (rw [drewN_self w70]; generalize hq_ : World.drewN w70 _ = w70; have n0_ := Aside0.mk (Kd.R_at hq_ HO_5.out); have n1_ := Aside0.mk (blk_at hq_ BK369.out); have n2_ := Aside0.mk (below_at hq_ HB.out); clear hq_ HO_5 BK369 HB; have HO_5 := n0_; have BK369 := n1_; have HB := n2_; clear n0_ n1_ n2_)); refine st_ 61 7 ((((((w70.setCell ⟨gb369, 0, none⟩ (.int .i64 ((rd_T61 l1 x22_2).f0))).setCell ⟨gb369, 1, none⟩ (.int .i64 ((rd_T61 l1 x22_2).f1))).setCell ⟨gb369, 2, none⟩ (.int .i64 ((rd_T61 l1 x22_2).f2.f0))).setCell ⟨gb369, 3, none⟩ (.string ((rd_T61 l1 x22_2).f2.f1))).setCell ⟨gb369, 4, none⟩ (.int .i64 ((rd_T61 l1 x22_2).f3))).setCell ⟨gb369, 5, none⟩ (.int .i64 ((rd_T61 l1 x22_2).f4))) ?_; intro w72 hw; have n0_ : Aside0 (Kd.R (Kd.int .i64) 3 w72 w.heap.size (fun _ => True) v365 x5_2) := ⟨(by rw [hw]; exact (by (with_reducible repeat (first | apply Kd.R_alloc | apply Kd.R_drewN | apply Kd.R_drew)); exact Kd.R_mono (Kd.R_far (p := ⟨gb369, 5, none⟩) (Kd.R_far (p := ⟨gb369, 4, none⟩) (Kd.R_far (p := ⟨gb369, 3, none⟩) (Kd.R_far (p := ⟨gb369, 2, none⟩) (Kd.R_far (p := ⟨gb369, 1, none⟩) (Kd.R_far (p := ⟨gb369, 0, none⟩) (Kd.R_types HO_5.out BK369.out (by decide)) (fun _ hk => hk.2) (.int .i64 ((rd_T61 l1 x22_2).f0))) (fun _ hk => hk.2) (.int .i64 ((rd_T61 l1 x22_2).f1))) (fun _ hk => hk.2) (.int .i64 ((rd_T61 l1 x22_2).f2.f0))) (fun _ hk => hk.2) (.string ((rd_T61 l1 x22_2).f2.f1))) (fun _ hk => hk.2) (.int .i64 ((rd_T61 l1 x22_2).f3))) (fun _ hk => hk.2) (.int .i64 ((rd_T61 l1 x22_2).f4))) (fun _ hk => trivial)))⟩; have n1_ : Aside0 (w72.heap[gb369]? = some (.cells #[.int .i64 ((rd_T61 l1 x22_2).f0), .int .i64 ((rd_T61 l1 x22_2).f1), .int .i64 ((rd_T61 l1 x22_2).f2.f0), .string ((rd_T61 l1 x22_2).f2.f1), .int .i64 ((rd_T61 l1 x22_2).f3), .int .i64 ((rd_T61 l1 x22_2).f4)] 61 (0, 0))) := ⟨(by rw [hw]; exact (blk_later BK369.out))⟩; have n2_ : Aside0 (Below w.heap.size w w72) := ⟨(by rw [hw]; exact (below_later HB.out))⟩; clear hw; clear HO_5; clear BK369; clear HB; have HO_5 := n0_; have BK369 := n1_; have HB := n2_; clear n0_ n1_ n2_; have p18 : 0 ≤ (x22_2 : Int) := dcd; have q18 : (x22_2 : Int) < ((x5_2.length : Int) : Int) := dcd; obtain ⟨go18, co18, eo18, gb18, gl18, cl18, HG18⟩ := Kd.R_form HO_5.out (by omega); (first | cases eo18 | (injection eo18 with ea_ en_ ec_; (first | subst ea_ | (injection ea_ with ea_; subst ea_)); subst ec_; clear en_)); have GB18 := Aside0.mk gb18; have GG18 := Aside0.mk HG18; clear gb18 gl18 HG18; obtain ⟨hx18_0, hf18_0⟩ := Kd.R_celln 0 HO_5.out (x22_2 : Int) p18 q18; replace p18 := eq_true p18; replace q18 := eq_true q18; obtain ⟨hy73_, hz73_⟩ := Kd.R_celln 0 HO_5.out (x22_2 : Int) (dcd) (dcd); have HP73 := Kd.R_putg HO_5.out (x22_2 : Int) x22_2) | ((with_reducible refine gate_store (t := 3) (p := 30) rfl ?_); (try (rw [drewN_self w72]; generalize hq_ : World.drewN w72 _ = w72; have n0_ := Aside0.mk (Kd.R_at hq_ HO_5.out); have n1_ := Aside0.mk (blk_at hq_ BK369.out); have n2_ := Aside0.mk (below_at hq_ HB.out); clear hq_ HO_5 BK369 HB; have HO_5 := n0_; have BK369 := n1_; have HB := n2_; clear n0_ n1_ n2_; (try (obtain ⟨hy73_, hz73_⟩ := Kd.R_celln 0 HO_5.out (x22_2 : Int) (dcd) (dcd))); (try (have HP73 := Kd.R_putg HO_5.out (x22_2 : Int) x22_2)))); refine st_ 3 30 (w72.setCell ⟨go18, (x22_2 : Int).toNat, none⟩ (.int .i64 x22_2)) ?_; intro w74 hw; have hg : w72.grownBy w74 (some go18) := (by rw [hw]; exact HP73.2); have hp_ : Kd.R (Kd.int .i64) 3 w74 w.heap.size (fun _ => True) (.slice (some ⟨go18, 0, none⟩) x5_2.length co18) y370 := (by rw [hw, Ny370.out]; exact HP73.1); clear HP73; replace BK369 := Aside0.mk (blk_grown (blk_later BK369.out) hg (Kd.R_ne HO_5.out BK369.out (by decide))); replace HO_5 := Aside0.mk (hp_); replace HB := Aside0.mk ((by rw [hw]; exact below_set (HB.out) GB18.out : Below w.heap.size w w74)); clear hg hw hp_; obtain ⟨hcz75_0, hcz75_1, hcz75_2, hcz75_3, hcz75_4, hcz75_5, hfz75_0, hfz75_1, hfz75_2, hfz75_3, hfz75_4, hfz75_5⟩ := cl6 BK369) | (go_at_call 42; (with_reducible refine (impl_within.calls ((rd_T61 l1 x22_2).f0) 1 4 false _ A19.out).mono ?_); rintro e w' ⟨rfl, ⟨nd, rfl⟩⟩; (try first | exact ⟨rfl, _, World.drewN_drewN _ _ _⟩ | exact ⟨rfl, _, Eq.trans (World.drewN_drewN _ _ _) (congrArg (World.drewN _) (Nat.add_assoc _ _ _))⟩)) | (go_at_call 44; (with_reducible refine (impl_isPair.calls ((rd_T61 l1 x22_2).f0) false _ A37.out).mono ?_); rintro e w' ⟨rfl, ⟨nd, rfl⟩⟩; (try first | exact ⟨rfl, _, World.drewN_drewN _ _ _⟩ | exact ⟨rfl, _, Eq.trans (World.drewN_drewN _ _ _) (congrArg (World.drewN _) (Nat.add_assoc _ _ _))⟩))))
                 go_ret
                 exact fin_ (below_later HB.out)
                ·
                 rw [if_neg c69] at H
                 have c69b0 : (!(((rd_T61 l1 x22_2).f0) == 7) || (!(((rd_T61 l1 x22_2).f1) == 0) || ((!(((rd_T61 l1 x22_2).f2.f0) == 0) || (!((((rd_T61 l1 x22_2).f2.f1).toList) == ([] : List UInt8)))) || (!(((rd_T61 l1 x22_2).f3) == (wrap64 (x22_2 - 1))) || (!(((rd_T61 l1 x22_2).f4) == 0)))))) = false := by simpa using c69
                 have c69b2 : (!(((rd_T61 l1 x22_2).f1) == 0) || ((!(((rd_T61 l1 x22_2).f2.f0) == 0) || (!((((rd_T61 l1 x22_2).f2.f1).toList).isEmpty))) || (!(((rd_T61 l1 x22_2).f3) == (wrap64 (x22_2 - 1))) || (!(((rd_T61 l1 x22_2).f4) == 0))))) = false := by have e_ : (((rd_T61 l1 x22_2).f0) == 7) = true := (by assumption); have n_ : ((((rd_T61 l1 x22_2).f2.f1).toList) == ([] : List UInt8)) = (((rd_T61 l1 x22_2).f2.f1).toList).isEmpty := (by generalize (((rd_T61 l1 x22_2).f2.f1).toList) = l_; cases l_ <;> rfl); have h_ := c69b0; rw [e_, n_, Bool.not_true, Bool.false_or] at h_; exact h_
                 clear c69
                 by_cases c76 : 0 ≤ ((rd_T61 l1 x22_2).f3)
                 ·
                  rw [if_pos c76] at H
                  have c76b0 := decide_eq_true c76
                  clear c76
                  by_cases c77 : ((rd_T61 l1 x22_2).f3) < (x5_2.length : Int)
                  ·
                   rw [if_pos c77] at H
                   have c77b0 := decide_eq_true c77
                   clear c77
                   obtain ⟨y379, hy379⟩ : ∃ y_ : List Int, y_ = (y370.set (x22_2 : Int).toNat (rd y370 ((rd_T61 l1 x22_2).f3))) := ⟨_, rfl⟩
                   replace H : (impl_PredOk.l0 k2 l0 l1 y379 l1 (l1.length : Int) (wrap64 (x22_2 + 1))) = some r := by first | (rw [hy379]; with_reducible exact H) | (rw [hy379]; exact H) | exact H
                   have Ny379 := Aside0.mk hy379
                   clear hy379
                   have H' := Aside0.mk H
                   clear H
                   have p368 : 0 ≤ (x22_2 : Int) := dcd
                   have q368 : x22_2 < (l1.length : Int) := dcd
                   obtain ⟨ad368, e368, hx368_0, hx368_1, hx368_2, hx368_3, hx368_4, hx368_5⟩ := at_T61 HR1.out x22_2 p368 q368
                   cases e368
                   replace hx368_0 := crd HB hx368_0
                   replace hx368_1 := crd HB hx368_1
                   replace hx368_2 := crd HB hx368_2
                   replace hx368_3 := crd HB hx368_3
                   replace hx368_4 := crd HB hx368_4
                   replace hx368_5 := crd HB hx368_5
                   replace p368 := eq_true p368
                   replace q368 := eq_true q368
                   go_wp2_with (first | ((with_reducible refine gate_dst (N := 7) rfl ?_); (try (refine gate_guard (by rfl) ?_; dsimp only)); refine bx_ 7 #[.int .i64 0, .int .i64 0, .int .i64 0, .string (⟨#[]⟩ : ByteArray), .int .i64 0, .int .i64 0] 61 ?_; intro gb369 hg w79 hbox hb; have BK369 := Aside0.mk (hbox); have GW369 := gwe HB hg; have GE369 := GW369; replace HO_5 := Aside0.mk (Kd.R_below (R_later HO_5.out) hb); replace HB := bst HB hb; clear hb hbox hg; obtain ⟨hcz80_0, hcz80_1, hcz80_2, hcz80_3, hcz80_4, hcz80_5, hfz80_0, hfz80_1, hfz80_2, hfz80_3, hfz80_4, hfz80_5⟩ := cl6 BK369) | ((with_reducible refine gate_store (t := 61) (p := 7) rfl ?_); (try (rw [drewN_self w79]; generalize hq_ : World.drewN w79 _ = w79; have n0_ := Aside0.mk (Kd.R_at hq_ HO_5.out); have n1_ := Aside0.mk (blk_at hq_ BK369.out); have n2_ := Aside0.mk (below_at hq_ HB.out); clear hq_ HO_5 BK369 HB; have HO_5 := n0_; have BK369 := n1_; have HB := n2_; clear n0_ n1_ n2_)); refine st_ 61 7 ((((((w79.setCell ⟨gb369, 0, none⟩ (.int .i64 ((rd_T61 l1 x22_2).f0))).setCell ⟨gb369, 1, none⟩ (.int .i64 ((rd_T61 l1 x22_2).f1))).setCell ⟨gb369, 2, none⟩ (.int .i64 ((rd_T61 l1 x22_2).f2.f0))).setCell ⟨gb369, 3, none⟩ (.string ((rd_T61 l1 x22_2).f2.f1))).setCell ⟨gb369, 4, none⟩ (.int .i64 ((rd_T61 l1 x22_2).f3))).setCell ⟨gb369, 5, none⟩ (.int .i64 ((rd_T61 l1 x22_2).f4))) ?_; intro w81 hw; have n0_ : Aside0 (Kd.R (Kd.int .i64) 3 w81 w.heap.size (fun _ => True) v365 x5_2) := ⟨(by rw [hw]; exact (by (with_reducible repeat (first | apply Kd.R_alloc | apply Kd.R_drewN | apply Kd.R_drew)); exact Kd.R_mono (Kd.R_far (p := ⟨gb369, 5, none⟩) (Kd.R_far (p := ⟨gb369, 4, none⟩) (Kd.R_far (p := ⟨gb369, 3, none⟩) (Kd.R_far (p := ⟨gb369, 2, none⟩) (Kd.R_far (p := ⟨gb369, 1, none⟩) (Kd.R_far (p := ⟨gb369, 0, none⟩) (Kd.R_types HO_5.out BK369.out (by decide)) (fun _ hk => hk.2) (.int .i64 ((rd_T61 l1 x22_2).f0))) (fun _ hk => hk.2) (.int .i64 ((rd_T61 l1 x22_2).f1))) (fun _ hk => hk.2) (.int .i64 ((rd_T61 l1 x22_2).f2.f0))) (fun _ hk => hk.2) (.string ((rd_T61 l1 x22_2).f2.f1))) (fun _ hk => hk.2) (.int .i64 ((rd_T61 l1 x22_2).f3))) (fun _ hk => hk.2) (.int .i64 ((rd_T61 l1 x22_2).f4))) (fun _ hk => trivial)))⟩; have n1_ : Aside0 (w81.heap[gb369]? = some (.cells #[.int .i64 ((rd_T61 l1 x22_2).f0), .int .i64 ((rd_T61 l1 x22_2).f1), .int .i64 ((rd_T61 l1 x22_2).f2.f0), .string ((rd_T61 l1 x22_2).f2.f1), .int .i64 ((rd_T61 l1 x22_2).f3), .int .i64 ((rd_T61 l1 x22_2).f4)] 61 (0, 0))) := ⟨(by rw [hw]; exact (blk_later BK369.out))⟩; have n2_ : Aside0 (Below w.heap.size w w81) := ⟨(by rw [hw]; exact (below_later HB.out))⟩; clear hw; clear HO_5; clear BK369; clear HB; have HO_5 := n0_; have BK369 := n1_; have HB := n2_; clear n0_ n1_ n2_; have p18 : 0 ≤ (x22_2 : Int) := dcd; have q18 : (x22_2 : Int) < ((x5_2.length : Int) : Int) := dcd; obtain ⟨go18, co18, eo18, gb18, gl18, cl18, HG18⟩ := Kd.R_form HO_5.out (by omega); (first | cases eo18 | (injection eo18 with ea_ en_ ec_; (first | subst ea_ | (injection ea_ with ea_; subst ea_)); subst ec_; clear en_)); have GB18 := Aside0.mk gb18; have GG18 := Aside0.mk HG18; clear gb18 gl18 HG18; obtain ⟨hx18_0, hf18_0⟩ := Kd.R_celln 0 HO_5.out (x22_2 : Int) p18 q18; replace p18 := eq_true p18; replace q18 := eq_true q18; obtain ⟨hy82_, hz82_⟩ := Kd.R_celln 0 HO_5.out (x22_2 : Int) (dcd) (dcd); have HP82 := Kd.R_putg HO_5.out (x22_2 : Int) x22_2) | ((with_reducible refine gate_store (t := 3) (p := 30) rfl ?_); (try (rw [drewN_self w81]; generalize hq_ : World.drewN w81 _ = w81; have n0_ := Aside0.mk (Kd.R_at hq_ HO_5.out); have n1_ := Aside0.mk (blk_at hq_ BK369.out); have n2_ := Aside0.mk (below_at hq_ HB.out); clear hq_ HO_5 BK369 HB; have HO_5 := n0_; have BK369 := n1_; have HB := n2_; clear n0_ n1_ n2_; (try (obtain ⟨hy82_, hz82_⟩ := Kd.R_celln 0 HO_5.out (x22_2 : Int) (dcd) (dcd))); (try (have HP82 := Kd.R_putg HO_5.out (x22_2 : Int) x22_2)))); refine st_ 3 30 (w81.setCell ⟨go18, (x22_2 : Int).toNat, none⟩ (.int .i64 x22_2)) ?_; intro w83 hw; have hg : w81.grownBy w83 (some go18) := (by rw [hw]; exact HP82.2); have hp_ : Kd.R (Kd.int .i64) 3 w83 w.heap.size (fun _ => True) (.slice (some ⟨go18, 0, none⟩) x5_2.length co18) y370 := (by rw [hw, Ny370.out]; exact HP82.1); clear HP82; replace BK369 := Aside0.mk (blk_grown (blk_later BK369.out) hg (Kd.R_ne HO_5.out BK369.out (by decide))); replace HO_5 := Aside0.mk (hp_); replace HB := Aside0.mk ((by rw [hw]; exact below_set (HB.out) GB18.out : Below w.heap.size w w83)); clear hg hw hp_; obtain ⟨hcz84_0, hcz84_1, hcz84_2, hcz84_3, hcz84_4, hcz84_5, hfz84_0, hfz84_1, hfz84_2, hfz84_3, hfz84_4, hfz84_5⟩ := cl6 BK369) | (go_at_call 42; (with_reducible refine (impl_within.calls ((rd_T61 l1 x22_2).f0) 1 4 false _ A19.out).mono ?_); rintro e w' ⟨rfl, ⟨nd, rfl⟩⟩; (try first | exact ⟨rfl, _, World.drewN_drewN _ _ _⟩ | exact ⟨rfl, _, Eq.trans (World.drewN_drewN _ _ _) (congrArg (World.drewN _) (Nat.add_assoc _ _ _))⟩)) | (go_at_call 44; (with_reducible refine (impl_isPair.calls ((rd_T61 l1 x22_2).f0) false _ A37.out).mono ?_); rintro e w' ⟨rfl, ⟨nd, rfl⟩⟩; (try first | exact ⟨rfl, _, World.drewN_drewN _ _ _⟩ | exact ⟨rfl, _, Eq.trans (World.drewN_drewN _ _ _) (congrArg (World.drewN _) (Nat.add_assoc _ _ _))⟩); have p378 : 0 ≤ (((rd_T61 l1 x22_2).f3) : Int) := dcd; have q378 : ((rd_T61 l1 x22_2).f3) < (y370.length : Int) := (by have h_ : (((rd_T61 l1 x22_2).f3) : Int) < ((x5_2.length : Int) : Int) := dcd; first | (have e_ := (Kd.R_reads' HO_5.out).1; omega) | simpa only [Ny370.out, List.length_set] using h_); have ql378 : ((((rd_T61 l1 x22_2).f3) : Int) < ((x5_2.length : Int) : Int)) = True := eq_true (dcd); obtain ⟨ad378, e378, hx378_0⟩ := Kd.at_int (Kd.R_reads' HO_5.out).2.2 ((rd_T61 l1 x22_2).f3) p378 q378; obtain rfl : (⟨go18, 0, none⟩ : Addr) = ad378 := (by injection e378); (first | simp only [add_plain] at hx378_0 | simp only [add_at] at hx378_0 | simp only [Addr.add, Nat.zero_add] at hx378_0 | skip); replace p378 := eq_true p378; replace q378 := eq_true q378; have p78 : 0 ≤ (x22_2 : Int) := dcd; have q78 : (x22_2 : Int) < ((x5_2.length : Int) : Int) := dcd; obtain ⟨hx78_0, hf78_0⟩ := Kd.R_celln 0 HO_5.out (x22_2 : Int) p78 q78; replace p78 := eq_true p78; replace q78 := eq_true q78; obtain ⟨hy85_, hz85_⟩ := Kd.R_celln 0 HO_5.out (x22_2 : Int) (dcd) (dcd); have HP85 := Kd.R_putg HO_5.out (x22_2 : Int) (rd y370 ((rd_T61 l1 x22_2).f3))) | ((with_reducible refine gate_store (t := 3) (p := 96) rfl ?_); (try (rw [drewN_self w83]; generalize hq_ : World.drewN w83 _ = w83; have n0_ := Aside0.mk (Kd.R_at hq_ HO_5.out); have n1_ := Aside0.mk (blk_at hq_ BK369.out); have n2_ := Aside0.mk (below_at hq_ HB.out); clear hq_ HO_5 BK369 HB; have HO_5 := n0_; have BK369 := n1_; have HB := n2_; clear n0_ n1_ n2_; (try (obtain ⟨hy85_, hz85_⟩ := Kd.R_celln 0 HO_5.out (x22_2 : Int) (dcd) (dcd))); (try (have HP85 := Kd.R_putg HO_5.out (x22_2 : Int) (rd y370 ((rd_T61 l1 x22_2).f3)))))); refine st_ 3 96 (w83.setCell ⟨go18, (x22_2 : Int).toNat, none⟩ (.int .i64 (rd y370 ((rd_T61 l1 x22_2).f3)))) ?_; intro w86 hw; have hg : w83.grownBy w86 (some go18) := (by rw [hw]; exact HP85.2); have hp_ : Kd.R (Kd.int .i64) 3 w86 w.heap.size (fun _ => True) (.slice (some ⟨go18, 0, none⟩) x5_2.length co18) y379 := (by rw [hw, Ny379.out]; exact HP85.1); clear HP85; replace BK369 := Aside0.mk (blk_grown (blk_later BK369.out) hg (Kd.R_ne HO_5.out BK369.out (by decide))); replace HO_5 := Aside0.mk (hp_); replace HB := Aside0.mk ((by rw [hw]; exact below_set (HB.out) GB18.out : Below w.heap.size w w86)); clear hg hw hp_))
                   repeat (go_quiet (first | (go_at_call 42; (with_reducible refine (impl_within.calls ((rd_T61 l1 x22_2).f0) 1 4 false _ A19.out).mono ?_); rintro e w' ⟨rfl, ⟨nd, rfl⟩⟩; (try first | exact ⟨rfl, _, World.drewN_drewN _ _ _⟩ | exact ⟨rfl, _, Eq.trans (World.drewN_drewN _ _ _) (congrArg (World.drewN _) (Nat.add_assoc _ _ _))⟩)) | (go_at_call 44; (with_reducible refine (impl_isPair.calls ((rd_T61 l1 x22_2).f0) false _ A37.out).mono ?_); rintro e w' ⟨rfl, ⟨nd, rfl⟩⟩; (try first | exact ⟨rfl, _, World.drewN_drewN _ _ _⟩ | exact ⟨rfl, _, Eq.trans (World.drewN_drewN _ _ _) (congrArg (World.drewN _) (Nat.add_assoc _ _ _))⟩); have p378 : 0 ≤ (((rd_T61 l1 x22_2).f3) : Int) := dcd; have q378 : ((rd_T61 l1 x22_2).f3) < (y370.length : Int) := (by have h_ : (((rd_T61 l1 x22_2).f3) : Int) < ((x5_2.length : Int) : Int) := dcd; first | (have e_ := (Kd.R_reads' HO_5.out).1; omega) | simpa only [Ny370.out, List.length_set] using h_); have ql378 : ((((rd_T61 l1 x22_2).f3) : Int) < ((x5_2.length : Int) : Int)) = True := eq_true (dcd); obtain ⟨ad378, e378, hx378_0⟩ := Kd.at_int (Kd.R_reads' HO_5.out).2.2 ((rd_T61 l1 x22_2).f3) p378 q378; obtain rfl : (⟨go18, 0, none⟩ : Addr) = ad378 := (by injection e378); (first | simp only [add_plain] at hx378_0 | simp only [add_at] at hx378_0 | simp only [Addr.add, Nat.zero_add] at hx378_0 | skip); replace p378 := eq_true p378; replace q378 := eq_true q378; have p78 : 0 ≤ (x22_2 : Int) := dcd; have q78 : (x22_2 : Int) < ((x5_2.length : Int) : Int) := dcd; obtain ⟨hx78_0, hf78_0⟩ := Kd.R_celln 0 HO_5.out (x22_2 : Int) p78 q78; replace p78 := eq_true p78; replace q78 := eq_true q78; obtain ⟨hy85_, hz85_⟩ := Kd.R_celln 0 HO_5.out (x22_2 : Int) (dcd) (dcd); have HP85 := Kd.R_putg HO_5.out (x22_2 : Int) (rd y370 ((rd_T61 l1 x22_2).f3)))); try go_wp2_with (first | ((with_reducible refine gate_dst (N := 7) rfl ?_); (try (refine gate_guard (by rfl) ?_; dsimp only)); refine bx_ 7 #[.int .i64 0, .int .i64 0, .int .i64 0, .string (⟨#[]⟩ : ByteArray), .int .i64 0, .int .i64 0] 61 ?_; intro gb369 hg w79 hbox hb; have BK369 := Aside0.mk (hbox); have GW369 := gwe HB hg; have GE369 := GW369; replace HO_5 := Aside0.mk (Kd.R_below (R_later HO_5.out) hb); replace HB := bst HB hb; clear hb hbox hg; obtain ⟨hcz80_0, hcz80_1, hcz80_2, hcz80_3, hcz80_4, hcz80_5, hfz80_0, hfz80_1, hfz80_2, hfz80_3, hfz80_4, hfz80_5⟩ := cl6 BK369) | ((with_reducible refine gate_store (t := 61) (p := 7) rfl ?_); (try (rw [drewN_self w79]; generalize hq_ : World.drewN w79 _ = w79; have n0_ := Aside0.mk (Kd.R_at hq_ HO_5.out); have n1_ := Aside0.mk (blk_at hq_ BK369.out); have n2_ := Aside0.mk (below_at hq_ HB.out); clear hq_ HO_5 BK369 HB; have HO_5 := n0_; have BK369 := n1_; have HB := n2_; clear n0_ n1_ n2_)); refine st_ 61 7 ((((((w79.setCell ⟨gb369, 0, none⟩ (.int .i64 ((rd_T61 l1 x22_2).f0))).setCell ⟨gb369, 1, none⟩ (.int .i64 ((rd_T61 l1 x22_2).f1))).setCell ⟨gb369, 2, none⟩ (.int .i64 ((rd_T61 l1 x22_2).f2.f0))).setCell ⟨gb369, 3, none⟩ (.string ((rd_T61 l1 x22_2).f2.f1))).setCell ⟨gb369, 4, none⟩ (.int .i64 ((rd_T61 l1 x22_2).f3))).setCell ⟨gb369, 5, none⟩ (.int .i64 ((rd_T61 l1 x22_2).f4))) ?_; intro w81 hw; have n0_ : Aside0 (Kd.R (Kd.int .i64) 3 w81 w.heap.size (fun _ => True) v365 x5_2) := ⟨(by rw [hw]; exact (by (with_reducible repeat (first | apply Kd.R_alloc | apply Kd.R_drewN | apply Kd.R_drew)); exact Kd.R_mono (Kd.R_far (p := ⟨gb369, 5, none⟩) (Kd.R_far (p := ⟨gb369, 4, none⟩) (Kd.R_far (p := ⟨gb369, 3, none⟩) (Kd.R_far (p := ⟨gb369, 2, none⟩) (Kd.R_far (p := ⟨gb369, 1, none⟩) (Kd.R_far (p := ⟨gb369, 0, none⟩) (Kd.R_types HO_5.out BK369.out (by decide)) (fun _ hk => hk.2) (.int .i64 ((rd_T61 l1 x22_2).f0))) (fun _ hk => hk.2) (.int .i64 ((rd_T61 l1 x22_2).f1))) (fun _ hk => hk.2) (.int .i64 ((rd_T61 l1 x22_2).f2.f0))) (fun _ hk => hk.2) (.string ((rd_T61 l1 x22_2).f2.f1))) (fun _ hk => hk.2) (.int .i64 ((rd_T61 l1 x22_2).f3))) (fun _ hk => hk.2) (.int .i64 ((rd_T61 l1 x22_2).f4))) (fun _ hk => trivial)))⟩; have n1_ : Aside0 (w81.heap[gb369]? = some (.cells #[.int .i64 ((rd_T61 l1 x22_2).f0), .int .i64 ((rd_T61 l1 x22_2).f1), .int .i64 ((rd_T61 l1 x22_2).f2.f0), .string ((rd_T61 l1 x22_2).f2.f1), .int .i64 ((rd_T61 l1 x22_2).f3), .int .i64 ((rd_T61 l1 x22_2).f4)] 61 (0, 0))) := ⟨(by rw [hw]; exact (blk_later BK369.out))⟩; have n2_ : Aside0 (Below w.heap.size w w81) := ⟨(by rw [hw]; exact (below_later HB.out))⟩; clear hw; clear HO_5; clear BK369; clear HB; have HO_5 := n0_; have BK369 := n1_; have HB := n2_; clear n0_ n1_ n2_; have p18 : 0 ≤ (x22_2 : Int) := dcd; have q18 : (x22_2 : Int) < ((x5_2.length : Int) : Int) := dcd; obtain ⟨go18, co18, eo18, gb18, gl18, cl18, HG18⟩ := Kd.R_form HO_5.out (by omega); (first | cases eo18 | (injection eo18 with ea_ en_ ec_; (first | subst ea_ | (injection ea_ with ea_; subst ea_)); subst ec_; clear en_)); have GB18 := Aside0.mk gb18; have GG18 := Aside0.mk HG18; clear gb18 gl18 HG18; obtain ⟨hx18_0, hf18_0⟩ := Kd.R_celln 0 HO_5.out (x22_2 : Int) p18 q18; replace p18 := eq_true p18; replace q18 := eq_true q18; obtain ⟨hy82_, hz82_⟩ := Kd.R_celln 0 HO_5.out (x22_2 : Int) (dcd) (dcd); have HP82 := Kd.R_putg HO_5.out (x22_2 : Int) x22_2) | ((with_reducible refine gate_store (t := 3) (p := 30) rfl ?_); (try (rw [drewN_self w81]; generalize hq_ : World.drewN w81 _ = w81; have n0_ := Aside0.mk (Kd.R_at hq_ HO_5.out); have n1_ := Aside0.mk (blk_at hq_ BK369.out); have n2_ := Aside0.mk (below_at hq_ HB.out); clear hq_ HO_5 BK369 HB; have HO_5 := n0_; have BK369 := n1_; have HB := n2_; clear n0_ n1_ n2_; (try (obtain ⟨hy82_, hz82_⟩ := Kd.R_celln 0 HO_5.out (x22_2 : Int) (dcd) (dcd))); (try (have HP82 := Kd.R_putg HO_5.out (x22_2 : Int) x22_2)))); refine st_ 3 30 (w81.setCell ⟨go18, (x22_2 : Int).toNat, none⟩ (.int .i64 x22_2)) ?_; intro w83 hw; have hg : w81.grownBy w83 (some go18) := (by rw [hw]; exact HP82.2); have hp_ : Kd.R (Kd.int .i64) 3 w83 w.heap.size (fun _ => True) (.slice (some ⟨go18, 0, none⟩) x5_2.length co18) y370 := (by rw [hw, Ny370.out]; exact HP82.1); clear HP82; replace BK369 := Aside0.mk (blk_grown (blk_later BK369.out) hg (Kd.R_ne HO_5.out BK369.out (by decide))); replace HO_5 := Aside0.mk (hp_); replace HB := Aside0.mk ((by rw [hw]; exact below_set (HB.out) GB18.out : Below w.heap.size w w83)); clear hg hw hp_; obtain ⟨hcz84_0, hcz84_1, hcz84_2, hcz84_3, hcz84_4, hcz84_5, hfz84_0, hfz84_1, hfz84_2, hfz84_3, hfz84_4, hfz84_5⟩ := cl6 BK369) | (go_at_call 42; (with_reducible refine (impl_within.calls ((rd_T61 l1 x22_2).f0) 1 4 false _ A19.out).mono ?_); rintro e w' ⟨rfl, ⟨nd, rfl⟩⟩; (try first | exact ⟨rfl, _, World.drewN_drewN _ _ _⟩ | exact ⟨rfl, _, Eq.trans (World.drewN_drewN _ _ _) (congrArg (World.drewN _) (Nat.add_assoc _ _ _))⟩)) | (go_at_call 44; (with_reducible refine (impl_isPair.calls ((rd_T61 l1 x22_2).f0) false _ A37.out).mono ?_); rintro e w' ⟨rfl, ⟨nd, rfl⟩⟩; (try first | exact ⟨rfl, _, World.drewN_drewN _ _ _⟩ | exact ⟨rfl, _, Eq.trans (World.drewN_drewN _ _ _) (congrArg (World.drewN _) (Nat.add_assoc _ _ _))⟩); have p378 : 0 ≤ (((rd_T61 l1 x22_2).f3) : Int) := dcd; have q378 : ((rd_T61 l1 x22_2).f3) < (y370.length : Int) := (by have h_ : (((rd_T61 l1 x22_2).f3) : Int) < ((x5_2.length : Int) : Int) := dcd; first | (have e_ := (Kd.R_reads' HO_5.out).1; omega) | simpa only [Ny370.out, List.length_set] using h_); have ql378 : ((((rd_T61 l1 x22_2).f3) : Int) < ((x5_2.length : Int) : Int)) = True := eq_true (dcd); obtain ⟨ad378, e378, hx378_0⟩ := Kd.at_int (Kd.R_reads' HO_5.out).2.2 ((rd_T61 l1 x22_2).f3) p378 q378; obtain rfl : (⟨go18, 0, none⟩ : Addr) = ad378 := (by injection e378); (first | simp only [add_plain] at hx378_0 | simp only [add_at] at hx378_0 | simp only [Addr.add, Nat.zero_add] at hx378_0 | skip); replace p378 := eq_true p378; replace q378 := eq_true q378; have p78 : 0 ≤ (x22_2 : Int) := dcd; have q78 : (x22_2 : Int) < ((x5_2.length : Int) : Int) := dcd; obtain ⟨hx78_0, hf78_0⟩ := Kd.R_celln 0 HO_5.out (x22_2 : Int) p78 q78; replace p78 := eq_true p78; replace q78 := eq_true q78; obtain ⟨hy85_, hz85_⟩ := Kd.R_celln 0 HO_5.out (x22_2 : Int) (dcd) (dcd); have HP85 := Kd.R_putg HO_5.out (x22_2 : Int) (rd y370 ((rd_T61 l1 x22_2).f3))) | ((with_reducible refine gate_store (t := 3) (p := 96) rfl ?_); (try (rw [drewN_self w83]; generalize hq_ : World.drewN w83 _ = w83; have n0_ := Aside0.mk (Kd.R_at hq_ HO_5.out); have n1_ := Aside0.mk (blk_at hq_ BK369.out); have n2_ := Aside0.mk (below_at hq_ HB.out); clear hq_ HO_5 BK369 HB; have HO_5 := n0_; have BK369 := n1_; have HB := n2_; clear n0_ n1_ n2_; (try (obtain ⟨hy85_, hz85_⟩ := Kd.R_celln 0 HO_5.out (x22_2 : Int) (dcd) (dcd))); (try (have HP85 := Kd.R_putg HO_5.out (x22_2 : Int) (rd y370 ((rd_T61 l1 x22_2).f3)))))); refine st_ 3 96 (w83.setCell ⟨go18, (x22_2 : Int).toNat, none⟩ (.int .i64 (rd y370 ((rd_T61 l1 x22_2).f3)))) ?_; intro w86 hw; have hg : w83.grownBy w86 (some go18) := (by rw [hw]; exact HP85.2); have hp_ : Kd.R (Kd.int .i64) 3 w86 w.heap.size (fun _ => True) (.slice (some ⟨go18, 0, none⟩) x5_2.length co18) y379 := (by rw [hw, Ny379.out]; exact HP85.1); clear HP85; replace BK369 := Aside0.mk (blk_grown (blk_later BK369.out) hg (Kd.R_ne HO_5.out BK369.out (by decide))); replace HO_5 := Aside0.mk (hp_); replace HB := Aside0.mk ((by rw [hw]; exact below_set (HB.out) GB18.out : Below w.heap.size w w86)); clear hg hw hp_)))
                   go_roundg k2
                   case measure => have := HJ2.out; have := HK2.out; omega
                   case rel => exact ⟨(y379), (wrap64 (x22_2 + 1)), sr, H', ⟨by have := HJ2.out; have := HK2.out; omega⟩, ⟨R_later HO_5.out⟩, ⟨below_later HB.out⟩⟩
                  ·
                   rw [if_neg c77] at H
                   exact absurd H (by simp)
                 ·
                  rw [if_neg c76] at H
                  exact absurd H (by simp)
              ·
               rw [if_neg c61] at H
               have c61b0 : (((rd_T61 l1 x22_2).f0) == 7) = false := beq_eq_false_iff_ne.mpr c61
               have c61b1 : (((rd_T61 l1 x22_2).f0) != 7) = true := bne_iff_ne.mpr c61
               obtain rfl := Option.some.inj H
               have p368 : 0 ≤ (x22_2 : Int) := dcd
               have q368 : x22_2 < (l1.length : Int) := dcd
               obtain ⟨ad368, e368, hx368_0, hx368_1, hx368_2, hx368_3, hx368_4, hx368_5⟩ := at_T61 HR1.out x22_2 p368 q368
               cases e368
               replace hx368_0 := crd HB hx368_0
               replace hx368_1 := crd HB hx368_1
               replace hx368_2 := crd HB hx368_2
               replace hx368_3 := crd HB hx368_3
               replace hx368_4 := crd HB hx368_4
               replace hx368_5 := crd HB hx368_5
               replace p368 := eq_true p368
               replace q368 := eq_true q368
               go_wp2_with (first | ((with_reducible refine gate_dst (N := 7) rfl ?_); (try (refine gate_guard (by rfl) ?_; dsimp only)); refine bx_ 7 #[.int .i64 0, .int .i64 0, .int .i64 0, .string (⟨#[]⟩ : ByteArray), .int .i64 0, .int .i64 0] 61 ?_; intro gb369 hg w87 hbox hb; have BK369 := Aside0.mk (hbox); have GW369 := gwe HB hg; have GE369 := GW369; replace HO_5 := Aside0.mk (Kd.R_below (R_later HO_5.out) hb); replace HB := bst HB hb; clear hb hbox hg; obtain ⟨hcz88_0, hcz88_1, hcz88_2, hcz88_3, hcz88_4, hcz88_5, hfz88_0, hfz88_1, hfz88_2, hfz88_3, hfz88_4, hfz88_5⟩ := cl6 BK369) | ((with_reducible refine gate_store (t := 61) (p := 7) rfl ?_); (try (rw [drewN_self w87]; generalize hq_ : World.drewN w87 _ = w87; have n0_ := Aside0.mk (Kd.R_at hq_ HO_5.out); have n1_ := Aside0.mk (blk_at hq_ BK369.out); have n2_ := Aside0.mk (below_at hq_ HB.out); clear hq_ HO_5 BK369 HB; have HO_5 := n0_; have BK369 := n1_; have HB := n2_; clear n0_ n1_ n2_)); refine st_ 61 7 ((((((w87.setCell ⟨gb369, 0, none⟩ (.int .i64 ((rd_T61 l1 x22_2).f0))).setCell ⟨gb369, 1, none⟩ (.int .i64 ((rd_T61 l1 x22_2).f1))).setCell ⟨gb369, 2, none⟩ (.int .i64 ((rd_T61 l1 x22_2).f2.f0))).setCell ⟨gb369, 3, none⟩ (.string ((rd_T61 l1 x22_2).f2.f1))).setCell ⟨gb369, 4, none⟩ (.int .i64 ((rd_T61 l1 x22_2).f3))).setCell ⟨gb369, 5, none⟩ (.int .i64 ((rd_T61 l1 x22_2).f4))) ?_; intro w89 hw; have n0_ : Aside0 (Kd.R (Kd.int .i64) 3 w89 w.heap.size (fun _ => True) v365 x5_2) := ⟨(by rw [hw]; exact (by (with_reducible repeat (first | apply Kd.R_alloc | apply Kd.R_drewN | apply Kd.R_drew)); exact Kd.R_mono (Kd.R_far (p := ⟨gb369, 5, none⟩) (Kd.R_far (p := ⟨gb369, 4, none⟩) (Kd.R_far (p := ⟨gb369, 3, none⟩) (Kd.R_far (p := ⟨gb369, 2, none⟩) (Kd.R_far (p := ⟨gb369, 1, none⟩) (Kd.R_far (p := ⟨gb369, 0, none⟩) (Kd.R_types HO_5.out BK369.out (by decide)) (fun _ hk => hk.2) (.int .i64 ((rd_T61 l1 x22_2).f0))) (fun _ hk => hk.2) (.int .i64 ((rd_T61 l1 x22_2).f1))) (fun _ hk => hk.2) (.int .i64 ((rd_T61 l1 x22_2).f2.f0))) (fun _ hk => hk.2) (.string ((rd_T61 l1 x22_2).f2.f1))) (fun _ hk => hk.2) (.int .i64 ((rd_T61 l1 x22_2).f3))) (fun _ hk => hk.2) (.int .i64 ((rd_T61 l1 x22_2).f4))) (fun _ hk => trivial)))⟩; have n1_ : Aside0 (w89.heap[gb369]? = some (.cells #[.int .i64 ((rd_T61 l1 x22_2).f0), .int .i64 ((rd_T61 l1 x22_2).f1), .int .i64 ((rd_T61 l1 x22_2).f2.f0), .string ((rd_T61 l1 x22_2).f2.f1), .int .i64 ((rd_T61 l1 x22_2).f3), .int .i64 ((rd_T61 l1 x22_2).f4)] 61 (0, 0))) := ⟨(by rw [hw]; exact (blk_later BK369.out))⟩; have n2_ : Aside0 (Below w.heap.size w w89) := ⟨(by rw [hw]; exact (below_later HB.out))⟩; clear hw; clear HO_5; clear BK369; clear HB; have HO_5 := n0_; have BK369 := n1_; have HB := n2_; clear n0_ n1_ n2_; have p18 : 0 ≤ (x22_2 : Int) := dcd; have q18 : (x22_2 : Int) < ((x5_2.length : Int) : Int) := dcd; obtain ⟨go18, co18, eo18, gb18, gl18, cl18, HG18⟩ := Kd.R_form HO_5.out (by omega); (first | cases eo18 | (injection eo18 with ea_ en_ ec_; (first | subst ea_ | (injection ea_ with ea_; subst ea_)); subst ec_; clear en_)); have GB18 := Aside0.mk gb18; have GG18 := Aside0.mk HG18; clear gb18 gl18 HG18; obtain ⟨hx18_0, hf18_0⟩ := Kd.R_celln 0 HO_5.out (x22_2 : Int) p18 q18; replace p18 := eq_true p18; replace q18 := eq_true q18; obtain ⟨hy90_, hz90_⟩ := Kd.R_celln 0 HO_5.out (x22_2 : Int) (dcd) (dcd); have HP90 := Kd.R_putg HO_5.out (x22_2 : Int) x22_2) | ((with_reducible refine gate_store (t := 3) (p := 30) rfl ?_); (try (rw [drewN_self w89]; generalize hq_ : World.drewN w89 _ = w89; have n0_ := Aside0.mk (Kd.R_at hq_ HO_5.out); have n1_ := Aside0.mk (blk_at hq_ BK369.out); have n2_ := Aside0.mk (below_at hq_ HB.out); clear hq_ HO_5 BK369 HB; have HO_5 := n0_; have BK369 := n1_; have HB := n2_; clear n0_ n1_ n2_; (try (obtain ⟨hy90_, hz90_⟩ := Kd.R_celln 0 HO_5.out (x22_2 : Int) (dcd) (dcd))); (try (have HP90 := Kd.R_putg HO_5.out (x22_2 : Int) x22_2)))); refine st_ 3 30 (w89.setCell ⟨go18, (x22_2 : Int).toNat, none⟩ (.int .i64 x22_2)) ?_; intro w91 hw; have hg : w89.grownBy w91 (some go18) := (by rw [hw]; exact HP90.2); have hp_ : Kd.R (Kd.int .i64) 3 w91 w.heap.size (fun _ => True) (.slice (some ⟨go18, 0, none⟩) x5_2.length co18) y370 := (by rw [hw, Ny370.out]; exact HP90.1); clear HP90; replace BK369 := Aside0.mk (blk_grown (blk_later BK369.out) hg (Kd.R_ne HO_5.out BK369.out (by decide))); replace HO_5 := Aside0.mk (hp_); replace HB := Aside0.mk ((by rw [hw]; exact below_set (HB.out) GB18.out : Below w.heap.size w w91)); clear hg hw hp_; obtain ⟨hcz92_0, hcz92_1, hcz92_2, hcz92_3, hcz92_4, hcz92_5, hfz92_0, hfz92_1, hfz92_2, hfz92_3, hfz92_4, hfz92_5⟩ := cl6 BK369) | (go_at_call 42; (with_reducible refine (impl_within.calls ((rd_T61 l1 x22_2).f0) 1 4 false _ A19.out).mono ?_); rintro e w' ⟨rfl, ⟨nd, rfl⟩⟩; (try first | exact ⟨rfl, _, World.drewN_drewN _ _ _⟩ | exact ⟨rfl, _, Eq.trans (World.drewN_drewN _ _ _) (congrArg (World.drewN _) (Nat.add_assoc _ _ _))⟩)) | (go_at_call 44; (with_reducible refine (impl_isPair.calls ((rd_T61 l1 x22_2).f0) false _ A37.out).mono ?_); rintro e w' ⟨rfl, ⟨nd, rfl⟩⟩; (try first | exact ⟨rfl, _, World.drewN_drewN _ _ _⟩ | exact ⟨rfl, _, Eq.trans (World.drewN_drewN _ _ _) (congrArg (World.drewN _) (Nat.add_assoc _ _ _))⟩)))
               repeat (go_quiet (first | (go_at_call 42; (with_reducible refine (impl_within.calls ((rd_T61 l1 x22_2).f0) 1 4 false _ A19.out).mono ?_); rintro e w' ⟨rfl, ⟨nd, rfl⟩⟩; (try first | exact ⟨rfl, _, World.drewN_drewN _ _ _⟩ | exact ⟨rfl, _, Eq.trans (World.drewN_drewN _ _ _) (congrArg (World.drewN _) (Nat.add_assoc _ _ _))⟩)) | (go_at_call 44; (with_reducible refine (impl_isPair.calls ((rd_T61 l1 x22_2).f0) false _ A37.out).mono ?_); rintro e w' ⟨rfl, ⟨nd, rfl⟩⟩; (try first | exact ⟨rfl, _, World.drewN_drewN _ _ _⟩ | exact ⟨rfl, _, Eq.trans (World.drewN_drewN _ _ _) (congrArg (World.drewN _) (Nat.add_assoc _ _ _))⟩))); try go_wp2_with (first | ((with_reducible refine gate_dst (N := 7) rfl ?_); (try (refine gate_guard (by rfl) ?_; dsimp only)); refine bx_ 7 #[.int .i64 0, .int .i64 0, .int .i64 0, .string (⟨#[]⟩ : ByteArray), .int .i64 0, .int .i64 0] 61 ?_; intro gb369 hg w87 hbox hb; have BK369 := Aside0.mk (hbox); have GW369 := gwe HB hg; have GE369 := GW369; replace HO_5 := Aside0.mk (Kd.R_below (R_later HO_5.out) hb); replace HB := bst HB hb; clear hb hbox hg; obtain ⟨hcz88_0, hcz88_1, hcz88_2, hcz88_3, hcz88_4, hcz88_5, hfz88_0, hfz88_1, hfz88_2, hfz88_3, hfz88_4, hfz88_5⟩ := cl6 BK369) | ((with_reducible refine gate_store (t := 61) (p := 7) rfl ?_); (try (rw [drewN_self w87]; generalize hq_ : World.drewN w87 _ = w87; have n0_ := Aside0.mk (Kd.R_at hq_ HO_5.out); have n1_ := Aside0.mk (blk_at hq_ BK369.out); have n2_ := Aside0.mk (below_at hq_ HB.out); clear hq_ HO_5 BK369 HB; have HO_5 := n0_; have BK369 := n1_; have HB := n2_; clear n0_ n1_ n2_)); refine st_ 61 7 ((((((w87.setCell ⟨gb369, 0, none⟩ (.int .i64 ((rd_T61 l1 x22_2).f0))).setCell ⟨gb369, 1, none⟩ (.int .i64 ((rd_T61 l1 x22_2).f1))).setCell ⟨gb369, 2, none⟩ (.int .i64 ((rd_T61 l1 x22_2).f2.f0))).setCell ⟨gb369, 3, none⟩ (.string ((rd_T61 l1 x22_2).f2.f1))).setCell ⟨gb369, 4, none⟩ (.int .i64 ((rd_T61 l1 x22_2).f3))).setCell ⟨gb369, 5, none⟩ (.int .i64 ((rd_T61 l1 x22_2).f4))) ?_; intro w89 hw; have n0_ : Aside0 (Kd.R (Kd.int .i64) 3 w89 w.heap.size (fun _ => True) v365 x5_2) := ⟨(by rw [hw]; exact (by (with_reducible repeat (first | apply Kd.R_alloc | apply Kd.R_drewN | apply Kd.R_drew)); exact Kd.R_mono (Kd.R_far (p := ⟨gb369, 5, none⟩) (Kd.R_far (p := ⟨gb369, 4, none⟩) (Kd.R_far (p := ⟨gb369, 3, none⟩) (Kd.R_far (p := ⟨gb369, 2, none⟩) (Kd.R_far (p := ⟨gb369, 1, none⟩) (Kd.R_far (p := ⟨gb369, 0, none⟩) (Kd.R_types HO_5.out BK369.out (by decide)) (fun _ hk => hk.2) (.int .i64 ((rd_T61 l1 x22_2).f0))) (fun _ hk => hk.2) (.int .i64 ((rd_T61 l1 x22_2).f1))) (fun _ hk => hk.2) (.int .i64 ((rd_T61 l1 x22_2).f2.f0))) (fun _ hk => hk.2) (.string ((rd_T61 l1 x22_2).f2.f1))) (fun _ hk => hk.2) (.int .i64 ((rd_T61 l1 x22_2).f3))) (fun _ hk => hk.2) (.int .i64 ((rd_T61 l1 x22_2).f4))) (fun _ hk => trivial)))⟩; have n1_ : Aside0 (w89.heap[gb369]? = some (.cells #[.int .i64 ((rd_T61 l1 x22_2).f0), .int .i64 ((rd_T61 l1 x22_2).f1), .int .i64 ((rd_T61 l1 x22_2).f2.f0), .string ((rd_T61 l1 x22_2).f2.f1), .int .i64 ((rd_T61 l1 x22_2).f3), .int .i64 ((rd_T61 l1 x22_2).f4)] 61 (0, 0))) := ⟨(by rw [hw]; exact (blk_later BK369.out))⟩; have n2_ : Aside0 (Below w.heap.size w w89) := ⟨(by rw [hw]; exact (below_later HB.out))⟩; clear hw; clear HO_5; clear BK369; clear HB; have HO_5 := n0_; have BK369 := n1_; have HB := n2_; clear n0_ n1_ n2_; have p18 : 0 ≤ (x22_2 : Int) := dcd; have q18 : (x22_2 : Int) < ((x5_2.length : Int) : Int) := dcd; obtain ⟨go18, co18, eo18, gb18, gl18, cl18, HG18⟩ := Kd.R_form HO_5.out (by omega); (first | cases eo18 | (injection eo18 with ea_ en_ ec_; (first | subst ea_ | (injection ea_ with ea_; subst ea_)); subst ec_; clear en_)); have GB18 := Aside0.mk gb18; have GG18 := Aside0.mk HG18; clear gb18 gl18 HG18; obtain ⟨hx18_0, hf18_0⟩ := Kd.R_celln 0 HO_5.out (x22_2 : Int) p18 q18; replace p18 := eq_true p18; replace q18 := eq_true q18; obtain ⟨hy90_, hz90_⟩ := Kd.R_celln 0 HO_5.out (x22_2 : Int) (dcd) (dcd); have HP90 := Kd.R_putg HO_5.out (x22_2 : Int) x22_2) | ((with_reducible refine gate_store (t := 3) (p := 30) rfl ?_); (try (rw [drewN_self w89]; generalize hq_ : World.drewN w89 _ = w89; have n0_ := Aside0.mk (Kd.R_at hq_ HO_5.out); have n1_ := Aside0.mk (blk_at hq_ BK369.out); have n2_ := Aside0.mk (below_at hq_ HB.out); clear hq_ HO_5 BK369 HB; have HO_5 := n0_; have BK369 := n1_; have HB := n2_; clear n0_ n1_ n2_; (try (obtain ⟨hy90_, hz90_⟩ := Kd.R_celln 0 HO_5.out (x22_2 : Int) (dcd) (dcd))); (try (have HP90 := Kd.R_putg HO_5.out (x22_2 : Int) x22_2)))); refine st_ 3 30 (w89.setCell ⟨go18, (x22_2 : Int).toNat, none⟩ (.int .i64 x22_2)) ?_; intro w91 hw; have hg : w89.grownBy w91 (some go18) := (by rw [hw]; exact HP90.2); have hp_ : Kd.R (Kd.int .i64) 3 w91 w.heap.size (fun _ => True) (.slice (some ⟨go18, 0, none⟩) x5_2.length co18) y370 := (by rw [hw, Ny370.out]; exact HP90.1); clear HP90; replace BK369 := Aside0.mk (blk_grown (blk_later BK369.out) hg (Kd.R_ne HO_5.out BK369.out (by decide))); replace HO_5 := Aside0.mk (hp_); replace HB := Aside0.mk ((by rw [hw]; exact below_set (HB.out) GB18.out : Below w.heap.size w w91)); clear hg hw hp_; obtain ⟨hcz92_0, hcz92_1, hcz92_2, hcz92_3, hcz92_4, hcz92_5, hfz92_0, hfz92_1, hfz92_2, hfz92_3, hfz92_4, hfz92_5⟩ := cl6 BK369) | (go_at_call 42; (with_reducible refine (impl_within.calls ((rd_T61 l1 x22_2).f0) 1 4 false _ A19.out).mono ?_); rintro e w' ⟨rfl, ⟨nd, rfl⟩⟩; (try first | exact ⟨rfl, _, World.drewN_drewN _ _ _⟩ | exact ⟨rfl, _, Eq.trans (World.drewN_drewN _ _ _) (congrArg (World.drewN _) (Nat.add_assoc _ _ _))⟩)) | (go_at_call 44; (with_reducible refine (impl_isPair.calls ((rd_T61 l1 x22_2).f0) false _ A37.out).mono ?_); rintro e w' ⟨rfl, ⟨nd, rfl⟩⟩; (try first | exact ⟨rfl, _, World.drewN_drewN _ _ _⟩ | exact ⟨rfl, _, Eq.trans (World.drewN_drewN _ _ _) (congrArg (World.drewN _) (Nat.add_assoc _ _ _))⟩))))
               go_ret
               exact fin_ (below_later HB.out)
           ·
            rw [if_neg c17] at H
            exact absurd H (by simp)
          ·
           rw [if_neg c16] at H
           exact absurd H (by simp)
         ·
          rw [if_neg c15] at H
          exact absurd H (by simp)
        ·
         rw [if_neg c14] at H
         have c14b0 := decide_eq_false c14
         clear c14
         obtain ⟨ji93, hji93⟩ : ∃ j_ : Int, (wrap64 ((l1.length : Int) - 1)) = j_ := ⟨_, rfl⟩
         replace H : (if 0 ≤ (ji93) then (if (ji93) < (x5_2.length : Int) then (some ((rd x5_2 (ji93)) == 0)) else (none)) else (none)) = some r := by first | (rw [hji93] at H; exact H) | (simp only [hji93] at H ⊢; exact H)
         have hji93w : (IntKind.i64.wrap ((l1.length : Int) - 1)) = ji93 := (i64_w _).trans hji93
         by_cases c94 : 0 ≤ (ji93)
         ·
          rw [if_pos c94] at H
          have c94b0 := decide_eq_true c94
          clear c94
          by_cases c95 : (ji93) < (x5_2.length : Int)
          ·
           rw [if_pos c95] at H
           have c95b0 := decide_eq_true c95
           clear c95
           obtain rfl := Option.some.inj H
           obtain ⟨Ao96, co96, eo96⟩ := Kd.R_slice HO_5.out
           subst eo96
           have p367 : 0 ≤ ((ji93) : Int) := dcd
           have q367 : (ji93) < (x5_2.length : Int) := dcd
           obtain ⟨ad367, e367, hx367_0⟩ := Kd.at_int (Kd.R_reads' HO_5.out).2.2 (ji93) p367 q367
           cases e367
           replace p367 := eq_true p367
           replace q367 := eq_true q367
           go_wp2
           repeat (go_quiet (fail); try go_wp2)
           go_ret
           exact ⟨by first | rfl | (simp [errW_none, errW_some] <;> rfl) | (simp only [← hji93]; first | rfl | (simp [errW_none, errW_some] <;> rfl)) | (simp [*, errW_none, errW_some] <;> rfl), below_later HB.out⟩
          ·
           rw [if_neg c95] at H
           exact absurd H (by simp)
         ·
          rw [if_neg c94] at H
          exact absurd H (by simp)
     ·
      rw [if_neg c11] at H
      exact absurd H (by simp)
    ·
     rw [if_neg c10] at H
     exact absurd H (by simp)

/-! ### impl_FloatKey: function 58 -/
def impl_FloatKey.f (a0 : Int) : Option (Int) := if a0 < 0 then (some (Go.bits .xor .i64 a0 9223372036854775807)) else (some a0)
set_option maxHeartbeats 8000000 in
set_option maxRecDepth 100000 in
theorem impl_FloatKey.calls (a0 : Int) (r : Int) (w : World) (h : impl_FloatKey.f a0 = some r) :
    Calls Try.prog 58 #[.int .i64 a0] w fun e w' => e = .returned (.int .i64 r) ∧ Drawn0 w w' := by
  have H : (if a0 < 0 then (some (Go.bits .xor .i64 a0 9223372036854775807)) else (some a0)) = some r := h
  clear h
  by_cases c2 : a0 < 0
  · rw [if_pos c2] at H
    have c2b0 := decide_eq_true c2
    clear c2
    obtain rfl := Option.some.inj H
    go_enter Try.func58, Try.ntmps58
    go_wp2
    go_ret
    exact ⟨by first | rfl | (simp; done) | (simp [*]; done), by repeat (first | exact Drawn0.refl _ | apply Drawn0.step)⟩
  · rw [if_neg c2] at H
    have c2b0 := decide_eq_false c2
    clear c2
    obtain rfl := Option.some.inj H
    go_enter Try.func58, Try.ntmps58
    go_wp2
    go_ret
    exact ⟨by first | rfl | (simp; done) | (simp [*]; done), by repeat (first | exact Drawn0.refl _ | apply Drawn0.step)⟩

/-! ### impl_ValLess: function 47 -/
def impl_ValLess.j0 : Nat → Int → Bool → Int → ByteArray → Int → ByteArray → Option (Bool)
  | 0, _, _, _, _, _, _ => none
  | k + 1, x0, x16, x381000, x381001, x382000, x382001 => if x16 = true then (some false) else (if x0 = 5 then ((impl_FloatKey.f x381000).bind fun t384 => ((impl_FloatKey.f x382000).bind fun t385 => (some (decide (t384 < t385))))) else (if x0 = 6 then (some (Op.bytesLess x381001.toList x382001.toList)) else (some (decide (x381000 < x382000)))))
def impl_ValLess.f (k : Nat) (a0 : Int) (a1_0 : Int) (a1_1 : ByteArray) (a2_0 : Int) (a2_1 : ByteArray) : Option (Bool) := (impl_ValOk.f a0 a1_0 a1_1).bind fun t382 => (if t382 = true then ((impl_ValOk.f a0 a2_0 a2_1).bind fun t383 => (impl_ValLess.j0 k a0 (!t383) a1_0 a1_1 a2_0 a2_1)) else (impl_ValLess.j0 k a0 true a1_0 a1_1 a2_0 a2_1))
set_option maxHeartbeats 8000000 in
set_option maxRecDepth 100000 in
theorem impl_ValLess.calls (k : Nat) (a0 : Int) (a1_0 : Int) (a1_1 : ByteArray) (a2_0 : Int) (a2_1 : ByteArray) (r : Bool) (w : World) (h : impl_ValLess.f k a0 a1_0 a1_1 a2_0 a2_1 = some r) :
    Calls Try.prog 47 #[.int .i64 a0, .agg #[.int .i64 a1_0, .string a1_1], .agg #[.int .i64 a2_0, .string a2_1]] w fun e w' => e = .returned (.bool r) ∧ Below w.heap.size w w' := by
  have hu59 := Try.underlying59
  have HB := Aside0.mk (Below.refl w.heap.size w)
  have H : ((impl_ValOk.f a0 a1_0 a1_1).bind fun t382 => (if t382 = true then ((impl_ValOk.f a0 a2_0 a2_1).bind fun t383 => (impl_ValLess.j0 k a0 (!t383) a1_0 a1_1 a2_0 a2_1)) else (impl_ValLess.j0 k a0 true a1_0 a1_1 a2_0 a2_1))) = some r := h
  clear h
  have HC4 := Aside0.mk H
  clear H
  go_enter Try.func47, Try.ntmps47
  go_upto_region 1 with (first | ((with_reducible refine gate_dst (N := 4) rfl ?_); refine bx_ 4 #[.int .i64 a1_0, .string a1_1] 59 ?_; intro gb380 hg w5 hbox hb; have BK380 := Aside0.mk (hbox); have GW380 := gwe HB hg; have GE380 := GW380; replace HB := bst HB hb; clear hb hbox hg) | ((with_reducible refine gate_dst (N := 5) rfl ?_); refine bx_ 5 #[.int .i64 a2_0, .string a2_1] 59 ?_; intro gb381 hg w6 hbox hb; have BK381 := Aside0.mk (hbox); have GW381 := gwe HB hg; have GE381 := GW381; have NB380_381 := nbl BK380 hg; have NB381_380 := nbr (nbl BK380 hg); replace BK380 := bkb BK380 hb; replace HB := bst HB hb; clear hb hbox hg))
  repeat (go_quiet (fail); go_upto_region 1 with (first | ((with_reducible refine gate_dst (N := 4) rfl ?_); refine bx_ 4 #[.int .i64 a1_0, .string a1_1] 59 ?_; intro gb380 hg w5 hbox hb; have BK380 := Aside0.mk (hbox); have GW380 := gwe HB hg; have GE380 := GW380; replace HB := bst HB hb; clear hb hbox hg) | ((with_reducible refine gate_dst (N := 5) rfl ?_); refine bx_ 5 #[.int .i64 a2_0, .string a2_1] 59 ?_; intro gb381 hg w6 hbox hb; have BK381 := Aside0.mk (hbox); have GW381 := gwe HB hg; have GE381 := GW381; have NB380_381 := nbl BK380 hg; have NB381_380 := nbr (nbl BK380 hg); replace BK380 := bkb BK380 hb; replace HB := bst HB hb; clear hb hbox hg)))
  (try simp only [Act.put, List.setIfInBounds_toArray, List.set_cons_zero, List.set_cons_succ])
  go_cut [16] (fun v16 wc => ∃ (kq : Nat) (x16_3 : Bool), v16 = .bool x16_3 ∧ Aside0 (impl_ValLess.j0 kq a0 x16_3 a1_0 a1_1 a2_0 a2_1 = some r) ∧ Aside0 (kq ≤ k) ∧ Aside0 (wc.heap[gb380]? = some (.cells #[.int .i64 a1_0, .string a1_1] 59 (0, 0))) ∧ Aside0 (wc.heap[gb381]? = some (.cells #[.int .i64 a2_0, .string a2_1] 59 (0, 0))) ∧ Aside0 (Below w.heap.size w wc))
  case first =>
    have H := HC4.out
    clear HC4
    replace H := bnd H
    obtain ⟨t382, A7, H⟩ := H
    by_cases c8 : t382 = true
    · subst c8
      replace H := ifp rfl H
      replace H := bnd H
      obtain ⟨t383, A9, H⟩ := H
      have H' := Aside0.mk H
      clear H
      have hnb10 := NB380_381.out
      have hnc10 := NB381_380.out
      obtain ⟨hcz11_0, hcz11_1, hfz11_0, hfz11_1⟩ := cl2 BK380
      go_wp2_with (first | (go_at_call 56; (with_reducible refine (impl_ValOk.calls a0 a1_0 a1_1 true _ A7.out).mono ?_); rintro e w12 ⟨rfl, hb⟩; replace BK380 := bkb BK380 hb; replace BK381 := bkb BK381 hb; replace HB := bst HB hb; (try clear hb); obtain ⟨hcz13_0, hcz13_1, hfz13_0, hfz13_1⟩ := cl2 BK381) | (go_at_call 56; (with_reducible refine (impl_ValOk.calls a0 a2_0 a2_1 t383 _ A9.out).mono ?_); rintro e w14 ⟨rfl, hb⟩; replace BK380 := bkb BK380 hb; replace BK381 := bkb BK381 hb; replace HB := bst HB hb; (try clear hb)))
      repeat (go_quiet (fail); try go_wp2_with (first | (go_at_call 56; (with_reducible refine (impl_ValOk.calls a0 a1_0 a1_1 true _ A7.out).mono ?_); rintro e w12 ⟨rfl, hb⟩; replace BK380 := bkb BK380 hb; replace BK381 := bkb BK381 hb; replace HB := bst HB hb; (try clear hb); obtain ⟨hcz13_0, hcz13_1, hfz13_0, hfz13_1⟩ := cl2 BK381) | (go_at_call 56; (with_reducible refine (impl_ValOk.calls a0 a2_0 a2_1 t383 _ A9.out).mono ?_); rintro e w14 ⟨rfl, hb⟩; replace BK380 := bkb BK380 hb; replace BK381 := bkb BK381 hb; replace HB := bst HB hb; (try clear hb))))
      go_meet
      case rel => exact ⟨_, (!t383), sr, H', ⟨by first | omega | exact Nat.le_refl _⟩, ⟨blk_later BK380.out⟩, ⟨blk_later BK381.out⟩, ⟨below_later HB.out⟩⟩
    · replace c8 := Bool.eq_false_iff.mpr c8
      subst c8
      replace H := ifn Bool.false_ne_true H
      have H' := Aside0.mk H
      clear H
      have hnb15 := NB380_381.out
      have hnc15 := NB381_380.out
      obtain ⟨hcz16_0, hcz16_1, hfz16_0, hfz16_1⟩ := cl2 BK380
      go_wp2_with (first | (go_at_call 56; (with_reducible refine (impl_ValOk.calls a0 a1_0 a1_1 false _ A7.out).mono ?_); rintro e w17 ⟨rfl, hb⟩; replace BK380 := bkb BK380 hb; replace BK381 := bkb BK381 hb; replace HB := bst HB hb; (try clear hb)))
      repeat (go_quiet (fail); try go_wp2_with (first | (go_at_call 56; (with_reducible refine (impl_ValOk.calls a0 a1_0 a1_1 false _ A7.out).mono ?_); rintro e w17 ⟨rfl, hb⟩; replace BK380 := bkb BK380 hb; replace BK381 := bkb BK381 hb; replace HB := bst HB hb; (try clear hb))))
      go_meet
      case rel => exact ⟨_, (true), sr, H', ⟨by first | omega | exact Nat.le_refl _⟩, ⟨blk_later BK380.out⟩, ⟨blk_later BK381.out⟩, ⟨below_later HB.out⟩⟩
  case rest =>
    clear HC4
    obtain ⟨kq, x16_3, rfl, HA, HJ3, BK380, BK381, HB⟩ := hcut
    cases kq with
    | zero => exact absurd HA.out (by simp [impl_ValLess.j0])
    | succ kj3 =>
      have H := HA.out
      clear HA
      simp only [impl_ValLess.j0] at H
      by_cases c18 : x16_3 = true
      · subst c18
        replace H := ifp rfl H
        obtain rfl := Option.some.inj H
        go_wp2
        repeat (go_quiet (fail); try go_wp2)
        go_ret
        exact fin_ (below_later HB.out)
      · replace c18 := Bool.eq_false_iff.mpr c18
        subst c18
        replace H := ifn Bool.false_ne_true H
        by_cases c19 : a0 = 5
        · rw [if_pos c19] at H
          have c19b0 : (a0 == 5) = true := beq_iff_eq.mpr c19
          have c19b1 : (a0 != 5) = false := bne_eq_false_iff_eq.mpr c19
          clear c19
          replace H := bnd H
          obtain ⟨t384, A20, H⟩ := H
          replace H := bnd H
          obtain ⟨t385, A21, H⟩ := H
          obtain rfl := Option.some.inj H
          have hnb22 := NB380_381.out
          have hnc22 := NB381_380.out
          obtain ⟨hcz23_0, hcz23_1, hfz23_0, hfz23_1⟩ := cl2 BK380
          go_wp2_with (first | (go_at_call 58; (with_reducible refine (impl_FloatKey.calls a1_0 t384 _ A20.out).mono ?_); rintro e w' ⟨rfl, ⟨nd, rfl⟩⟩; (try first | exact ⟨rfl, _, World.drewN_drewN _ _ _⟩ | exact ⟨rfl, _, Eq.trans (World.drewN_drewN _ _ _) (congrArg (World.drewN _) (Nat.add_assoc _ _ _))⟩); obtain ⟨hcz24_0, hcz24_1, hfz24_0, hfz24_1⟩ := cl2 BK381) | (go_at_call 58; (with_reducible refine (impl_FloatKey.calls a2_0 t385 _ A21.out).mono ?_); rintro e w' ⟨rfl, ⟨nd, rfl⟩⟩; (try first | exact ⟨rfl, _, World.drewN_drewN _ _ _⟩ | exact ⟨rfl, _, Eq.trans (World.drewN_drewN _ _ _) (congrArg (World.drewN _) (Nat.add_assoc _ _ _))⟩)))
          repeat (go_quiet (first | (go_at_call 58; (with_reducible refine (impl_FloatKey.calls a1_0 t384 _ A20.out).mono ?_); rintro e w' ⟨rfl, ⟨nd, rfl⟩⟩; (try first | exact ⟨rfl, _, World.drewN_drewN _ _ _⟩ | exact ⟨rfl, _, Eq.trans (World.drewN_drewN _ _ _) (congrArg (World.drewN _) (Nat.add_assoc _ _ _))⟩); obtain ⟨hcz24_0, hcz24_1, hfz24_0, hfz24_1⟩ := cl2 BK381) | (go_at_call 58; (with_reducible refine (impl_FloatKey.calls a2_0 t385 _ A21.out).mono ?_); rintro e w' ⟨rfl, ⟨nd, rfl⟩⟩; (try first | exact ⟨rfl, _, World.drewN_drewN _ _ _⟩ | exact ⟨rfl, _, Eq.trans (World.drewN_drewN _ _ _) (congrArg (World.drewN _) (Nat.add_assoc _ _ _))⟩))); try go_wp2_with (first | (go_at_call 58; (with_reducible refine (impl_FloatKey.calls a1_0 t384 _ A20.out).mono ?_); rintro e w' ⟨rfl, ⟨nd, rfl⟩⟩; (try first | exact ⟨rfl, _, World.drewN_drewN _ _ _⟩ | exact ⟨rfl, _, Eq.trans (World.drewN_drewN _ _ _) (congrArg (World.drewN _) (Nat.add_assoc _ _ _))⟩); obtain ⟨hcz24_0, hcz24_1, hfz24_0, hfz24_1⟩ := cl2 BK381) | (go_at_call 58; (with_reducible refine (impl_FloatKey.calls a2_0 t385 _ A21.out).mono ?_); rintro e w' ⟨rfl, ⟨nd, rfl⟩⟩; (try first | exact ⟨rfl, _, World.drewN_drewN _ _ _⟩ | exact ⟨rfl, _, Eq.trans (World.drewN_drewN _ _ _) (congrArg (World.drewN _) (Nat.add_assoc _ _ _))⟩))))
          go_ret
          exact fin_ (below_later HB.out)
        · rw [if_neg c19] at H
          have c19b0 : (a0 == 5) = false := beq_eq_false_iff_ne.mpr c19
          have c19b1 : (a0 != 5) = true := bne_iff_ne.mpr c19
          by_cases c25 : a0 = 6
          · rw [if_pos c25] at H
            have c25b0 : (a0 == 6) = true := beq_iff_eq.mpr c25
            have c25b1 : (a0 != 6) = false := bne_eq_false_iff_eq.mpr c25
            clear c25
            obtain rfl := Option.some.inj H
            have hnb26 := NB380_381.out
            have hnc26 := NB381_380.out
            obtain ⟨hcz27_0, hcz27_1, hfz27_0, hfz27_1⟩ := cl2 BK380
            obtain ⟨hcz28_0, hcz28_1, hfz28_0, hfz28_1⟩ := cl2 BK381
            go_wp2
            repeat (go_quiet (fail); try go_wp2)
            go_ret
            exact fin_ (below_later HB.out)
          · rw [if_neg c25] at H
            have c25b0 : (a0 == 6) = false := beq_eq_false_iff_ne.mpr c25
            have c25b1 : (a0 != 6) = true := bne_iff_ne.mpr c25
            obtain rfl := Option.some.inj H
            have hnb29 := NB380_381.out
            have hnc29 := NB381_380.out
            obtain ⟨hcz30_0, hcz30_1, hfz30_0, hfz30_1⟩ := cl2 BK380
            obtain ⟨hcz31_0, hcz31_1, hfz31_0, hfz31_1⟩ := cl2 BK381
            go_wp2
            repeat (go_quiet (fail); try go_wp2)
            go_ret
            exact fin_ (below_later HB.out)

end Go.Proofs.Ytlioghbcomdghaa.PFnExactPredMay
