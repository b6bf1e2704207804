/- The machine's side of FnExactEncPack, written by wip/tools/hyb.py of this repo: each Go function as a plain Lean function, and the proof that the call comes to just its answer. No condition. -/
import Derived.Test.YtkocikdceojnmaaPFnExactEncPackx0
import Derived.Test.YtkocikdceojnmaaPFnExactEncPackx1
import Derived.Test.YtkocikdceojnmaaPFnExactEncPackx2
import Derived.Test.YtkocikdceojnmaaPFnExactEncPackx3
import Derived.Test.YtkocikdceojnmaaPFnExactEncPackx5
import Derived.Test.YtkocikdceojnmaaPFnExactEncPackx7
import Derived.Test.YtkocikdceojnmaaPFnExactEncPackx8
namespace Go.Proofs.Ytkocikdceojnmaa.PFnExactEncPack
open Go.RowKit Go.Proofs.YtkocikdceojnmaaW.PrintWords Go.Proofs.YtkocikdceojnmaaW.PrintLast Go.Proofs.YtkocikdceojnmaaW.PrintMore Go.Proofs.YtkocikdceojnmaaW.PrintMore2
attribute [local go_sem] max2_int min2_int max_two min_two max_three min_three max_four min_four   -- for this text's walks alone
set_option linter.unusedVariables false
set_option linter.unusedSimpArgs false

attribute [local go_sem high] eqA46
/-! ### spec_EncPack: function 5 -/
mutual
def spec_EncPack.j0 : Nat → Int → Int → List (S46) → List (S46) → Bool → Option (List Int × Bool)
  | 0, _, _, _, _, _ => none
  | k + 1, x0, x1, x2, x3, x24 => if x24 = true then (some ((([] : List Int)), false)) else (if x0 = 0 then ((spec_PlainPack.f k x1 x2).bind fun bt461 => (some (bt461.1, bt461.2))) else (if x0 = 3 then ((spec_l16Nums.f k x2).bind fun t465 => ((spec_RunPack.f k t465 1).bind fun bt468 => (if bt468.2 = true then ((spec_WordPut.f k (bt468.1.length : Int) 4).bind fun t472 => (if t472.length + bt468.1.length < 140737488355328 then (some ((t472 ++ bt468.1), true)) else (none))) else (some ((([] : List Int)), false))))) else (if x0 = 5 then ((spec_l16Nums.f k x2).bind fun t481 => ((spec_DeltaPack.f k t481).bind fun bt484 => (some (bt484.1, bt484.2)))) else (if x0 = 6 then ((spec_LengthPack.f k x2).bind fun bt488 => (some (bt488.1, bt488.2))) else (if x0 = 7 then ((spec_FrontPack.f k x2).bind fun bt492 => (some (bt492.1, bt492.2))) else (if x0 = 9 then ((spec_SplitPack.f k x1 x2).bind fun bt496 => (some (bt496.1, bt496.2))) else (spec_EncPack.l0 k x2 x3 (([] : List Int)) 0)))))))
def spec_EncPack.l0 : Nat → List (S46) → List (S46) → List Int → Int → Option (List Int × Bool)
  | 0, _, _, _, _ => none
  | k + 1, x2, x3, x12, x13 => if x13 < (x2.length : Int) then (spec_EncPack.l1 k x2 x3 x12 x13 0) else ((spec_PlacesPack.f k x12 (x3.length : Int)).bind fun bt503 => (some (bt503.1, bt503.2)))
def spec_EncPack.l1 : Nat → List (S46) → List (S46) → List Int → Int → Int → Option (List Int × Bool)
  | 0, _, _, _, _, _ => none
  | k + 1, x2, x3, x12, x13, x14 => if x14 < (x3.length : Int) then (if 0 ≤ x14 then (if 0 ≤ x13 then (if x13 < (x2.length : Int) then (if (!(((rd_T46 x3 x14).f0) == ((rd_T46 x2 x13).f0)) || (!((((rd_T46 x3 x14).f1).toList) == (((rd_T46 x2 x13).f1).toList)))) = true then (spec_EncPack.l1 k x2 x3 x12 x13 (wrap64 (x14 + 1))) else (if x14 = (x3.length : Int) then (some ((([] : List Int)), false)) else (if x12.length < 17592186044416 then (spec_EncPack.l0 k x2 x3 (x12 ++ [x14]) (wrap64 (x13 + 1))) else (none)))) else (none)) else (none)) else (none)) else (if x14 = (x3.length : Int) then (some ((([] : List Int)), false)) else (if x12.length < 17592186044416 then (spec_EncPack.l0 k x2 x3 (x12 ++ [x14]) (wrap64 (x13 + 1))) else (none)))
end
def spec_EncPack.f (k : Nat) (a0 : Int) (a1 : Int) (l2 : List (S46)) (l3 : List (S46)) : Option (List Int × Bool) := (spec_EncOk.f k a0 a1).bind fun t456 => (if t456 = true then ((spec_l6Vals.f k a1 l2).bind fun t457 => (spec_EncPack.j0 k a0 a1 l2 l3 (!t457))) else (spec_EncPack.j0 k a0 a1 l2 l3 true))
set_option maxHeartbeats 8000000 in
set_option maxRecDepth 100000 in
theorem spec_EncPack.calls (k : Nat) (a0 : Int) (a1 : Int) (A2 : Option Addr) (c2 : Nat) (l2 : List (S46)) (A3 : Option Addr) (c3 : Nat) (l3 : List (S46)) (r1 : List Int) (r2 : Bool) (w : World) (hr2 : Kd.C k46 w A2 l2.length l2) (hc2 : l2.length ≤ c2) (hr3 : Kd.C k46 w A3 l3.length l3) (hc3 : l3.length ≤ c3) (h : spec_EncPack.f k a0 a1 l2 l3 = some (r1, r2)) :
    Calls Try.prog 5 #[.int .i64 a0, .int .i64 a1, .slice A2 l2.length c2, .slice A3 l3.length c3] w fun e w' => ∃ v0_ : Value, e = .returned (.tuple #[v0_, .bool r2]) ∧ Kd.R (Kd.int .u8) 5 w' w.heap.size (fun _ => True) v0_ r1 ∧ Below w.heap.size w w' := by
  have hu46 := Try.underlying46
  have HR2 := Aside0.mk hr2
  have HC2 := Aside0.mk hc2
  clear hr2 hc2
  have HR3 := Aside0.mk hr3
  have HC3 := Aside0.mk hc3
  clear hr3 hc3
  have HB := Aside0.mk (Below.refl w.heap.size w)
  have H : ((spec_EncOk.f k a0 a1).bind fun t456 => (if t456 = true then ((spec_l6Vals.f k a1 l2).bind fun t457 => (spec_EncPack.j0 k a0 a1 l2 l3 (!t457))) else (spec_EncPack.j0 k a0 a1 l2 l3 true))) = some (r1, r2) := h
  clear h
  have HC5 := Aside0.mk H
  clear H
  go_enter Try.func5, Try.ntmps5
  go_upto_region 1 with (fail)
  repeat (go_quiet (fail); go_upto_region 1 with (fail))
  go_cut [24] (fun v24 wc => ∃ (kq : Nat) (x24_4 : Bool), v24 = .bool x24_4 ∧ Aside0 (spec_EncPack.j0 kq a0 a1 l2 l3 x24_4 = some (r1, r2)) ∧ Aside0 (kq ≤ k) ∧ Aside0 (Below w.heap.size w wc))
  case first =>
    have H := HC5.out
    clear HC5
    replace H := bnd H
    obtain ⟨t456, A6, H⟩ := H
    by_cases c7 : t456 = true
    · subst c7
      replace H := ifp rfl H
      replace H := bnd H
      obtain ⟨t457, A8, H⟩ := H
      have H' := Aside0.mk H
      clear H
      go_wp2_with (first | (go_at_call 14; (with_reducible refine (spec_EncOk.calls k a0 a1 true _ A6.out).mono ?_); rintro e w' ⟨rfl, ⟨nd, rfl⟩⟩; (try first | exact ⟨rfl, _, World.drewN_drewN _ _ _⟩ | exact ⟨rfl, _, Eq.trans (World.drewN_drewN _ _ _) (congrArg (World.drewN _) (Nat.add_assoc _ _ _))⟩)) | (go_at_call 15; (with_reducible refine (spec_l6Vals.calls k a1 _ _ l2 t457 _ ?side1 ?side2 A8.out).mono ?_); (case side1 => repeat (first | exact (Kd.C_below HR2.out (below_later HB.out)) | (with_reducible refine Kd.C_alloc ?_ _) | (with_reducible refine Kd.C_drewN ?_ _) | (with_reducible refine Kd.C_drew ?_))); (case side2 => exact HC2.out); rintro e w9 ⟨rfl, hb⟩; replace HB := bst HB hb; (try clear hb)))
      repeat (go_quiet (first | (go_at_call 14; (with_reducible refine (spec_EncOk.calls k a0 a1 true _ A6.out).mono ?_); rintro e w' ⟨rfl, ⟨nd, rfl⟩⟩; (try first | exact ⟨rfl, _, World.drewN_drewN _ _ _⟩ | exact ⟨rfl, _, Eq.trans (World.drewN_drewN _ _ _) (congrArg (World.drewN _) (Nat.add_assoc _ _ _))⟩)) | (go_at_call 15; (with_reducible refine (spec_l6Vals.calls k a1 _ _ l2 t457 _ ?side1 ?side2 A8.out).mono ?_); (case side1 => repeat (first | exact (Kd.C_below HR2.out (below_later HB.out)) | (with_reducible refine Kd.C_alloc ?_ _) | (with_reducible refine Kd.C_drewN ?_ _) | (with_reducible refine Kd.C_drew ?_))); (case side2 => exact HC2.out); rintro e w9 ⟨rfl, hb⟩; replace HB := bst HB hb; (try clear hb))); try go_wp2_with (first | (go_at_call 14; (with_reducible refine (spec_EncOk.calls k a0 a1 true _ A6.out).mono ?_); rintro e w' ⟨rfl, ⟨nd, rfl⟩⟩; (try first | exact ⟨rfl, _, World.drewN_drewN _ _ _⟩ | exact ⟨rfl, _, Eq.trans (World.drewN_drewN _ _ _) (congrArg (World.drewN _) (Nat.add_assoc _ _ _))⟩)) | (go_at_call 15; (with_reducible refine (spec_l6Vals.calls k a1 _ _ l2 t457 _ ?side1 ?side2 A8.out).mono ?_); (case side1 => repeat (first | exact (Kd.C_below HR2.out (below_later HB.out)) | (with_reducible refine Kd.C_alloc ?_ _) | (with_reducible refine Kd.C_drewN ?_ _) | (with_reducible refine Kd.C_drew ?_))); (case side2 => exact HC2.out); rintro e w9 ⟨rfl, hb⟩; replace HB := bst HB hb; (try clear hb))))
      go_meet
      case rel => exact ⟨_, (!t457), sr, H', ⟨by first | omega | exact Nat.le_refl _⟩, ⟨below_later HB.out⟩⟩
    · replace c7 := Bool.eq_false_iff.mpr c7
      subst c7
      replace H := ifn Bool.false_ne_true H
      have H' := Aside0.mk H
      clear H
      go_wp2_with (first | (go_at_call 14; (with_reducible refine (spec_EncOk.calls k a0 a1 false _ A6.out).mono ?_); rintro e w' ⟨rfl, ⟨nd, rfl⟩⟩; (try first | exact ⟨rfl, _, World.drewN_drewN _ _ _⟩ | exact ⟨rfl, _, Eq.trans (World.drewN_drewN _ _ _) (congrArg (World.drewN _) (Nat.add_assoc _ _ _))⟩)))
      repeat (go_quiet (first | (go_at_call 14; (with_reducible refine (spec_EncOk.calls k a0 a1 false _ A6.out).mono ?_); rintro e w' ⟨rfl, ⟨nd, rfl⟩⟩; (try first | exact ⟨rfl, _, World.drewN_drewN _ _ _⟩ | exact ⟨rfl, _, Eq.trans (World.drewN_drewN _ _ _) (congrArg (World.drewN _) (Nat.add_assoc _ _ _))⟩))); try go_wp2_with (first | (go_at_call 14; (with_reducible refine (spec_EncOk.calls k a0 a1 false _ A6.out).mono ?_); rintro e w' ⟨rfl, ⟨nd, rfl⟩⟩; (try first | exact ⟨rfl, _, World.drewN_drewN _ _ _⟩ | exact ⟨rfl, _, Eq.trans (World.drewN_drewN _ _ _) (congrArg (World.drewN _) (Nat.add_assoc _ _ _))⟩))))
      go_meet
      case rel => exact ⟨_, (true), sr, H', ⟨by first | omega | exact Nat.le_refl _⟩, ⟨below_later HB.out⟩⟩
  case rest =>
    clear HC5
    try clear c2
    try clear c3
    obtain ⟨kq, x24_4, rfl, HA, HJ4, HB⟩ := hcut
    cases kq with
    | zero => exact absurd HA.out (by simp [spec_EncPack.j0])
    | succ kj4 =>
      have H := HA.out
      clear HA
      simp only [spec_EncPack.j0] at H
      by_cases c10 : x24_4 = true
      · subst c10
        replace H := ifp rfl H
        obtain ⟨y458, hy458⟩ : ∃ y_ : List Int, y_ = (([] : List Int)) := ⟨_, rfl⟩
        replace H : (some (y458, false)) = some (r1, r2) := by first | (rw [hy458]; with_reducible exact H) | (rw [hy458]; exact H) | exact H
        have Ny458 := Aside0.mk hy458
        clear hy458
        simp only [Option.some.injEq, Prod.mk.injEq] at H
        obtain ⟨rfl, rfl⟩ := H
        go_wp2_with (first | ((with_reducible refine gate_dst (N := 25) rfl ?_); refine Kd.R_lit (Kd.int .u8) _ 5 ?hg (N := 25) ?hd (xs := ([] : List Int)) (inner := []) (ok := fun _ => True) (okp := fun _ => True) ?hr ?hp (fun _ hk => hk) trivial (Below.refl _ _) (Nat.le_refl _) (by simp) ?_; (case hd => rfl); (case hg => rfl); (case hr => first | (go_simp; done) | (go_simp; rfl)); (case hp => exact (Reps.none _ _)); intro v459 w11 ho12 hb hg_ hnew_; clear hg_ hnew_; (first | rw [← Ny458.out] at ho12 | (simp only [Int.reduceToNat] at ho12; rw [← Ny458.out] at ho12)); have HO460 := Aside0.mk (Kd.R_lower ho12 (below_size (below_later HB.out))); replace HB := bst HB hb; clear hb ho12))
        repeat (go_quiet (first | ((with_reducible refine gate_dst (N := 25) rfl ?_); refine Kd.R_lit (Kd.int .u8) _ 5 ?hg (N := 25) ?hd (xs := ([] : List Int)) (inner := []) (ok := fun _ => True) (okp := fun _ => True) ?hr ?hp (fun _ hk => hk) trivial (Below.refl _ _) (Nat.le_refl _) (by simp) ?_; (case hd => rfl); (case hg => rfl); (case hr => first | (go_simp; done) | (go_simp; rfl)); (case hp => exact (Reps.none _ _)); intro v459 w11 ho12 hb hg_ hnew_; clear hg_ hnew_; (first | rw [← Ny458.out] at ho12 | (simp only [Int.reduceToNat] at ho12; rw [← Ny458.out] at ho12)); have HO460 := Aside0.mk (Kd.R_lower ho12 (below_size (below_later HB.out))); replace HB := bst HB hb; clear hb ho12)); try go_wp2_with (first | ((with_reducible refine gate_dst (N := 25) rfl ?_); refine Kd.R_lit (Kd.int .u8) _ 5 ?hg (N := 25) ?hd (xs := ([] : List Int)) (inner := []) (ok := fun _ => True) (okp := fun _ => True) ?hr ?hp (fun _ hk => hk) trivial (Below.refl _ _) (Nat.le_refl _) (by simp) ?_; (case hd => rfl); (case hg => rfl); (case hr => first | (go_simp; done) | (go_simp; rfl)); (case hp => exact (Reps.none _ _)); intro v459 w11 ho12 hb hg_ hnew_; clear hg_ hnew_; (first | rw [← Ny458.out] at ho12 | (simp only [Int.reduceToNat] at ho12; rw [← Ny458.out] at ho12)); have HO460 := Aside0.mk (Kd.R_lower ho12 (below_size (below_later HB.out))); replace HB := bst HB hb; clear hb ho12)))
        go_ret2
        exact ⟨_, by first | rfl | (simp [errW_none, errW_some] <;> rfl) | (simp [*, errW_none, errW_some] <;> rfl), by (with_reducible repeat (first | apply Kd.R_alloc | apply Kd.R_drewN | apply Kd.R_drew)); exact HO460.out, below_later HB.out⟩
      · replace c10 := Bool.eq_false_iff.mpr c10
        subst c10
        replace H := ifn Bool.false_ne_true H
        by_cases c13 : a0 = 0
        · rw [if_pos c13] at H
          have c13b0 : (a0 == 0) = true := beq_iff_eq.mpr c13
          have c13b1 : (a0 != 0) = false := bne_eq_false_iff_eq.mpr c13
          clear c13
          replace H := Option.bind_eq_some_iff.mp H
          obtain ⟨⟨t461, t462⟩, A140, H⟩ := H
          replace H : (some (t461, t462)) = some (r1, r2) := H
          have A14 := Aside0.mk A140
          clear A140
          simp only [Option.some.injEq, Prod.mk.injEq] at H
          obtain ⟨rfl, rfl⟩ := H
          go_wp2_with (first | (go_at_call 16; (with_reducible refine (spec_PlainPack.calls kj4 a1 _ _ l2 t461 t462 _ ?side1 ?side2 A14.out).mono ?_); (case side1 => repeat (first | exact (Kd.C_below HR2.out HB.out) | (with_reducible refine Kd.C_alloc ?_ _) | (with_reducible refine Kd.C_drewN ?_ _) | (with_reducible refine Kd.C_drew ?_))); (case side2 => exact HC2.out); rintro e w15 ⟨v463, rfl, ho0, hb⟩; have HO464 := Aside0.mk (Kd.R_lower ho0 (below_size (below_later HB.out))); replace HB := bst HB hb; (try clear hb); (try clear ho0)))
          repeat (go_quiet (first | (go_at_call 16; (with_reducible refine (spec_PlainPack.calls kj4 a1 _ _ l2 t461 t462 _ ?side1 ?side2 A14.out).mono ?_); (case side1 => repeat (first | exact (Kd.C_below HR2.out HB.out) | (with_reducible refine Kd.C_alloc ?_ _) | (with_reducible refine Kd.C_drewN ?_ _) | (with_reducible refine Kd.C_drew ?_))); (case side2 => exact HC2.out); rintro e w15 ⟨v463, rfl, ho0, hb⟩; have HO464 := Aside0.mk (Kd.R_lower ho0 (below_size (below_later HB.out))); replace HB := bst HB hb; (try clear hb); (try clear ho0))); try go_wp2_with (first | (go_at_call 16; (with_reducible refine (spec_PlainPack.calls kj4 a1 _ _ l2 t461 t462 _ ?side1 ?side2 A14.out).mono ?_); (case side1 => repeat (first | exact (Kd.C_below HR2.out HB.out) | (with_reducible refine Kd.C_alloc ?_ _) | (with_reducible refine Kd.C_drewN ?_ _) | (with_reducible refine Kd.C_drew ?_))); (case side2 => exact HC2.out); rintro e w15 ⟨v463, rfl, ho0, hb⟩; have HO464 := Aside0.mk (Kd.R_lower ho0 (below_size (below_later HB.out))); replace HB := bst HB hb; (try clear hb); (try clear ho0))))
          go_ret2
          exact ⟨_, by first | rfl | (simp [errW_none, errW_some] <;> rfl) | (simp [*, errW_none, errW_some] <;> rfl), by (with_reducible repeat (first | apply Kd.R_alloc | apply Kd.R_drewN | apply Kd.R_drew)); exact HO464.out, below_later HB.out⟩
        · rw [if_neg c13] at H
          have c13b0 : (a0 == 0) = false := beq_eq_false_iff_ne.mpr c13
          have c13b1 : (a0 != 0) = true := bne_iff_ne.mpr c13
          by_cases c16 : a0 = 3
          · rw [if_pos c16] at H
            have c16b0 : (a0 == 3) = true := beq_iff_eq.mpr c16
            have c16b1 : (a0 != 3) = false := bne_eq_false_iff_eq.mpr c16
            clear c16
            replace H := bnd H
            obtain ⟨t465, A17, H⟩ := H
            replace H := Option.bind_eq_some_iff.mp H
            obtain ⟨⟨t468, t469⟩, A180, H⟩ := H
            replace H : (if t469 = true then ((spec_WordPut.f kj4 (t468.length : Int) 4).bind fun t472 => (if t472.length + t468.length < 140737488355328 then (some ((t472 ++ t468), true)) else (none))) else (some ((([] : List Int)), false))) = some (r1, r2) := H
            have A18 := Aside0.mk A180
            clear A180
            by_cases c19 : t469 = true
            · subst c19
              replace H := ifp rfl H
              replace H := bnd H
              obtain ⟨t472, A20, H⟩ := H
              replace H := ifs H
              obtain ⟨c21, H⟩ := H
              have LMc21 := Aside0.mk c21
              clear c21
              obtain ⟨y475, hy475⟩ : ∃ y_ : List Int, y_ = (t472 ++ t468) := ⟨_, rfl⟩
              replace H : (some (y475, true)) = some (r1, r2) := by first | (rw [hy475]; with_reducible exact H) | (rw [hy475]; exact H) | exact H
              have Ny475 := Aside0.mk hy475
              clear hy475
              simp only [Option.some.injEq, Prod.mk.injEq] at H
              obtain ⟨rfl, rfl⟩ := H
              go_wp2_with (first | (go_at_call 18; (with_reducible refine (spec_l16Nums.calls kj4 _ _ l2 t465 _ ?side1 ?side2 A17.out).mono ?_); (case side1 => repeat (first | exact (Kd.C_below HR2.out HB.out) | (with_reducible refine Kd.C_alloc ?_ _) | (with_reducible refine Kd.C_drewN ?_ _) | (with_reducible refine Kd.C_drew ?_))); (case side2 => exact HC2.out); rintro e w22 ⟨v466, rfl, ho0, hb⟩; have HO467 := Aside0.mk (Kd.R_lower ho0 (below_size (below_later HB.out))); replace HB := bst HB hb; (try clear hb); (try clear hk); (try clear ho0); obtain ⟨Ao23, co23, eo23⟩ := Kd.R_slice HO467.out; subst eo23) | (go_at_call 17; (with_reducible refine (spec_RunPack.calls kj4 _ _ t465 1 t468 true _ ?side1 ?side2 A18.out).mono ?_); (case side1 => repeat (first | exact (Kd.R_reads' HO467.out).2.2 | (with_reducible refine Kd.C_alloc ?_ _) | (with_reducible refine Kd.C_drewN ?_ _) | (with_reducible refine Kd.C_drew ?_))); (case side2 => exact (Kd.R_reads' HO467.out).2.1); rintro e w24 ⟨v470, rfl, ho0, hb⟩; have HO471 := Aside0.mk (Kd.R_lower ho0 (below_size (below_later HB.out))); replace HO467 := Aside0.mk (Kd.R_below (R_later HO467.out) hb); replace HB := bst HB hb; (try clear hb); (try clear hk); (try clear ho0); obtain ⟨Ao25, co25, eo25⟩ := Kd.R_slice HO471.out; subst eo25) | (go_at_call 19; (with_reducible refine (spec_WordPut.calls kj4 (t468.length : Int) 4 t472 _ A20.out).mono ?_); rintro e w26 ⟨v473, rfl, ho0, hb⟩; have HO474 := Aside0.mk (Kd.R_lower (Kd.R_new' ho0 (Kd.R_lt (R_later HO471.out))) (below_size (below_later HB.out))); replace HO467 := Aside0.mk (Kd.R_below (R_later HO467.out) hb); replace HO471 := Aside0.mk (Kd.R_elder' (R_later HO471.out) (Kd.R_base ho0) hb); replace HB := bst HB hb; (try clear hb); (try clear hk); (try clear ho0)) | ((with_reducible refine gate_builtin (b := .append) (xs := #[.tmp 47, .tmp 48]) rfl ?_); at_builtin; refine Kd.R_append_rows (Kd.int .u8) (w0 := w) w.heap.size rfl (.tmp 47) (.tmp 48) 24 5 (.int .u8 0) 1 rfl Try.underlying24 info5 rfl (by decide) (by omega) v473 t472 t468 _ _ _ (fun k_ => some k_ ≠ (.slice Ao25 t468.length co25 : Value).ownBlock) (fun _ => False) rfl rfl ?aO ?aR (fun _ _ h => h) (fun _ h => h.elim) ?aF ?aB ?aS ?aL ?_; (case aR => repeat (first | exact (Kd.R_reads' HO471.out).2.2 | (with_reducible refine Kd.C_alloc ?_ _) | (with_reducible refine Kd.C_drewN ?_ _) | (with_reducible refine Kd.C_drew ?_))); (case aB => exact (below_later HB.out)); (case aF => exact (fun k_ hk => Kd.fresh' (Kd.R_lt (R_later HO471.out)) k_ hk)); (case aO => exact (by (with_reducible repeat (first | apply Kd.R_alloc | apply Kd.R_drewN | apply Kd.R_drew)); exact Kd.R_mono HO474.out (fun _ hk => hk.2))); (case aS => exact (below_size (below_later HB.out))); (case aL => have := LMc21.out; omega); intro v476 w27 ho hb hg hat; rw [← Ny475.out] at ho; have n0_ := Aside0.mk (Kd.R_over' (R_later HO467.out) (Kd.R_typed (R_later HO474.out)) (by decide) hg); have n1_ := Aside0.mk (Kd.R_after (ok := (fun _ => True)) (R_later HO471.out) hg hat); have n2_ := Aside0.mk (hb); have n3_ := Aside0.mk (ho); clear HO467; clear HO471; clear HB; clear HO474; have HO467 := n0_; have HO471 := n1_; have HB := n2_; have HO477 := n3_; clear n0_ n1_ n2_ n3_; clear ho hb hg hat))
              repeat (go_quiet (first | (go_at_call 18; (with_reducible refine (spec_l16Nums.calls kj4 _ _ l2 t465 _ ?side1 ?side2 A17.out).mono ?_); (case side1 => repeat (first | exact (Kd.C_below HR2.out HB.out) | (with_reducible refine Kd.C_alloc ?_ _) | (with_reducible refine Kd.C_drewN ?_ _) | (with_reducible refine Kd.C_drew ?_))); (case side2 => exact HC2.out); rintro e w22 ⟨v466, rfl, ho0, hb⟩; have HO467 := Aside0.mk (Kd.R_lower ho0 (below_size (below_later HB.out))); replace HB := bst HB hb; (try clear hb); (try clear hk); (try clear ho0); obtain ⟨Ao23, co23, eo23⟩ := Kd.R_slice HO467.out; subst eo23) | (go_at_call 17; (with_reducible refine (spec_RunPack.calls kj4 _ _ t465 1 t468 true _ ?side1 ?side2 A18.out).mono ?_); (case side1 => repeat (first | exact (Kd.R_reads' HO467.out).2.2 | (with_reducible refine Kd.C_alloc ?_ _) | (with_reducible refine Kd.C_drewN ?_ _) | (with_reducible refine Kd.C_drew ?_))); (case side2 => exact (Kd.R_reads' HO467.out).2.1); rintro e w24 ⟨v470, rfl, ho0, hb⟩; have HO471 := Aside0.mk (Kd.R_lower ho0 (below_size (below_later HB.out))); replace HO467 := Aside0.mk (Kd.R_below (R_later HO467.out) hb); replace HB := bst HB hb; (try clear hb); (try clear hk); (try clear ho0); obtain ⟨Ao25, co25, eo25⟩ := Kd.R_slice HO471.out; subst eo25) | (go_at_call 19; (with_reducible refine (spec_WordPut.calls kj4 (t468.length : Int) 4 t472 _ A20.out).mono ?_); rintro e w26 ⟨v473, rfl, ho0, hb⟩; have HO474 := Aside0.mk (Kd.R_lower (Kd.R_new' ho0 (Kd.R_lt (R_later HO471.out))) (below_size (below_later HB.out))); replace HO467 := Aside0.mk (Kd.R_below (R_later HO467.out) hb); replace HO471 := Aside0.mk (Kd.R_elder' (R_later HO471.out) (Kd.R_base ho0) hb); replace HB := bst HB hb; (try clear hb); (try clear hk); (try clear ho0)) | ((with_reducible refine gate_builtin (b := .append) (xs := #[.tmp 47, .tmp 48]) rfl ?_); at_builtin; refine Kd.R_append_rows (Kd.int .u8) (w0 := w) w.heap.size rfl (.tmp 47) (.tmp 48) 24 5 (.int .u8 0) 1 rfl Try.underlying24 info5 rfl (by decide) (by omega) v473 t472 t468 _ _ _ (fun k_ => some k_ ≠ (.slice Ao25 t468.length co25 : Value).ownBlock) (fun _ => False) rfl rfl ?aO ?aR (fun _ _ h => h) (fun _ h => h.elim) ?aF ?aB ?aS ?aL ?_; (case aR => repeat (first | exact (Kd.R_reads' HO471.out).2.2 | (with_reducible refine Kd.C_alloc ?_ _) | (with_reducible refine Kd.C_drewN ?_ _) | (with_reducible refine Kd.C_drew ?_))); (case aB => exact (below_later HB.out)); (case aF => exact (fun k_ hk => Kd.fresh' (Kd.R_lt (R_later HO471.out)) k_ hk)); (case aO => exact (by (with_reducible repeat (first | apply Kd.R_alloc | apply Kd.R_drewN | apply Kd.R_drew)); exact Kd.R_mono HO474.out (fun _ hk => hk.2))); (case aS => exact (below_size (below_later HB.out))); (case aL => have := LMc21.out; omega); intro v476 w27 ho hb hg hat; rw [← Ny475.out] at ho; have n0_ := Aside0.mk (Kd.R_over' (R_later HO467.out) (Kd.R_typed (R_later HO474.out)) (by decide) hg); have n1_ := Aside0.mk (Kd.R_after (ok := (fun _ => True)) (R_later HO471.out) hg hat); have n2_ := Aside0.mk (hb); have n3_ := Aside0.mk (ho); clear HO467; clear HO471; clear HB; clear HO474; have HO467 := n0_; have HO471 := n1_; have HB := n2_; have HO477 := n3_; clear n0_ n1_ n2_ n3_; clear ho hb hg hat)); try go_wp2_with (first | (go_at_call 18; (with_reducible refine (spec_l16Nums.calls kj4 _ _ l2 t465 _ ?side1 ?side2 A17.out).mono ?_); (case side1 => repeat (first | exact (Kd.C_below HR2.out HB.out) | (with_reducible refine Kd.C_alloc ?_ _) | (with_reducible refine Kd.C_drewN ?_ _) | (with_reducible refine Kd.C_drew ?_))); (case side2 => exact HC2.out); rintro e w22 ⟨v466, rfl, ho0, hb⟩; have HO467 := Aside0.mk (Kd.R_lower ho0 (below_size (below_later HB.out))); replace HB := bst HB hb; (try clear hb); (try clear hk); (try clear ho0); obtain ⟨Ao23, co23, eo23⟩ := Kd.R_slice HO467.out; subst eo23) | (go_at_call 17; (with_reducible refine (spec_RunPack.calls kj4 _ _ t465 1 t468 true _ ?side1 ?side2 A18.out).mono ?_); (case side1 => repeat (first | exact (Kd.R_reads' HO467.out).2.2 | (with_reducible refine Kd.C_alloc ?_ _) | (with_reducible refine Kd.C_drewN ?_ _) | (with_reducible refine Kd.C_drew ?_))); (case side2 => exact (Kd.R_reads' HO467.out).2.1); rintro e w24 ⟨v470, rfl, ho0, hb⟩; have HO471 := Aside0.mk (Kd.R_lower ho0 (below_size (below_later HB.out))); replace HO467 := Aside0.mk (Kd.R_below (R_later HO467.out) hb); replace HB := bst HB hb; (try clear hb); (try clear hk); (try clear ho0); obtain ⟨Ao25, co25, eo25⟩ := Kd.R_slice HO471.out; subst eo25) | (go_at_call 19; (with_reducible refine (spec_WordPut.calls kj4 (t468.length : Int) 4 t472 _ A20.out).mono ?_); rintro e w26 ⟨v473, rfl, ho0, hb⟩; have HO474 := Aside0.mk (Kd.R_lower (Kd.R_new' ho0 (Kd.R_lt (R_later HO471.out))) (below_size (below_later HB.out))); replace HO467 := Aside0.mk (Kd.R_below (R_later HO467.out) hb); replace HO471 := Aside0.mk (Kd.R_elder' (R_later HO471.out) (Kd.R_base ho0) hb); replace HB := bst HB hb; (try clear hb); (try clear hk); (try clear ho0)) | ((with_reducible refine gate_builtin (b := .append) (xs := #[.tmp 47, .tmp 48]) rfl ?_); at_builtin; refine Kd.R_append_rows (Kd.int .u8) (w0 := w) w.heap.size rfl (.tmp 47) (.tmp 48) 24 5 (.int .u8 0) 1 rfl Try.underlying24 info5 rfl (by decide) (by omega) v473 t472 t468 _ _ _ (fun k_ => some k_ ≠ (.slice Ao25 t468.length co25 : Value).ownBlock) (fun _ => False) rfl rfl ?aO ?aR (fun _ _ h => h) (fun _ h => h.elim) ?aF ?aB ?aS ?aL ?_; (case aR => repeat (first | exact (Kd.R_reads' HO471.out).2.2 | (with_reducible refine Kd.C_alloc ?_ _) | (with_reducible refine Kd.C_drewN ?_ _) | (with_reducible refine Kd.C_drew ?_))); (case aB => exact (below_later HB.out)); (case aF => exact (fun k_ hk => Kd.fresh' (Kd.R_lt (R_later HO471.out)) k_ hk)); (case aO => exact (by (with_reducible repeat (first | apply Kd.R_alloc | apply Kd.R_drewN | apply Kd.R_drew)); exact Kd.R_mono HO474.out (fun _ hk => hk.2))); (case aS => exact (below_size (below_later HB.out))); (case aL => have := LMc21.out; omega); intro v476 w27 ho hb hg hat; rw [← Ny475.out] at ho; have n0_ := Aside0.mk (Kd.R_over' (R_later HO467.out) (Kd.R_typed (R_later HO474.out)) (by decide) hg); have n1_ := Aside0.mk (Kd.R_after (ok := (fun _ => True)) (R_later HO471.out) hg hat); have n2_ := Aside0.mk (hb); have n3_ := Aside0.mk (ho); clear HO467; clear HO471; clear HB; clear HO474; have HO467 := n0_; have HO471 := n1_; have HB := n2_; have HO477 := n3_; clear n0_ n1_ n2_ n3_; clear ho hb hg hat)))
              go_ret2
              exact ⟨_, by first | rfl | (simp [errW_none, errW_some] <;> rfl) | (simp [*, errW_none, errW_some] <;> rfl), by (with_reducible repeat (first | apply Kd.R_alloc | apply Kd.R_drewN | apply Kd.R_drew)); exact Kd.R_mono HO477.out (fun _ hk => trivial), below_later HB.out⟩
            · replace c19 := Bool.eq_false_iff.mpr c19
              subst c19
              replace H := ifn Bool.false_ne_true H
              obtain ⟨y478, hy478⟩ : ∃ y_ : List Int, y_ = (([] : List Int)) := ⟨_, rfl⟩
              replace H : (some (y478, false)) = some (r1, r2) := by first | (rw [hy478]; with_reducible exact H) | (rw [hy478]; exact H) | exact H
              have Ny478 := Aside0.mk hy478
              clear hy478
              simp only [Option.some.injEq, Prod.mk.injEq] at H
              obtain ⟨rfl, rfl⟩ := H
              go_wp2_with (first | (go_at_call 18; (with_reducible refine (spec_l16Nums.calls kj4 _ _ l2 t465 _ ?side1 ?side2 A17.out).mono ?_); (case side1 => repeat (first | exact (Kd.C_below HR2.out HB.out) | (with_reducible refine Kd.C_alloc ?_ _) | (with_reducible refine Kd.C_drewN ?_ _) | (with_reducible refine Kd.C_drew ?_))); (case side2 => exact HC2.out); rintro e w28 ⟨v466, rfl, ho0, hb⟩; have HO467 := Aside0.mk (Kd.R_lower ho0 (below_size (below_later HB.out))); replace HB := bst HB hb; (try clear hb); (try clear hk); (try clear ho0); obtain ⟨Ao29, co29, eo29⟩ := Kd.R_slice HO467.out; subst eo29) | (go_at_call 17; (with_reducible refine (spec_RunPack.calls kj4 _ _ t465 1 t468 false _ ?side1 ?side2 A18.out).mono ?_); (case side1 => repeat (first | exact (Kd.R_reads' HO467.out).2.2 | (with_reducible refine Kd.C_alloc ?_ _) | (with_reducible refine Kd.C_drewN ?_ _) | (with_reducible refine Kd.C_drew ?_))); (case side2 => exact (Kd.R_reads' HO467.out).2.1); rintro e w30 ⟨v470, rfl, ho0, hb⟩; have HO471 := Aside0.mk (Kd.R_lower ho0 (below_size (below_later HB.out))); replace HO467 := Aside0.mk (Kd.R_below (R_later HO467.out) hb); replace HB := bst HB hb; (try clear hb); (try clear hk); (try clear ho0)) | ((with_reducible refine gate_dst (N := 44) rfl ?_); refine Kd.R_lit (Kd.int .u8) _ 5 ?hg (N := 44) ?hd (xs := ([] : List Int)) (inner := []) (ok := fun _ => True) (okp := fun _ => True) ?hr ?hp (fun _ hk => hk) trivial (Below.refl _ _) (Nat.le_refl _) (by simp) ?_; (case hd => rfl); (case hg => rfl); (case hr => first | (go_simp; done) | (go_simp; rfl)); (case hp => exact (Reps.none _ _)); intro v479 w31 ho32 hb hg_ hnew_; clear hg_ hnew_; (first | rw [← Ny478.out] at ho32 | (simp only [Int.reduceToNat] at ho32; rw [← Ny478.out] at ho32)); have HO480 := Aside0.mk (Kd.R_lower (Kd.R_new' ho32 (Kd.R_lt (R_later HO471.out))) (below_size (below_later HB.out))); replace HO467 := Aside0.mk (Kd.R_below (R_later HO467.out) hb); replace HO471 := Aside0.mk (Kd.R_elder' (R_later HO471.out) (Kd.R_base ho32) hb); replace HB := bst HB hb; clear hb ho32))
              repeat (go_quiet (first | (go_at_call 18; (with_reducible refine (spec_l16Nums.calls kj4 _ _ l2 t465 _ ?side1 ?side2 A17.out).mono ?_); (case side1 => repeat (first | exact (Kd.C_below HR2.out HB.out) | (with_reducible refine Kd.C_alloc ?_ _) | (with_reducible refine Kd.C_drewN ?_ _) | (with_reducible refine Kd.C_drew ?_))); (case side2 => exact HC2.out); rintro e w28 ⟨v466, rfl, ho0, hb⟩; have HO467 := Aside0.mk (Kd.R_lower ho0 (below_size (below_later HB.out))); replace HB := bst HB hb; (try clear hb); (try clear hk); (try clear ho0); obtain ⟨Ao29, co29, eo29⟩ := Kd.R_slice HO467.out; subst eo29) | (go_at_call 17; (with_reducible refine (spec_RunPack.calls kj4 _ _ t465 1 t468 false _ ?side1 ?side2 A18.out).mono ?_); (case side1 => repeat (first | exact (Kd.R_reads' HO467.out).2.2 | (with_reducible refine Kd.C_alloc ?_ _) | (with_reducible refine Kd.C_drewN ?_ _) | (with_reducible refine Kd.C_drew ?_))); (case side2 => exact (Kd.R_reads' HO467.out).2.1); rintro e w30 ⟨v470, rfl, ho0, hb⟩; have HO471 := Aside0.mk (Kd.R_lower ho0 (below_size (below_later HB.out))); replace HO467 := Aside0.mk (Kd.R_below (R_later HO467.out) hb); replace HB := bst HB hb; (try clear hb); (try clear hk); (try clear ho0)) | ((with_reducible refine gate_dst (N := 44) rfl ?_); refine Kd.R_lit (Kd.int .u8) _ 5 ?hg (N := 44) ?hd (xs := ([] : List Int)) (inner := []) (ok := fun _ => True) (okp := fun _ => True) ?hr ?hp (fun _ hk => hk) trivial (Below.refl _ _) (Nat.le_refl _) (by simp) ?_; (case hd => rfl); (case hg => rfl); (case hr => first | (go_simp; done) | (go_simp; rfl)); (case hp => exact (Reps.none _ _)); intro v479 w31 ho32 hb hg_ hnew_; clear hg_ hnew_; (first | rw [← Ny478.out] at ho32 | (simp only [Int.reduceToNat] at ho32; rw [← Ny478.out] at ho32)); have HO480 := Aside0.mk (Kd.R_lower (Kd.R_new' ho32 (Kd.R_lt (R_later HO471.out))) (below_size (below_later HB.out))); replace HO467 := Aside0.mk (Kd.R_below (R_later HO467.out) hb); replace HO471 := Aside0.mk (Kd.R_elder' (R_later HO471.out) (Kd.R_base ho32) hb); replace HB := bst HB hb; clear hb ho32)); try go_wp2_with (first | (go_at_call 18; (with_reducible refine (spec_l16Nums.calls kj4 _ _ l2 t465 _ ?side1 ?side2 A17.out).mono ?_); (case side1 => repeat (first | exact (Kd.C_below HR2.out HB.out) | (with_reducible refine Kd.C_alloc ?_ _) | (with_reducible refine Kd.C_drewN ?_ _) | (with_reducible refine Kd.C_drew ?_))); (case side2 => exact HC2.out); rintro e w28 ⟨v466, rfl, ho0, hb⟩; have HO467 := Aside0.mk (Kd.R_lower ho0 (below_size (below_later HB.out))); replace HB := bst HB hb; (try clear hb); (try clear hk); (try clear ho0); obtain ⟨Ao29, co29, eo29⟩ := Kd.R_slice HO467.out; subst eo29) | (go_at_call 17; (with_reducible refine (spec_RunPack.calls kj4 _ _ t465 1 t468 false _ ?side1 ?side2 A18.out).mono ?_); (case side1 => repeat (first | exact (Kd.R_reads' HO467.out).2.2 | (with_reducible refine Kd.C_alloc ?_ _) | (with_reducible refine Kd.C_drewN ?_ _) | (with_reducible refine Kd.C_drew ?_))); (case side2 => exact (Kd.R_reads' HO467.out).2.1); rintro e w30 ⟨v470, rfl, ho0, hb⟩; have HO471 := Aside0.mk (Kd.R_lower ho0 (below_size (below_later HB.out))); replace HO467 := Aside0.mk (Kd.R_below (R_later HO467.out) hb); replace HB := bst HB hb; (try clear hb); (try clear hk); (try clear ho0)) | ((with_reducible refine gate_dst (N := 44) rfl ?_); refine Kd.R_lit (Kd.int .u8) _ 5 ?hg (N := 44) ?hd (xs := ([] : List Int)) (inner := []) (ok := fun _ => True) (okp := fun _ => True) ?hr ?hp (fun _ hk => hk) trivial (Below.refl _ _) (Nat.le_refl _) (by simp) ?_; (case hd => rfl); (case hg => rfl); (case hr => first | (go_simp; done) | (go_simp; rfl)); (case hp => exact (Reps.none _ _)); intro v479 w31 ho32 hb hg_ hnew_; clear hg_ hnew_; (first | rw [← Ny478.out] at ho32 | (simp only [Int.reduceToNat] at ho32; rw [← Ny478.out] at ho32)); have HO480 := Aside0.mk (Kd.R_lower (Kd.R_new' ho32 (Kd.R_lt (R_later HO471.out))) (below_size (below_later HB.out))); replace HO467 := Aside0.mk (Kd.R_below (R_later HO467.out) hb); replace HO471 := Aside0.mk (Kd.R_elder' (R_later HO471.out) (Kd.R_base ho32) hb); replace HB := bst HB hb; clear hb ho32)))
              go_ret2
              exact ⟨_, by first | rfl | (simp [errW_none, errW_some] <;> rfl) | (simp [*, errW_none, errW_some] <;> rfl), by (with_reducible repeat (first | apply Kd.R_alloc | apply Kd.R_drewN | apply Kd.R_drew)); exact Kd.R_mono HO480.out (fun _ hk => trivial), below_later HB.out⟩
          · rw [if_neg c16] at H
            have c16b0 : (a0 == 3) = false := beq_eq_false_iff_ne.mpr c16
            have c16b1 : (a0 != 3) = true := bne_iff_ne.mpr c16
            by_cases c33 : a0 = 5
            · rw [if_pos c33] at H
              have c33b0 : (a0 == 5) = true := beq_iff_eq.mpr c33
              have c33b1 : (a0 != 5) = false := bne_eq_false_iff_eq.mpr c33
              clear c33
              replace H := bnd H
              obtain ⟨t481, A34, H⟩ := H
              replace H := Option.bind_eq_some_iff.mp H
              obtain ⟨⟨t484, t485⟩, A350, H⟩ := H
              replace H : (some (t484, t485)) = some (r1, r2) := H
              have A35 := Aside0.mk A350
              clear A350
              simp only [Option.some.injEq, Prod.mk.injEq] at H
              obtain ⟨rfl, rfl⟩ := H
              go_wp2_with (first | (go_at_call 18; (with_reducible refine (spec_l16Nums.calls kj4 _ _ l2 t481 _ ?side1 ?side2 A34.out).mono ?_); (case side1 => repeat (first | exact (Kd.C_below HR2.out HB.out) | (with_reducible refine Kd.C_alloc ?_ _) | (with_reducible refine Kd.C_drewN ?_ _) | (with_reducible refine Kd.C_drew ?_))); (case side2 => exact HC2.out); rintro e w36 ⟨v482, rfl, ho0, hb⟩; have HO483 := Aside0.mk (Kd.R_lower ho0 (below_size (below_later HB.out))); replace HB := bst HB hb; (try clear hb); (try clear ho0); obtain ⟨Ao37, co37, eo37⟩ := Kd.R_slice HO483.out; subst eo37) | (go_at_call 20; (with_reducible refine (spec_DeltaPack.calls kj4 _ _ t481 t484 t485 _ ?side1 ?side2 A35.out).mono ?_); (case side1 => repeat (first | exact (Kd.R_reads' HO483.out).2.2 | (with_reducible refine Kd.C_alloc ?_ _) | (with_reducible refine Kd.C_drewN ?_ _) | (with_reducible refine Kd.C_drew ?_))); (case side2 => exact (Kd.R_reads' HO483.out).2.1); rintro e w38 ⟨v486, rfl, ho0, hb⟩; have HO487 := Aside0.mk (Kd.R_lower ho0 (below_size (below_later HB.out))); replace HO483 := Aside0.mk (Kd.R_below (R_later HO483.out) hb); replace HB := bst HB hb; (try clear hb); (try clear ho0)))
              repeat (go_quiet (first | (go_at_call 18; (with_reducible refine (spec_l16Nums.calls kj4 _ _ l2 t481 _ ?side1 ?side2 A34.out).mono ?_); (case side1 => repeat (first | exact (Kd.C_below HR2.out HB.out) | (with_reducible refine Kd.C_alloc ?_ _) | (with_reducible refine Kd.C_drewN ?_ _) | (with_reducible refine Kd.C_drew ?_))); (case side2 => exact HC2.out); rintro e w36 ⟨v482, rfl, ho0, hb⟩; have HO483 := Aside0.mk (Kd.R_lower ho0 (below_size (below_later HB.out))); replace HB := bst HB hb; (try clear hb); (try clear ho0); obtain ⟨Ao37, co37, eo37⟩ := Kd.R_slice HO483.out; subst eo37) | (go_at_call 20; (with_reducible refine (spec_DeltaPack.calls kj4 _ _ t481 t484 t485 _ ?side1 ?side2 A35.out).mono ?_); (case side1 => repeat (first | exact (Kd.R_reads' HO483.out).2.2 | (with_reducible refine Kd.C_alloc ?_ _) | (with_reducible refine Kd.C_drewN ?_ _) | (with_reducible refine Kd.C_drew ?_))); (case side2 => exact (Kd.R_reads' HO483.out).2.1); rintro e w38 ⟨v486, rfl, ho0, hb⟩; have HO487 := Aside0.mk (Kd.R_lower ho0 (below_size (below_later HB.out))); replace HO483 := Aside0.mk (Kd.R_below (R_later HO483.out) hb); replace HB := bst HB hb; (try clear hb); (try clear ho0))); try go_wp2_with (first | (go_at_call 18; (with_reducible refine (spec_l16Nums.calls kj4 _ _ l2 t481 _ ?side1 ?side2 A34.out).mono ?_); (case side1 => repeat (first | exact (Kd.C_below HR2.out HB.out) | (with_reducible refine Kd.C_alloc ?_ _) | (with_reducible refine Kd.C_drewN ?_ _) | (with_reducible refine Kd.C_drew ?_))); (case side2 => exact HC2.out); rintro e w36 ⟨v482, rfl, ho0, hb⟩; have HO483 := Aside0.mk (Kd.R_lower ho0 (below_size (below_later HB.out))); replace HB := bst HB hb; (try clear hb); (try clear ho0); obtain ⟨Ao37, co37, eo37⟩ := Kd.R_slice HO483.out; subst eo37) | (go_at_call 20; (with_reducible refine (spec_DeltaPack.calls kj4 _ _ t481 t484 t485 _ ?side1 ?side2 A35.out).mono ?_); (case side1 => repeat (first | exact (Kd.R_reads' HO483.out).2.2 | (with_reducible refine Kd.C_alloc ?_ _) | (with_reducible refine Kd.C_drewN ?_ _) | (with_reducible refine Kd.C_drew ?_))); (case side2 => exact (Kd.R_reads' HO483.out).2.1); rintro e w38 ⟨v486, rfl, ho0, hb⟩; have HO487 := Aside0.mk (Kd.R_lower ho0 (below_size (below_later HB.out))); replace HO483 := Aside0.mk (Kd.R_below (R_later HO483.out) hb); replace HB := bst HB hb; (try clear hb); (try clear ho0))))
              go_ret2
              exact ⟨_, by first | rfl | (simp [errW_none, errW_some] <;> rfl) | (simp [*, errW_none, errW_some] <;> rfl), by (with_reducible repeat (first | apply Kd.R_alloc | apply Kd.R_drewN | apply Kd.R_drew)); exact HO487.out, below_later HB.out⟩
            · rw [if_neg c33] at H
              have c33b0 : (a0 == 5) = false := beq_eq_false_iff_ne.mpr c33
              have c33b1 : (a0 != 5) = true := bne_iff_ne.mpr c33
              by_cases c39 : a0 = 6
              · rw [if_pos c39] at H
                have c39b0 : (a0 == 6) = true := beq_iff_eq.mpr c39
                have c39b1 : (a0 != 6) = false := bne_eq_false_iff_eq.mpr c39
                clear c39
                replace H := Option.bind_eq_some_iff.mp H
                obtain ⟨⟨t488, t489⟩, A400, H⟩ := H
                replace H : (some (t488, t489)) = some (r1, r2) := H
                have A40 := Aside0.mk A400
                clear A400
                simp only [Option.some.injEq, Prod.mk.injEq] at H
                obtain ⟨rfl, rfl⟩ := H
                go_wp2_with (first | (go_at_call 21; (with_reducible refine (spec_LengthPack.calls kj4 _ _ l2 t488 t489 _ ?side1 ?side2 A40.out).mono ?_); (case side1 => repeat (first | exact (Kd.C_below HR2.out HB.out) | (with_reducible refine Kd.C_alloc ?_ _) | (with_reducible refine Kd.C_drewN ?_ _) | (with_reducible refine Kd.C_drew ?_))); (case side2 => exact HC2.out); rintro e w41 ⟨v490, rfl, ho0, hb⟩; have HO491 := Aside0.mk (Kd.R_lower ho0 (below_size (below_later HB.out))); replace HB := bst HB hb; (try clear hb); (try clear ho0)))
                repeat (go_quiet (first | (go_at_call 21; (with_reducible refine (spec_LengthPack.calls kj4 _ _ l2 t488 t489 _ ?side1 ?side2 A40.out).mono ?_); (case side1 => repeat (first | exact (Kd.C_below HR2.out HB.out) | (with_reducible refine Kd.C_alloc ?_ _) | (with_reducible refine Kd.C_drewN ?_ _) | (with_reducible refine Kd.C_drew ?_))); (case side2 => exact HC2.out); rintro e w41 ⟨v490, rfl, ho0, hb⟩; have HO491 := Aside0.mk (Kd.R_lower ho0 (below_size (below_later HB.out))); replace HB := bst HB hb; (try clear hb); (try clear ho0))); try go_wp2_with (first | (go_at_call 21; (with_reducible refine (spec_LengthPack.calls kj4 _ _ l2 t488 t489 _ ?side1 ?side2 A40.out).mono ?_); (case side1 => repeat (first | exact (Kd.C_below HR2.out HB.out) | (with_reducible refine Kd.C_alloc ?_ _) | (with_reducible refine Kd.C_drewN ?_ _) | (with_reducible refine Kd.C_drew ?_))); (case side2 => exact HC2.out); rintro e w41 ⟨v490, rfl, ho0, hb⟩; have HO491 := Aside0.mk (Kd.R_lower ho0 (below_size (below_later HB.out))); replace HB := bst HB hb; (try clear hb); (try clear ho0))))
                go_ret2
                exact ⟨_, by first | rfl | (simp [errW_none, errW_some] <;> rfl) | (simp [*, errW_none, errW_some] <;> rfl), by (with_reducible repeat (first | apply Kd.R_alloc | apply Kd.R_drewN | apply Kd.R_drew)); exact HO491.out, below_later HB.out⟩
              · rw [if_neg c39] at H
                have c39b0 : (a0 == 6) = false := beq_eq_false_iff_ne.mpr c39
                have c39b1 : (a0 != 6) = true := bne_iff_ne.mpr c39
                by_cases c42 : a0 = 7
                · rw [if_pos c42] at H
                  have c42b0 : (a0 == 7) = true := beq_iff_eq.mpr c42
                  have c42b1 : (a0 != 7) = false := bne_eq_false_iff_eq.mpr c42
                  clear c42
                  replace H := Option.bind_eq_some_iff.mp H
                  obtain ⟨⟨t492, t493⟩, A430, H⟩ := H
                  replace H : (some (t492, t493)) = some (r1, r2) := H
                  have A43 := Aside0.mk A430
                  clear A430
                  simp only [Option.some.injEq, Prod.mk.injEq] at H
                  obtain ⟨rfl, rfl⟩ := H
                  go_wp2_with (first | (go_at_call 22; (with_reducible refine (spec_FrontPack.calls kj4 _ _ l2 t492 t493 _ ?side1 ?side2 A43.out).mono ?_); (case side1 => repeat (first | exact (Kd.C_below HR2.out HB.out) | (with_reducible refine Kd.C_alloc ?_ _) | (with_reducible refine Kd.C_drewN ?_ _) | (with_reducible refine Kd.C_drew ?_))); (case side2 => exact HC2.out); rintro e w44 ⟨v494, rfl, ho0, hb⟩; have HO495 := Aside0.mk (Kd.R_lower ho0 (below_size (below_later HB.out))); replace HB := bst HB hb; (try clear hb); (try clear ho0)))
                  repeat (go_quiet (first | (go_at_call 22; (with_reducible refine (spec_FrontPack.calls kj4 _ _ l2 t492 t493 _ ?side1 ?side2 A43.out).mono ?_); (case side1 => repeat (first | exact (Kd.C_below HR2.out HB.out) | (with_reducible refine Kd.C_alloc ?_ _) | (with_reducible refine Kd.C_drewN ?_ _) | (with_reducible refine Kd.C_drew ?_))); (case side2 => exact HC2.out); rintro e w44 ⟨v494, rfl, ho0, hb⟩; have HO495 := Aside0.mk (Kd.R_lower ho0 (below_size (below_later HB.out))); replace HB := bst HB hb; (try clear hb); (try clear ho0))); try go_wp2_with (first | (go_at_call 22; (with_reducible refine (spec_FrontPack.calls kj4 _ _ l2 t492 t493 _ ?side1 ?side2 A43.out).mono ?_); (case side1 => repeat (first | exact (Kd.C_below HR2.out HB.out) | (with_reducible refine Kd.C_alloc ?_ _) | (with_reducible refine Kd.C_drewN ?_ _) | (with_reducible refine Kd.C_drew ?_))); (case side2 => exact HC2.out); rintro e w44 ⟨v494, rfl, ho0, hb⟩; have HO495 := Aside0.mk (Kd.R_lower ho0 (below_size (below_later HB.out))); replace HB := bst HB hb; (try clear hb); (try clear ho0))))
                  go_ret2
                  exact ⟨_, by first | rfl | (simp [errW_none, errW_some] <;> rfl) | (simp [*, errW_none, errW_some] <;> rfl), by (with_reducible repeat (first | apply Kd.R_alloc | apply Kd.R_drewN | apply Kd.R_drew)); exact HO495.out, below_later HB.out⟩
                · rw [if_neg c42] at H
                  have c42b0 : (a0 == 7) = false := beq_eq_false_iff_ne.mpr c42
                  have c42b1 : (a0 != 7) = true := bne_iff_ne.mpr c42
                  by_cases c45 : a0 = 9
                  · rw [if_pos c45] at H
                    have c45b0 : (a0 == 9) = true := beq_iff_eq.mpr c45
                    have c45b1 : (a0 != 9) = false := bne_eq_false_iff_eq.mpr c45
                    clear c45
                    replace H := Option.bind_eq_some_iff.mp H
                    obtain ⟨⟨t496, t497⟩, A460, H⟩ := H
                    replace H : (some (t496, t497)) = some (r1, r2) := H
                    have A46 := Aside0.mk A460
                    clear A460
                    simp only [Option.some.injEq, Prod.mk.injEq] at H
                    obtain ⟨rfl, rfl⟩ := H
                    go_wp2_with (first | (go_at_call 23; (with_reducible refine (spec_SplitPack.calls kj4 a1 _ _ l2 t496 t497 _ ?side1 ?side2 A46.out).mono ?_); (case side1 => repeat (first | exact (Kd.C_below HR2.out HB.out) | (with_reducible refine Kd.C_alloc ?_ _) | (with_reducible refine Kd.C_drewN ?_ _) | (with_reducible refine Kd.C_drew ?_))); (case side2 => exact HC2.out); rintro e w47 ⟨v498, rfl, ho0, hb⟩; have HO499 := Aside0.mk (Kd.R_lower ho0 (below_size (below_later HB.out))); replace HB := bst HB hb; (try clear hb); (try clear ho0)))
                    repeat (go_quiet (first | (go_at_call 23; (with_reducible refine (spec_SplitPack.calls kj4 a1 _ _ l2 t496 t497 _ ?side1 ?side2 A46.out).mono ?_); (case side1 => repeat (first | exact (Kd.C_below HR2.out HB.out) | (with_reducible refine Kd.C_alloc ?_ _) | (with_reducible refine Kd.C_drewN ?_ _) | (with_reducible refine Kd.C_drew ?_))); (case side2 => exact HC2.out); rintro e w47 ⟨v498, rfl, ho0, hb⟩; have HO499 := Aside0.mk (Kd.R_lower ho0 (below_size (below_later HB.out))); replace HB := bst HB hb; (try clear hb); (try clear ho0))); try go_wp2_with (first | (go_at_call 23; (with_reducible refine (spec_SplitPack.calls kj4 a1 _ _ l2 t496 t497 _ ?side1 ?side2 A46.out).mono ?_); (case side1 => repeat (first | exact (Kd.C_below HR2.out HB.out) | (with_reducible refine Kd.C_alloc ?_ _) | (with_reducible refine Kd.C_drewN ?_ _) | (with_reducible refine Kd.C_drew ?_))); (case side2 => exact HC2.out); rintro e w47 ⟨v498, rfl, ho0, hb⟩; have HO499 := Aside0.mk (Kd.R_lower ho0 (below_size (below_later HB.out))); replace HB := bst HB hb; (try clear hb); (try clear ho0))))
                    go_ret2
                    exact ⟨_, by first | rfl | (simp [errW_none, errW_some] <;> rfl) | (simp [*, errW_none, errW_some] <;> rfl), by (with_reducible repeat (first | apply Kd.R_alloc | apply Kd.R_drewN | apply Kd.R_drew)); exact HO499.out, below_later HB.out⟩
                  · rw [if_neg c45] at H
                    have c45b0 : (a0 == 9) = false := beq_eq_false_iff_ne.mpr c45
                    have c45b1 : (a0 != 9) = true := bne_iff_ne.mpr c45
                    obtain ⟨y500, hy500⟩ : ∃ y_ : List Int, y_ = (([] : List Int)) := ⟨_, rfl⟩
                    replace H : (spec_EncPack.l0 kj4 l2 l3 y500 0) = some (r1, r2) := by first | (rw [hy500]; with_reducible exact H) | (rw [hy500]; exact H) | exact H
                    have Ny500 := Aside0.mk hy500
                    clear hy500
                    have H' := Aside0.mk H
                    clear H
                    go_wp2_with (first | ((with_reducible refine gate_dst (N := 76) rfl ?_); refine Kd.R_lit (Kd.int .i64) _ 3 ?hg (N := 76) ?hd (xs := ([] : List Int)) (inner := []) (ok := fun _ => True) (okp := fun _ => True) ?hr ?hp (fun _ hk => hk) trivial (Below.refl _ _) (Nat.le_refl _) (by simp) ?_; (case hd => rfl); (case hg => rfl); (case hr => first | (go_simp; done) | (go_simp; rfl)); (case hp => exact (Reps.none _ _)); intro v501 w48 ho49 hb hg_ hnew_; clear hg_ hnew_; (first | rw [← Ny500.out] at ho49 | (simp only [Int.reduceToNat] at ho49; rw [← Ny500.out] at ho49)); have HO502 := Aside0.mk (Kd.R_lower ho49 (below_size (below_later HB.out))); replace HB := bst HB hb; clear hb ho49))
                    repeat (go_quiet (first | ((with_reducible refine gate_dst (N := 76) rfl ?_); refine Kd.R_lit (Kd.int .i64) _ 3 ?hg (N := 76) ?hd (xs := ([] : List Int)) (inner := []) (ok := fun _ => True) (okp := fun _ => True) ?hr ?hp (fun _ hk => hk) trivial (Below.refl _ _) (Nat.le_refl _) (by simp) ?_; (case hd => rfl); (case hg => rfl); (case hr => first | (go_simp; done) | (go_simp; rfl)); (case hp => exact (Reps.none _ _)); intro v501 w48 ho49 hb hg_ hnew_; clear hg_ hnew_; (first | rw [← Ny500.out] at ho49 | (simp only [Int.reduceToNat] at ho49; rw [← Ny500.out] at ho49)); have HO502 := Aside0.mk (Kd.R_lower ho49 (below_size (below_later HB.out))); replace HB := bst HB hb; clear hb ho49)); try go_wp2_with (first | ((with_reducible refine gate_dst (N := 76) rfl ?_); refine Kd.R_lit (Kd.int .i64) _ 3 ?hg (N := 76) ?hd (xs := ([] : List Int)) (inner := []) (ok := fun _ => True) (okp := fun _ => True) ?hr ?hp (fun _ hk => hk) trivial (Below.refl _ _) (Nat.le_refl _) (by simp) ?_; (case hd => rfl); (case hg => rfl); (case hr => first | (go_simp; done) | (go_simp; rfl)); (case hp => exact (Reps.none _ _)); intro v501 w48 ho49 hb hg_ hnew_; clear hg_ hnew_; (first | rw [← Ny500.out] at ho49 | (simp only [Int.reduceToNat] at ho49; rw [← Ny500.out] at ho49)); have HO502 := Aside0.mk (Kd.R_lower ho49 (below_size (below_later HB.out))); replace HB := bst HB hb; clear hb ho49)))
                    go_loopg [12, 13] kj4 (fun kq v12 v13 w' => ∃ (x12_2 : List Int) (x13_2 : Int), v13 = .int .i64 x13_2 ∧ Aside0 (spec_EncPack.l0 kq l2 l3 x12_2 x13_2 = some (r1, r2)) ∧ Aside0 (kq ≤ kj4) ∧ Aside0 (Kd.R (Kd.int .i64) 3 w' w.heap.size (fun _ => True) v12 x12_2) ∧ Aside0 (Below w.heap.size w w'))
                    case atStart => exact ⟨(y500), (0), sr, H', ⟨Nat.le_refl _⟩, ⟨R_later HO502.out⟩, ⟨below_later HB.out⟩⟩
                    case round =>
                      clear H'
                      try clear c2
                      try clear c3
                      try clear c10
                      try clear c13
                      try clear c13b0
                      try clear c13b1
                      try clear c16
                      try clear c16b0
                      try clear c16b1
                      try clear c33
                      try clear c33b0
                      try clear c33b1
                      try clear c39
                      try clear c39b0
                      try clear c39b1
                      try clear c42
                      try clear c42b0
                      try clear c42b1
                      try clear c45
                      try clear c45b0
                      try clear c45b1
                      obtain ⟨x12_2, x13_2, rfl, HA, HK2, HO_12, HB⟩ := hrel
                      cases gk with
                      | zero => exact absurd HA.out (by simp [spec_EncPack.l0])
                      | succ k2 =>
                        have H := HA.out
                        clear HA
                        simp only [spec_EncPack.l0] at H
                        by_cases c50 : x13_2 < (l2.length : Int)
                        · rw [if_pos c50] at H
                          have c50b0 := decide_eq_true c50
                          clear c50
                          have H' := Aside0.mk H
                          clear H
                          go_wp2
                          repeat (go_quiet (fail); try go_wp2)
                          go_loopg [14] k2 (fun kq v14 w' => ∃ (x14_3 : Int), v14 = .int .i64 x14_3 ∧ Aside0 (spec_EncPack.l1 kq l2 l3 x12_2 x13_2 x14_3 = some (r1, r2)) ∧ Aside0 (kq ≤ k2) ∧ Aside0 (Kd.R (Kd.int .i64) 3 w' w.heap.size (fun _ => True) u12 x12_2) ∧ Aside0 (Below w.heap.size w w'))
                          case atStart => exact ⟨(0), sr, H', ⟨Nat.le_refl _⟩, ⟨R_later HO_12.out⟩, ⟨below_later HB.out⟩⟩
                          case round =>
                            clear H'
                            try clear c2
                            try clear c3
                            try clear c10
                            try clear c13
                            try clear c13b0
                            try clear c13b1
                            try clear c16
                            try clear c16b0
                            try clear c16b1
                            try clear c33
                            try clear c33b0
                            try clear c33b1
                            try clear c39
                            try clear c39b0
                            try clear c39b1
                            try clear c42
                            try clear c42b0
                            try clear c42b1
                            try clear c45
                            try clear c45b0
                            try clear c45b1
                            try clear c50
                            try clear c50b0
                            obtain ⟨x14_3, rfl, HA, HK3, HO_12, HB⟩ := hrel
                            cases gk with
                            | zero => exact absurd HA.out (by simp [spec_EncPack.l1])
                            | succ k3 =>
                              have H := HA.out
                              clear HA
                              simp only [spec_EncPack.l1] at H
                              by_cases c51 : x14_3 < (l3.length : Int)
                              · rw [if_pos c51] at H
                                have c51b0 := decide_eq_true c51
                                clear c51
                                replace H := ifd H
                                obtain ⟨c52b0, H⟩ := H
                                replace H := ifd H
                                obtain ⟨c53b0, H⟩ := H
                                replace H := ifd H
                                obtain ⟨c54b0, H⟩ := H
                                by_cases c55 : (!(((rd_T46 l3 x14_3).f0) == ((rd_T46 l2 x13_2).f0)) || (!((((rd_T46 l3 x14_3).f1).toList) == (((rd_T46 l2 x13_2).f1).toList)))) = true
                                · rw [if_pos c55] at H
                                  have c55b0 : (!(((rd_T46 l3 x14_3).f0) == ((rd_T46 l2 x13_2).f0)) || (!((((rd_T46 l3 x14_3).f1).toList) == (((rd_T46 l2 x13_2).f1).toList)))) = true := c55
                                  clear c55
                                  have H' := Aside0.mk H
                                  clear H
                                  have p507 : 0 ≤ (x14_3 : Int) := dcd
                                  have q507 : x14_3 < (l3.length : Int) := dcd
                                  obtain ⟨ad507, e507, hx507_0, hx507_1⟩ := at_T46 HR3.out x14_3 p507 q507
                                  cases e507
                                  replace hx507_0 := crd HB hx507_0
                                  replace hx507_1 := crd HB hx507_1
                                  replace p507 := eq_true p507
                                  replace q507 := eq_true q507
                                  have p508 : 0 ≤ (x13_2 : Int) := dcd
                                  have q508 : x13_2 < (l2.length : Int) := dcd
                                  obtain ⟨ad508, e508, hx508_0, hx508_1⟩ := at_T46 HR2.out x13_2 p508 q508
                                  cases e508
                                  replace hx508_0 := crd HB hx508_0
                                  replace hx508_1 := crd HB hx508_1
                                  replace p508 := eq_true p508
                                  replace q508 := eq_true q508
                                  go_wp2
                                  repeat (go_quiet (fail); try go_wp2)
                                  go_roundg k3
                                  case measure => have := HJ4.out; have := HK2.out; have := HK3.out; omega
                                  case rel => exact ⟨(wrap64 (x14_3 + 1)), sr, H', ⟨by have := HJ4.out; have := HK2.out; have := HK3.out; omega⟩, ⟨R_later HO_12.out⟩, ⟨below_later HB.out⟩⟩
                                · rw [if_neg c55] at H
                                  have c55b0 : (!(((rd_T46 l3 x14_3).f0) == ((rd_T46 l2 x13_2).f0)) || (!((((rd_T46 l3 x14_3).f1).toList) == (((rd_T46 l2 x13_2).f1).toList)))) = false := by simpa using c55
                                  clear c55
                                  by_cases c56 : x14_3 = (l3.length : Int)
                                  · rw [if_pos c56] at H
                                    have c56b0 : (x14_3 == (l3.length : Int)) = true := beq_iff_eq.mpr c56
                                    have c56b1 : (x14_3 != (l3.length : Int)) = false := bne_eq_false_iff_eq.mpr c56
                                    clear c56
                                    obtain ⟨y509, hy509⟩ : ∃ y_ : List Int, y_ = (([] : List Int)) := ⟨_, rfl⟩
                                    replace H : (some (y509, false)) = some (r1, r2) := by first | (rw [hy509]; with_reducible exact H) | (rw [hy509]; exact H) | exact H
                                    have Ny509 := Aside0.mk hy509
                                    clear hy509
                                    simp only [Option.some.injEq, Prod.mk.injEq] at H
                                    obtain ⟨rfl, rfl⟩ := H
                                    have p507 : 0 ≤ (x14_3 : Int) := dcd
                                    have q507 : x14_3 < (l3.length : Int) := dcd
                                    obtain ⟨ad507, e507, hx507_0, hx507_1⟩ := at_T46 HR3.out x14_3 p507 q507
                                    cases e507
                                    replace hx507_0 := crd HB hx507_0
                                    replace hx507_1 := crd HB hx507_1
                                    replace p507 := eq_true p507
                                    replace q507 := eq_true q507
                                    have p508 : 0 ≤ (x13_2 : Int) := dcd
                                    have q508 : x13_2 < (l2.length : Int) := dcd
                                    obtain ⟨ad508, e508, hx508_0, hx508_1⟩ := at_T46 HR2.out x13_2 p508 q508
                                    cases e508
                                    replace hx508_0 := crd HB hx508_0
                                    replace hx508_1 := crd HB hx508_1
                                    replace p508 := eq_true p508
                                    replace q508 := eq_true q508
                                    go_wp2_with (first | ((with_reducible refine gate_dst (N := 104) rfl ?_); refine Kd.R_lit (Kd.int .u8) _ 5 ?hg (N := 104) ?hd (xs := ([] : List Int)) (inner := []) (ok := fun _ => True) (okp := fun _ => True) ?hr ?hp (fun _ hk => hk) trivial (Below.refl _ _) (Nat.le_refl _) (by simp) ?_; (case hd => rfl); (case hg => rfl); (case hr => first | (go_simp; done) | (go_simp; rfl)); (case hp => exact (Reps.none _ _)); intro v510 w57 ho58 hb hg_ hnew_; clear hg_ hnew_; (first | rw [← Ny509.out] at ho58 | (simp only [Int.reduceToNat] at ho58; rw [← Ny509.out] at ho58)); have HO511 := Aside0.mk (Kd.R_lower ho58 (below_size (below_later HB.out))); replace HO_12 := Aside0.mk (Kd.R_below (R_later HO_12.out) hb); replace HB := bst HB hb; clear hb ho58))
                                    repeat (go_quiet (first | ((with_reducible refine gate_dst (N := 104) rfl ?_); refine Kd.R_lit (Kd.int .u8) _ 5 ?hg (N := 104) ?hd (xs := ([] : List Int)) (inner := []) (ok := fun _ => True) (okp := fun _ => True) ?hr ?hp (fun _ hk => hk) trivial (Below.refl _ _) (Nat.le_refl _) (by simp) ?_; (case hd => rfl); (case hg => rfl); (case hr => first | (go_simp; done) | (go_simp; rfl)); (case hp => exact (Reps.none _ _)); intro v510 w57 ho58 hb hg_ hnew_; clear hg_ hnew_; (first | rw [← Ny509.out] at ho58 | (simp only [Int.reduceToNat] at ho58; rw [← Ny509.out] at ho58)); have HO511 := Aside0.mk (Kd.R_lower ho58 (below_size (below_later HB.out))); replace HO_12 := Aside0.mk (Kd.R_below (R_later HO_12.out) hb); replace HB := bst HB hb; clear hb ho58)); try go_wp2_with (first | ((with_reducible refine gate_dst (N := 104) rfl ?_); refine Kd.R_lit (Kd.int .u8) _ 5 ?hg (N := 104) ?hd (xs := ([] : List Int)) (inner := []) (ok := fun _ => True) (okp := fun _ => True) ?hr ?hp (fun _ hk => hk) trivial (Below.refl _ _) (Nat.le_refl _) (by simp) ?_; (case hd => rfl); (case hg => rfl); (case hr => first | (go_simp; done) | (go_simp; rfl)); (case hp => exact (Reps.none _ _)); intro v510 w57 ho58 hb hg_ hnew_; clear hg_ hnew_; (first | rw [← Ny509.out] at ho58 | (simp only [Int.reduceToNat] at ho58; rw [← Ny509.out] at ho58)); have HO511 := Aside0.mk (Kd.R_lower ho58 (below_size (below_later HB.out))); replace HO_12 := Aside0.mk (Kd.R_below (R_later HO_12.out) hb); replace HB := bst HB hb; clear hb ho58)))
                                    go_ret2
                                    exact ⟨_, by first | rfl | (simp [errW_none, errW_some] <;> rfl) | (simp [*, errW_none, errW_some] <;> rfl), by (with_reducible repeat (first | apply Kd.R_alloc | apply Kd.R_drewN | apply Kd.R_drew)); exact HO511.out, below_later HB.out⟩
                                  · rw [if_neg c56] at H
                                    have c56b0 : (x14_3 == (l3.length : Int)) = false := beq_eq_false_iff_ne.mpr c56
                                    have c56b1 : (x14_3 != (l3.length : Int)) = true := bne_iff_ne.mpr c56
                                    replace H := ifs H
                                    obtain ⟨c59, H⟩ := H
                                    have LMc59 := Aside0.mk c59
                                    clear c59
                                    obtain ⟨y512, hy512⟩ : ∃ y_ : List Int, y_ = (x12_2 ++ [x14_3]) := ⟨_, rfl⟩
                                    replace H : (spec_EncPack.l0 k3 l2 l3 y512 (wrap64 (x13_2 + 1))) = some (r1, r2) := by first | (rw [hy512]; with_reducible exact H) | (rw [hy512]; exact H) | exact H
                                    have Ny512 := Aside0.mk hy512
                                    clear hy512
                                    have H' := Aside0.mk H
                                    clear H
                                    have p507 : 0 ≤ (x14_3 : Int) := dcd
                                    have q507 : x14_3 < (l3.length : Int) := dcd
                                    obtain ⟨ad507, e507, hx507_0, hx507_1⟩ := at_T46 HR3.out x14_3 p507 q507
                                    cases e507
                                    replace hx507_0 := crd HB hx507_0
                                    replace hx507_1 := crd HB hx507_1
                                    replace p507 := eq_true p507
                                    replace q507 := eq_true q507
                                    have p508 : 0 ≤ (x13_2 : Int) := dcd
                                    have q508 : x13_2 < (l2.length : Int) := dcd
                                    obtain ⟨ad508, e508, hx508_0, hx508_1⟩ := at_T46 HR2.out x13_2 p508 q508
                                    cases e508
                                    replace hx508_0 := crd HB hx508_0
                                    replace hx508_1 := crd HB hx508_1
                                    replace p508 := eq_true p508
                                    replace q508 := eq_true q508
                                    go_wp2_with (first | ((with_reducible refine gate_builtin (b := .append) (xs := #[.tmp 105, .tmp 107]) rfl ?_); at_builtin; refine Kd.R_append (Kd.int .i64) (w0 := w) w.heap.size rfl (.tmp 105) (.tmp 107) 41 3 (.int .i64 0) 8 rfl Try.underlying41 info3 rfl (by decide) (by omega) u12 x12_2 x14_3 [.int .i64 x14_3] (fun _ => True) (fun _ => False) rfl rfl ?aP (fun _ hk => hk.elim) ?aF ?aO ?aB ?aS ?aL ?_; (case aP => exact rfl); (case aB => exact (below_later HB.out)); (case aF => exact (fun _ _ => trivial)); (case aO => exact (R_later HO_12.out)); (case aS => exact (below_size (below_later HB.out))); (case aL => have := LMc59.out; omega); intro v513 w60 ho hb hg hat; rw [← Ny512.out] at ho; have n0_ := Aside0.mk (hb); have n1_ := Aside0.mk (ho); clear HB; clear HO_12; have HB := n0_; have HO514 := n1_; clear n0_ n1_; clear ho hb hg hat))
                                    repeat (go_quiet (first | ((with_reducible refine gate_builtin (b := .append) (xs := #[.tmp 105, .tmp 107]) rfl ?_); at_builtin; refine Kd.R_append (Kd.int .i64) (w0 := w) w.heap.size rfl (.tmp 105) (.tmp 107) 41 3 (.int .i64 0) 8 rfl Try.underlying41 info3 rfl (by decide) (by omega) u12 x12_2 x14_3 [.int .i64 x14_3] (fun _ => True) (fun _ => False) rfl rfl ?aP (fun _ hk => hk.elim) ?aF ?aO ?aB ?aS ?aL ?_; (case aP => exact rfl); (case aB => exact (below_later HB.out)); (case aF => exact (fun _ _ => trivial)); (case aO => exact (R_later HO_12.out)); (case aS => exact (below_size (below_later HB.out))); (case aL => have := LMc59.out; omega); intro v513 w60 ho hb hg hat; rw [← Ny512.out] at ho; have n0_ := Aside0.mk (hb); have n1_ := Aside0.mk (ho); clear HB; clear HO_12; have HB := n0_; have HO514 := n1_; clear n0_ n1_; clear ho hb hg hat)); try go_wp2_with (first | ((with_reducible refine gate_builtin (b := .append) (xs := #[.tmp 105, .tmp 107]) rfl ?_); at_builtin; refine Kd.R_append (Kd.int .i64) (w0 := w) w.heap.size rfl (.tmp 105) (.tmp 107) 41 3 (.int .i64 0) 8 rfl Try.underlying41 info3 rfl (by decide) (by omega) u12 x12_2 x14_3 [.int .i64 x14_3] (fun _ => True) (fun _ => False) rfl rfl ?aP (fun _ hk => hk.elim) ?aF ?aO ?aB ?aS ?aL ?_; (case aP => exact rfl); (case aB => exact (below_later HB.out)); (case aF => exact (fun _ _ => trivial)); (case aO => exact (R_later HO_12.out)); (case aS => exact (below_size (below_later HB.out))); (case aL => have := LMc59.out; omega); intro v513 w60 ho hb hg hat; rw [← Ny512.out] at ho; have n0_ := Aside0.mk (hb); have n1_ := Aside0.mk (ho); clear HB; clear HO_12; have HB := n0_; have HO514 := n1_; clear n0_ n1_; clear ho hb hg hat)))
                                    go_roundg k3
                                    case measure => have := HJ4.out; have := HK2.out; have := HK3.out; omega
                                    case rel => exact ⟨(y512), (wrap64 (x13_2 + 1)), sr, H', ⟨by have := HJ4.out; have := HK2.out; have := HK3.out; omega⟩, ⟨R_later HO514.out⟩, ⟨below_later HB.out⟩⟩
                              · rw [if_neg c51] at H
                                have c51b0 := decide_eq_false c51
                                clear c51
                                by_cases c61 : x14_3 = (l3.length : Int)
                                · rw [if_pos c61] at H
                                  have c61b0 : (x14_3 == (l3.length : Int)) = true := beq_iff_eq.mpr c61
                                  have c61b1 : (x14_3 != (l3.length : Int)) = false := bne_eq_false_iff_eq.mpr c61
                                  clear c61
                                  obtain ⟨y515, hy515⟩ : ∃ y_ : List Int, y_ = (([] : List Int)) := ⟨_, rfl⟩
                                  replace H : (some (y515, false)) = some (r1, r2) := by first | (rw [hy515]; with_reducible exact H) | (rw [hy515]; exact H) | exact H
                                  have Ny515 := Aside0.mk hy515
                                  clear hy515
                                  simp only [Option.some.injEq, Prod.mk.injEq] at H
                                  obtain ⟨rfl, rfl⟩ := H
                                  go_wp2_with (first | ((with_reducible refine gate_dst (N := 104) rfl ?_); refine Kd.R_lit (Kd.int .u8) _ 5 ?hg (N := 104) ?hd (xs := ([] : List Int)) (inner := []) (ok := fun _ => True) (okp := fun _ => True) ?hr ?hp (fun _ hk => hk) trivial (Below.refl _ _) (Nat.le_refl _) (by simp) ?_; (case hd => rfl); (case hg => rfl); (case hr => first | (go_simp; done) | (go_simp; rfl)); (case hp => exact (Reps.none _ _)); intro v516 w62 ho63 hb hg_ hnew_; clear hg_ hnew_; (first | rw [← Ny515.out] at ho63 | (simp only [Int.reduceToNat] at ho63; rw [← Ny515.out] at ho63)); have HO517 := Aside0.mk (Kd.R_lower ho63 (below_size (below_later HB.out))); replace HO_12 := Aside0.mk (Kd.R_below (R_later HO_12.out) hb); replace HB := bst HB hb; clear hb ho63))
                                  repeat (go_quiet (first | ((with_reducible refine gate_dst (N := 104) rfl ?_); refine Kd.R_lit (Kd.int .u8) _ 5 ?hg (N := 104) ?hd (xs := ([] : List Int)) (inner := []) (ok := fun _ => True) (okp := fun _ => True) ?hr ?hp (fun _ hk => hk) trivial (Below.refl _ _) (Nat.le_refl _) (by simp) ?_; (case hd => rfl); (case hg => rfl); (case hr => first | (go_simp; done) | (go_simp; rfl)); (case hp => exact (Reps.none _ _)); intro v516 w62 ho63 hb hg_ hnew_; clear hg_ hnew_; (first | rw [← Ny515.out] at ho63 | (simp only [Int.reduceToNat] at ho63; rw [← Ny515.out] at ho63)); have HO517 := Aside0.mk (Kd.R_lower ho63 (below_size (below_later HB.out))); replace HO_12 := Aside0.mk (Kd.R_below (R_later HO_12.out) hb); replace HB := bst HB hb; clear hb ho63)); try go_wp2_with (first | ((with_reducible refine gate_dst (N := 104) rfl ?_); refine Kd.R_lit (Kd.int .u8) _ 5 ?hg (N := 104) ?hd (xs := ([] : List Int)) (inner := []) (ok := fun _ => True) (okp := fun _ => True) ?hr ?hp (fun _ hk => hk) trivial (Below.refl _ _) (Nat.le_refl _) (by simp) ?_; (case hd => rfl); (case hg => rfl); (case hr => first | (go_simp; done) | (go_simp; rfl)); (case hp => exact (Reps.none _ _)); intro v516 w62 ho63 hb hg_ hnew_; clear hg_ hnew_; (first | rw [← Ny515.out] at ho63 | (simp only [Int.reduceToNat] at ho63; rw [← Ny515.out] at ho63)); have HO517 := Aside0.mk (Kd.R_lower ho63 (below_size (below_later HB.out))); replace HO_12 := Aside0.mk (Kd.R_below (R_later HO_12.out) hb); replace HB := bst HB hb; clear hb ho63)))
                                  go_ret2
                                  exact ⟨_, by first | rfl | (simp [errW_none, errW_some] <;> rfl) | (simp [*, errW_none, errW_some] <;> rfl), by (with_reducible repeat (first | apply Kd.R_alloc | apply Kd.R_drewN | apply Kd.R_drew)); exact HO517.out, below_later HB.out⟩
                                · rw [if_neg c61] at H
                                  have c61b0 : (x14_3 == (l3.length : Int)) = false := beq_eq_false_iff_ne.mpr c61
                                  have c61b1 : (x14_3 != (l3.length : Int)) = true := bne_iff_ne.mpr c61
                                  replace H := ifs H
                                  obtain ⟨c64, H⟩ := H
                                  have LMc64 := Aside0.mk c64
                                  clear c64
                                  obtain ⟨y518, hy518⟩ : ∃ y_ : List Int, y_ = (x12_2 ++ [x14_3]) := ⟨_, rfl⟩
                                  replace H : (spec_EncPack.l0 k3 l2 l3 y518 (wrap64 (x13_2 + 1))) = some (r1, r2) := by first | (rw [hy518]; with_reducible exact H) | (rw [hy518]; exact H) | exact H
                                  have Ny518 := Aside0.mk hy518
                                  clear hy518
                                  have H' := Aside0.mk H
                                  clear H
                                  go_wp2_with (first | ((with_reducible refine gate_builtin (b := .append) (xs := #[.tmp 105, .tmp 107]) rfl ?_); at_builtin; refine Kd.R_append (Kd.int .i64) (w0 := w) w.heap.size rfl (.tmp 105) (.tmp 107) 41 3 (.int .i64 0) 8 rfl Try.underlying41 info3 rfl (by decide) (by omega) u12 x12_2 x14_3 [.int .i64 x14_3] (fun _ => True) (fun _ => False) rfl rfl ?aP (fun _ hk => hk.elim) ?aF ?aO ?aB ?aS ?aL ?_; (case aP => exact rfl); (case aB => exact (below_later HB.out)); (case aF => exact (fun _ _ => trivial)); (case aO => exact (R_later HO_12.out)); (case aS => exact (below_size (below_later HB.out))); (case aL => have := LMc64.out; omega); intro v519 w65 ho hb hg hat; rw [← Ny518.out] at ho; have n0_ := Aside0.mk (hb); have n1_ := Aside0.mk (ho); clear HB; clear HO_12; have HB := n0_; have HO520 := n1_; clear n0_ n1_; clear ho hb hg hat))
                                  repeat (go_quiet (first | ((with_reducible refine gate_builtin (b := .append) (xs := #[.tmp 105, .tmp 107]) rfl ?_); at_builtin; refine Kd.R_append (Kd.int .i64) (w0 := w) w.heap.size rfl (.tmp 105) (.tmp 107) 41 3 (.int .i64 0) 8 rfl Try.underlying41 info3 rfl (by decide) (by omega) u12 x12_2 x14_3 [.int .i64 x14_3] (fun _ => True) (fun _ => False) rfl rfl ?aP (fun _ hk => hk.elim) ?aF ?aO ?aB ?aS ?aL ?_; (case aP => exact rfl); (case aB => exact (below_later HB.out)); (case aF => exact (fun _ _ => trivial)); (case aO => exact (R_later HO_12.out)); (case aS => exact (below_size (below_later HB.out))); (case aL => have := LMc64.out; omega); intro v519 w65 ho hb hg hat; rw [← Ny518.out] at ho; have n0_ := Aside0.mk (hb); have n1_ := Aside0.mk (ho); clear HB; clear HO_12; have HB := n0_; have HO520 := n1_; clear n0_ n1_; clear ho hb hg hat)); try go_wp2_with (first | ((with_reducible refine gate_builtin (b := .append) (xs := #[.tmp 105, .tmp 107]) rfl ?_); at_builtin; refine Kd.R_append (Kd.int .i64) (w0 := w) w.heap.size rfl (.tmp 105) (.tmp 107) 41 3 (.int .i64 0) 8 rfl Try.underlying41 info3 rfl (by decide) (by omega) u12 x12_2 x14_3 [.int .i64 x14_3] (fun _ => True) (fun _ => False) rfl rfl ?aP (fun _ hk => hk.elim) ?aF ?aO ?aB ?aS ?aL ?_; (case aP => exact rfl); (case aB => exact (below_later HB.out)); (case aF => exact (fun _ _ => trivial)); (case aO => exact (R_later HO_12.out)); (case aS => exact (below_size (below_later HB.out))); (case aL => have := LMc64.out; omega); intro v519 w65 ho hb hg hat; rw [← Ny518.out] at ho; have n0_ := Aside0.mk (hb); have n1_ := Aside0.mk (ho); clear HB; clear HO_12; have HB := n0_; have HO520 := n1_; clear n0_ n1_; clear ho hb hg hat)))
                                  go_roundg k3
                                  case measure => have := HJ4.out; have := HK2.out; have := HK3.out; omega
                                  case rel => exact ⟨(y518), (wrap64 (x13_2 + 1)), sr, H', ⟨by have := HJ4.out; have := HK2.out; have := HK3.out; omega⟩, ⟨R_later HO520.out⟩, ⟨below_later HB.out⟩⟩
                        · rw [if_neg c50] at H
                          have c50b0 := decide_eq_false c50
                          clear c50
                          replace H := Option.bind_eq_some_iff.mp H
                          obtain ⟨⟨t503, t504⟩, A660, H⟩ := H
                          replace H : (some (t503, t504)) = some (r1, r2) := H
                          have A66 := Aside0.mk A660
                          clear A660
                          simp only [Option.some.injEq, Prod.mk.injEq] at H
                          obtain ⟨rfl, rfl⟩ := H
                          obtain ⟨Ao67, co67, eo67⟩ := Kd.R_slice HO_12.out
                          subst eo67
                          go_wp2_with (first | (go_at_call 24; (with_reducible refine (spec_PlacesPack.calls k2 _ _ x12_2 (l3.length : Int) t503 t504 _ ?side1 ?side2 A66.out).mono ?_); (case side1 => repeat (first | exact (Kd.R_reads' HO_12.out).2.2 | (with_reducible refine Kd.C_alloc ?_ _) | (with_reducible refine Kd.C_drewN ?_ _) | (with_reducible refine Kd.C_drew ?_))); (case side2 => exact (Kd.R_reads' HO_12.out).2.1); rintro e w68 ⟨v505, rfl, ho0, hb⟩; have HO506 := Aside0.mk (Kd.R_lower ho0 (below_size (below_later HB.out))); replace HO_12 := Aside0.mk (Kd.R_below (R_later HO_12.out) hb); replace HB := bst HB hb; (try clear hb); (try clear ho0)))
                          repeat (go_quiet (first | (go_at_call 24; (with_reducible refine (spec_PlacesPack.calls k2 _ _ x12_2 (l3.length : Int) t503 t504 _ ?side1 ?side2 A66.out).mono ?_); (case side1 => repeat (first | exact (Kd.R_reads' HO_12.out).2.2 | (with_reducible refine Kd.C_alloc ?_ _) | (with_reducible refine Kd.C_drewN ?_ _) | (with_reducible refine Kd.C_drew ?_))); (case side2 => exact (Kd.R_reads' HO_12.out).2.1); rintro e w68 ⟨v505, rfl, ho0, hb⟩; have HO506 := Aside0.mk (Kd.R_lower ho0 (below_size (below_later HB.out))); replace HO_12 := Aside0.mk (Kd.R_below (R_later HO_12.out) hb); replace HB := bst HB hb; (try clear hb); (try clear ho0))); try go_wp2_with (first | (go_at_call 24; (with_reducible refine (spec_PlacesPack.calls k2 _ _ x12_2 (l3.length : Int) t503 t504 _ ?side1 ?side2 A66.out).mono ?_); (case side1 => repeat (first | exact (Kd.R_reads' HO_12.out).2.2 | (with_reducible refine Kd.C_alloc ?_ _) | (with_reducible refine Kd.C_drewN ?_ _) | (with_reducible refine Kd.C_drew ?_))); (case side2 => exact (Kd.R_reads' HO_12.out).2.1); rintro e w68 ⟨v505, rfl, ho0, hb⟩; have HO506 := Aside0.mk (Kd.R_lower ho0 (below_size (below_later HB.out))); replace HO_12 := Aside0.mk (Kd.R_below (R_later HO_12.out) hb); replace HB := bst HB hb; (try clear hb); (try clear ho0))))
                          go_ret2
                          exact ⟨_, by first | rfl | (simp [errW_none, errW_some] <;> rfl) | (simp [*, errW_none, errW_some] <;> rfl), by (with_reducible repeat (first | apply Kd.R_alloc | apply Kd.R_drewN | apply Kd.R_drew)); exact HO506.out, below_later HB.out⟩

/-! ### laws_toVal: function 25 -/
def laws_toVal.f (a0_0 : Int) (a0_1 : ByteArray) : Option (Int × ByteArray) := some (a0_0, a0_1)
set_option maxHeartbeats 8000000 in
set_option maxRecDepth 100000 in
theorem laws_toVal.calls (a0_0 : Int) (a0_1 : ByteArray) (r1 : Int) (r2 : ByteArray) (w : World) (h : laws_toVal.f a0_0 a0_1 = some (r1, r2)) :
    Calls Try.prog 25 #[.agg #[.int .i64 a0_0, .string a0_1]] w fun e w' => e = .returned (.agg #[.int .i64 r1, .string r2]) ∧ Below w.heap.size w w' := by
  have hu36 := Try.underlying36
  have hu46 := Try.underlying46
  have HB := Aside0.mk (Below.refl w.heap.size w)
  have H : (some (a0_0, a0_1)) = some (r1, r2) := h
  clear h
  simp only [Option.some.injEq, Prod.mk.injEq] at H
  obtain ⟨rfl, rfl⟩ := H
  go_enter Try.func25, Try.ntmps25
  go_wp2_with (first | ((with_reducible refine gate_dst (N := 1) rfl ?_); refine bx_ 1 #[.int .i64 a0_0, .string a0_1] 36 ?_; intro gb521 hg w2 hbox hb; have BK521 := Aside0.mk (hbox); have GW521 := gwe HB hg; have GE521 := GW521; replace HB := bst HB hb; clear hb hbox hg) | ((with_reducible refine gate_dst (N := 2) rfl ?_); refine bx_ 2 #[.int .i64 0, .string (⟨#[]⟩ : ByteArray)] 46 ?_; intro gb522 hg w3 hbox hb; have BK522 := Aside0.mk (hbox); have GW522 := gwe HB hg; have GE522 := GW522; have NB521_522 := nbl BK521 hg; have NB522_521 := nbr (nbl BK521 hg); replace BK521 := bkb BK521 hb; replace HB := bst HB hb; clear hb hbox hg) | ((with_reducible refine gate_dst (N := 3) rfl ?_); refine bx_ 3 #[.int .i64 0, .string (⟨#[]⟩ : ByteArray)] 46 ?_; intro gb523 hg w4 hbox hb; have BK523 := Aside0.mk (hbox); have GW523 := gwe HB hg; have GE523 := GW523; have NB521_523 := nbl BK521 hg; have NB523_521 := nbr (nbl BK521 hg); have NB522_523 := nbl BK522 hg; have NB523_522 := nbr (nbl BK522 hg); replace BK521 := bkb BK521 hb; replace BK522 := bkb BK522 hb; replace HB := bst HB hb; clear hb hbox hg; have hnb5 := NB521_522.out; have hnc5 := NB522_521.out; have hnb6 := NB521_523.out; have hnc6 := NB523_521.out; obtain ⟨hcz7_0, hcz7_1, hfz7_0, hfz7_1⟩ := cl2 BK521; have hnb8 := NB523_522.out; have hnc8 := NB522_523.out; obtain ⟨hcz9_0, hcz9_1, hfz9_0, hfz9_1⟩ := cl2 BK523; obtain ⟨hcz10_0, hcz10_1, hfz10_0, hfz10_1⟩ := cl2 BK522))
  refine bodyPost_ret (results_cell_row rfl _ _ gb522 46 #[.int .i64 a0_0, .string a0_1] (0, 0) _ rfl (by (with_reducible repeat (first | refine blk_drewN ?_ _ | refine blk_drew ?_ | refine blk_alloc ?_ _)); refine blk_put (cs := #[.int .i64 a0_0, .string (⟨#[]⟩ : ByteArray)]) ?_ 1 _ rfl; (with_reducible repeat (first | refine blk_drewN ?_ _ | refine blk_drew ?_ | refine blk_alloc ?_ _)); refine blk_put (cs := #[.int .i64 0, .string (⟨#[]⟩ : ByteArray)]) ?_ 0 _ rfl; (with_reducible repeat (first | refine blk_drewN ?_ _ | refine blk_drew ?_ | refine blk_alloc ?_ _)); refine blk_far ?_ NB522_523.out _; (with_reducible repeat (first | refine blk_drewN ?_ _ | refine blk_drew ?_ | refine blk_alloc ?_ _)); refine blk_far ?_ NB522_523.out _; (with_reducible repeat (first | refine blk_drewN ?_ _ | refine blk_drew ?_ | refine blk_alloc ?_ _)); exact BK522.out) Try.underlying46 rfl (by kernel_rfl)) rfl ?_
  exact fin_ (below_later HB.out)

/-! ### laws_toValS: function 6 -/
def laws_toValS.l0 : Nat → List (S36) → List (S46) → Int → Option ((List (S46)))
  | 0, _, _, _ => none
  | k + 1, x0, x3, x4 => if x4 < (x0.length : Int) then (if 0 ≤ x4 then ((laws_toVal.f ((rd_T36 x0 x4).f0) ((rd_T36 x0 x4).f1)).bind fun bt528 => (if x4 < (x3.length : Int) then (laws_toValS.l0 k x0 (x3.set (x4 : Int).toNat (⟨bt528.1, bt528.2⟩ : S46)) (wrap64 (x4 + 1))) else (none))) else (none)) else (some x3)
def laws_toValS.f (k : Nat) (l0 : List (S36)) : Option ((List (S46))) := if 0 ≤ (l0.length : Int) then (if ((l0.length : Int) : Int).toNat ≤ 11728124029610 then (laws_toValS.l0 k l0 (List.replicate ((l0.length : Int) : Int).toNat z46) 0) else (none)) else (none)
set_option maxHeartbeats 8000000 in
set_option maxRecDepth 100000 in
theorem laws_toValS.calls (k : Nat) (A0 : Option Addr) (c0 : Nat) (l0 : List (S36)) (r : List (S46)) (w : World) (hr0 : Kd.C k36 w A0 l0.length l0) (hc0 : l0.length ≤ c0) (h : laws_toValS.f k l0 = some r) :
    Calls Try.prog 6 #[.slice A0 l0.length c0] w fun e w' => ∃ v0_ : Value, e = .returned (v0_) ∧ Kd.R k46 46 w' w.heap.size (fun _ => True) v0_ r ∧ Below w.heap.size w w' := by
  have hu36 := Try.underlying36
  have hu46 := Try.underlying46
  have HR0 := Aside0.mk hr0
  have HC0 := Aside0.mk hc0
  clear hr0 hc0
  have HB := Aside0.mk (Below.refl w.heap.size w)
  have H : (if 0 ≤ (l0.length : Int) then (if ((l0.length : Int) : Int).toNat ≤ 11728124029610 then (laws_toValS.l0 k l0 (List.replicate ((l0.length : Int) : Int).toNat z46) 0) else (none)) else (none)) = some r := h
  clear h
  replace H := ifs H
  obtain ⟨c2, H⟩ := H
  have c2b0 := eq_true c2
  have c2b1 := decide_eq_true c2
  clear c2
  replace H := ifs H
  obtain ⟨c3, H⟩ := H
  have c3b0 := eq_true c3
  have c3b1 := decide_eq_true c3
  clear c3
  obtain ⟨y524, hy524⟩ : ∃ y_ : List (S46), y_ = (List.replicate ((l0.length : Int) : Int).toNat z46) := ⟨_, rfl⟩
  replace H : (laws_toValS.l0 k l0 y524 0) = some r := by first | (rw [hy524]; with_reducible exact H) | (rw [hy524]; exact H) | exact H
  have Ny524 := Aside0.mk hy524
  clear hy524
  have H' := Aside0.mk H
  clear H
  go_enter Try.func6, Try.ntmps6
  go_wp2_with (first | ((with_reducible refine gate_dst (N := 7) rfl ?_); refine Kd.R_make k46 _ 46 rfl (N := 7) rfl 27 _ _ rfl (l0.length : Int) rfl rfl Try.underlying27 (.agg #[(.int .i64 0), (.string ⟨#[]⟩)]) 24 info46 rfl (by decide) (by omega) z46 (ok := fun _ => True) (okp := fun _ => True) (k46_mkM _ _ _ z46 ) (fun _ hk => hk) trivial (dcd) (Nat.le_trans (Nat.mul_le_mul_right _ (dcd : (l0.length : Int).toNat ≤ 11728124029610)) (by omega)) (Below.refl _ _) (Nat.le_refl _) ?_; intro v525 w4 ho5 hb hg_ hnew_; clear hg_ hnew_; (first | rw [← Ny524.out] at ho5 | (simp only [Int.reduceToNat] at ho5; rw [← Ny524.out] at ho5)); have HO526 := Aside0.mk (Kd.R_lower ho5 (below_size (below_later HB.out))); replace HB := bst HB hb; clear hb ho5))
  go_loopg [4] k (fun kq v4 w' => ∃ (x3_1 : List (S46)) (x4_1 : Int), v4 = .int .i64 x4_1 ∧ Aside0 (laws_toValS.l0 kq l0 x3_1 x4_1 = some r) ∧ Aside0 (kq ≤ k) ∧ Aside0 (Kd.R k46 46 w' w.heap.size (fun _ => True) v525 x3_1) ∧ Aside0 (Below w.heap.size w w'))
  case atStart => exact ⟨(y524), (0), sr, H', ⟨Nat.le_refl _⟩, ⟨R_later HO526.out⟩, ⟨below_later HB.out⟩⟩
  case round =>
    clear H'
    try clear c2
    try clear c2b0
    try clear c2b1
    try clear c3
    try clear c3b0
    try clear c3b1
    obtain ⟨x3_1, x4_1, rfl, HA, HK1, HO_3, HB⟩ := hrel
    cases gk with
    | zero => exact absurd HA.out (by simp [laws_toValS.l0])
    | succ k1 =>
      have H := HA.out
      clear HA
      simp only [laws_toValS.l0] at H
      by_cases c6 : x4_1 < (l0.length : Int)
      · rw [if_pos c6] at H
        have c6b0 := decide_eq_true c6
        clear c6
        replace H := ifd H
        obtain ⟨c7b0, H⟩ := H
        replace H := Option.bind_eq_some_iff.mp H
        obtain ⟨⟨t528, t529⟩, A80, H⟩ := H
        replace H : (if x4_1 < (x3_1.length : Int) then (laws_toValS.l0 k1 l0 (x3_1.set (x4_1 : Int).toNat (⟨t528, t529⟩ : S46)) (wrap64 (x4_1 + 1))) else (none)) = some r := H
        have A8 := Aside0.mk A80
        clear A80
        replace H := ifd H
        obtain ⟨c9b0, H⟩ := H
        obtain ⟨y530, hy530⟩ : ∃ y_ : List (S46), y_ = (x3_1.set (x4_1 : Int).toNat (⟨t528, t529⟩ : S46)) := ⟨_, rfl⟩
        replace H : (laws_toValS.l0 k1 l0 y530 (wrap64 (x4_1 + 1))) = some r := by first | (rw [hy530]; with_reducible exact H) | (rw [hy530]; exact H) | exact H
        have Ny530 := Aside0.mk hy530
        clear hy530
        have H' := Aside0.mk H
        clear H
        have p527 : 0 ≤ (x4_1 : Int) := dcd
        have q527 : x4_1 < (l0.length : Int) := dcd
        obtain ⟨ad527, e527, hx527_0, hx527_1⟩ := at_T36 HR0.out x4_1 p527 q527
        cases e527
        replace hx527_0 := crd HB hx527_0
        replace hx527_1 := crd HB hx527_1
        replace p527 := eq_true p527
        replace q527 := eq_true q527
        go_wp2_with (first | ((with_reducible refine gate_callee (f := 25) rfl ?_); refine gl_ (some 20) Try.func25 #[.agg #[.int .i64 ((rd_T36 l0 x4_1).f0), .string ((rd_T36 l0 x4_1).f1)]] rfl ?_; (with_reducible refine (laws_toVal.calls ((rd_T36 l0 x4_1).f0) ((rd_T36 l0 x4_1).f1) t528 t529 _ A8.out).mono ?_); rintro e w11 ⟨rfl, hb⟩; refine ⟨_, rfl, ?_⟩; replace HO_3 := Aside0.mk (Kd.R_below (R_later HO_3.out) hb); replace HB := bst HB hb; (try clear hb); (try clear hk); have p10 : 0 ≤ (x4_1 : Int) := dcd; have q10 : (x4_1 : Int) < ((x3_1.length : Int) : Int) := dcd; obtain ⟨go10, co10, eo10, gb10, gl10, cl10, HG10⟩ := Kd.R_form HO_3.out (by omega); (first | cases eo10 | (injection eo10 with ea_ en_ ec_; (first | subst ea_ | (injection ea_ with ea_; subst ea_)); subst ec_; clear en_)); have GB10 := Aside0.mk gb10; have GG10 := Aside0.mk HG10; clear gb10 gl10 HG10; obtain ⟨ce10, hcl10, hM10, hcc10, hfr10⟩ := Kd.R_elem HO_3.out z46 (x4_1 : Int) p10 q10; obtain rfl := k46_openM hM10; have hx10_0 : w11.cell? ⟨go10, (x4_1 : Int).toNat * 2, none⟩ = some (.int .i64 ((rd_T46 x3_1 x4_1).f0)) := hcc10 0 _ rfl; have hx10_1 : w11.cell? ⟨go10, (x4_1 : Int).toNat * 2 + 1, none⟩ = some (.string ((rd_T46 x3_1 x4_1).f1)) := hcc10 1 _ rfl; have hf10_0 : w11.frozen? ⟨go10, (x4_1 : Int).toNat * 2, none⟩ = false := hfr10 0; have hf10_1 : w11.frozen? ⟨go10, (x4_1 : Int).toNat * 2 + 1, none⟩ = false := hfr10 1; clear hcl10 hcc10 hfr10 hM10; replace p10 := eq_true p10; replace q10 := eq_true q10; have HX12 := Aside0.mk (show Kd.R k46 46 w11 w.heap.size (fun _ => True) (.slice (some ⟨go10, 0, none⟩) x3_1.length co10) x3_1 from (R_later HO_3.out)); obtain ⟨ce12, hcl12, hM12, hcc12, hfr12⟩ := Kd.R_elem HX12.out z46 (x4_1 : Int) (dcd) (by have h_ : (x4_1 : Int) < ((x3_1.length : Int) : Int) := dcd; first | exact h_ | (have e_ := (Kd.R_reads' HO_3.out).1; omega) | simpa using h_); obtain rfl := k46_openM hM12; have HP12 := Kd.R_seg HX12.out (x4_1 : Int) (dcd) (by have h_ : (x4_1 : Int) < ((x3_1.length : Int) : Int) := dcd; first | exact h_ | (have e_ := (Kd.R_reads' HO_3.out).1; omega) | simpa using h_) (seg := [.int .i64 t528, .string t529]) (j := 0) hcl12 hcc12 (show 2 ≤ 2 from by decide) (x' := (⟨t528, t529⟩ : S46)) (k46_mkM _ _ _ (⟨t528, t529⟩ : S46) ) (fun _ hk => hk); have hx12_0 := hcc12 0 _ rfl; (try simp only [show (k46).sz = 2 from rfl, Nat.mul_one, Nat.add_zero] at hx12_0); have hf12_0 := hfr12 0; (try simp only [show (k46).sz = 2 from rfl, Nat.mul_one, Nat.add_zero] at hf12_0); have hx12_1 := hcc12 1 _ rfl; (try simp only [show (k46).sz = 2 from rfl, Nat.mul_one, Nat.add_zero] at hx12_1); have hf12_1 := hfr12 1; (try simp only [show (k46).sz = 2 from rfl, Nat.mul_one, Nat.add_zero] at hf12_1); clear hcl12 hcc12 hfr12 hM12) | ((with_reducible refine gate_store (t := 46) (p := 21) rfl ?_); refine st_ 46 21 ((w11.setCell ⟨go10, (x4_1 : Int).toNat * 2, none⟩ (.int .i64 t528)).setCell ⟨go10, (x4_1 : Int).toNat * 2 + 1, none⟩ (.string t529)) ?_; intro w13 hw; have hg : w11.grownBy w13 (some go10) := (by rw [hw]; exact HP12.2); have hp_ : Kd.R k46 46 w13 w.heap.size (fun _ => True) (.slice (some ⟨go10, 0, none⟩) x3_1.length co10) y530 := (by rw [hw, Ny530.out]; exact HP12.1); clear HP12; replace HO_3 := Aside0.mk (hp_); replace HB := Aside0.mk ((by rw [hw]; exact below_set (below_set (HB.out) GB10.out) GB10.out : Below w.heap.size w w13)); clear hg hw hp_))
        go_roundg k1
        case measure => have := HK1.out; omega
        case rel => exact ⟨(y530), (wrap64 (x4_1 + 1)), sr, H', ⟨by have := HK1.out; omega⟩, ⟨R_later HO_3.out⟩, ⟨below_later HB.out⟩⟩
      · rw [if_neg c6] at H
        have c6b0 := decide_eq_false c6
        clear c6
        obtain rfl := Option.some.inj H
        go_wp2
        go_ret
        exact ⟨_, by first | rfl | (simp [errW_none, errW_some] <;> rfl) | (simp [*, errW_none, errW_some] <;> rfl), by (with_reducible repeat (first | apply Kd.R_alloc | apply Kd.R_drewN | apply Kd.R_drew)); exact HO_3.out, below_later HB.out⟩
/-! ### impl_within: function 73 -/
def impl_within.f (a0 : Int) (a1 : Int) (a2 : Int) : Option (Bool) := if a0 ≥ a1 then (some (decide (a0 ≤ a2))) else (some false)
set_option maxHeartbeats 8000000 in
set_option maxRecDepth 100000 in
theorem impl_within.calls (a0 : Int) (a1 : Int) (a2 : Int) (r : Bool) (w : World) (h : impl_within.f a0 a1 a2 = some r) :
    Calls Try.prog 73 #[.int .i64 a0, .int .i64 a1, .int .i64 a2] w fun e w' => e = .returned (.bool r) ∧ Drawn0 w w' := by
  have H : (if a0 ≥ a1 then (some (decide (a0 ≤ a2))) else (some false)) = some r := h
  clear h
  by_cases c4 : a0 ≥ a1
  · rw [if_pos c4] at H
    have c4b0 : decide (a1 ≤ a0) = true := decide_eq_true c4
    clear c4
    obtain rfl := Option.some.inj H
    go_enter Try.func73, Try.ntmps73
    go_wp2
    go_ret
    exact ⟨by first | rfl | (simp; done) | (simp [*]; done), by repeat (first | exact Drawn0.refl _ | apply Drawn0.step)⟩
  · rw [if_neg c4] at H
    have c4b0 : decide (a1 ≤ a0) = false := decide_eq_false c4
    clear c4
    obtain rfl := Option.some.inj H
    go_enter Try.func73, Try.ntmps73
    go_wp2
    go_ret
    exact ⟨by first | rfl | (simp; done) | (simp [*]; done), by repeat (first | exact Drawn0.refl _ | apply Drawn0.step)⟩

/-! ### impl_TypeOk: function 58 -/
def impl_TypeOk.f (a0 : Int) : Option (Bool) := (impl_within.f a0 0 2).bind fun t531 => (if t531 = true then (some true) else (if a0 = 5 then (some true) else (some (a0 == 6))))
set_option maxHeartbeats 8000000 in
set_option maxRecDepth 100000 in
theorem impl_TypeOk.calls (a0 : Int) (r : Bool) (w : World) (h : impl_TypeOk.f a0 = some r) :
    Calls Try.prog 58 #[.int .i64 a0] w fun e w' => e = .returned (.bool r) ∧ Drawn0 w w' := by
  have H : ((impl_within.f a0 0 2).bind fun t531 => (if t531 = true then (some true) else (if a0 = 5 then (some true) else (some (a0 == 6))))) = some r := h
  clear h
  replace H := bnd H
  obtain ⟨t531, A2, H⟩ := H
  by_cases c3 : t531 = true
  · subst c3
    replace H := ifp rfl H
    obtain rfl := Option.some.inj H
    go_enter Try.func58, Try.ntmps58
    go_wp2_with (first | ((with_reducible refine gate_callee (f := 73) rfl ?_); refine gl_ (some 4) Try.func73 #[.int .i64 a0, .int .i64 0, .int .i64 2] rfl ?_; (with_reducible refine (impl_within.calls a0 0 2 true _ A2.out).mono ?_); rintro e w' ⟨rfl, ⟨nd, rfl⟩⟩; refine ⟨_, rfl, ?_⟩))
    go_ret
    exact ⟨by first | rfl | (simp; done) | (simp [*]; done), by repeat (first | exact Drawn0.refl _ | apply Drawn0.step)⟩
  · replace c3 := Bool.eq_false_iff.mpr c3
    subst c3
    replace H := ifn Bool.false_ne_true H
    by_cases c4 : a0 = 5
    · rw [if_pos c4] at H
      have c4b0 : (a0 == 5) = true := beq_iff_eq.mpr c4
      have c4b1 : (a0 != 5) = false := bne_eq_false_iff_eq.mpr c4
      clear c4
      obtain rfl := Option.some.inj H
      go_enter Try.func58, Try.ntmps58
      go_wp2_with (first | ((with_reducible refine gate_callee (f := 73) rfl ?_); refine gl_ (some 4) Try.func73 #[.int .i64 a0, .int .i64 0, .int .i64 2] rfl ?_; (with_reducible refine (impl_within.calls a0 0 2 false _ A2.out).mono ?_); rintro e w' ⟨rfl, ⟨nd, rfl⟩⟩; refine ⟨_, rfl, ?_⟩))
      go_ret
      exact ⟨by first | rfl | (simp; done) | (simp [*]; done), by repeat (first | exact Drawn0.refl _ | apply Drawn0.step)⟩
    · rw [if_neg c4] at H
      have c4b0 : (a0 == 5) = false := beq_eq_false_iff_ne.mpr c4
      have c4b1 : (a0 != 5) = true := bne_iff_ne.mpr c4
      obtain rfl := Option.some.inj H
      go_enter Try.func58, Try.ntmps58
      go_wp2_with (first | ((with_reducible refine gate_callee (f := 73) rfl ?_); refine gl_ (some 4) Try.func73 #[.int .i64 a0, .int .i64 0, .int .i64 2] rfl ?_; (with_reducible refine (impl_within.calls a0 0 2 false _ A2.out).mono ?_); rintro e w' ⟨rfl, ⟨nd, rfl⟩⟩; refine ⟨_, rfl, ?_⟩))
      go_ret
      exact ⟨by first | rfl | (simp; done) | (simp [*]; done), by repeat (first | exact Drawn0.refl _ | apply Drawn0.step)⟩

/-! ### impl_wideOf: function 59 -/
def impl_wideOf.f (a0 : Int) : Option (Int) := if a0 = 1 then (some 4) else (if a0 = 2 then (some 8) else (if a0 = 5 then (some 8) else (some 0)))
set_option maxHeartbeats 8000000 in
set_option maxRecDepth 100000 in
theorem impl_wideOf.calls (a0 : Int) (r : Int) (w : World) (h : impl_wideOf.f a0 = some r) :
    Calls Try.prog 59 #[.int .i64 a0] w fun e w' => e = .returned (.int .i64 r) ∧ Drawn0 w w' := by
  have H : (if a0 = 1 then (some 4) else (if a0 = 2 then (some 8) else (if a0 = 5 then (some 8) else (some 0)))) = some r := h
  clear h
  by_cases c2 : a0 = 1
  · rw [if_pos c2] at H
    have c2b0 : (a0 == 1) = true := beq_iff_eq.mpr c2
    have c2b1 : (a0 != 1) = false := bne_eq_false_iff_eq.mpr c2
    clear c2
    obtain rfl := Option.some.inj H
    go_enter Try.func59, Try.ntmps59
    go_wp2
    go_ret
    exact ⟨by first | rfl | (simp; done) | (simp [*]; done), by repeat (first | exact Drawn0.refl _ | apply Drawn0.step)⟩
  · rw [if_neg c2] at H
    have c2b0 : (a0 == 1) = false := beq_eq_false_iff_ne.mpr c2
    have c2b1 : (a0 != 1) = true := bne_iff_ne.mpr c2
    by_cases c3 : a0 = 2
    · rw [if_pos c3] at H
      have c3b0 : (a0 == 2) = true := beq_iff_eq.mpr c3
      have c3b1 : (a0 != 2) = false := bne_eq_false_iff_eq.mpr c3
      clear c3
      obtain rfl := Option.some.inj H
      go_enter Try.func59, Try.ntmps59
      go_wp2
      go_ret
      exact ⟨by first | rfl | (simp; done) | (simp [*]; done), by repeat (first | exact Drawn0.refl _ | apply Drawn0.step)⟩
    · rw [if_neg c3] at H
      have c3b0 : (a0 == 2) = false := beq_eq_false_iff_ne.mpr c3
      have c3b1 : (a0 != 2) = true := bne_iff_ne.mpr c3
      by_cases c4 : a0 = 5
      · rw [if_pos c4] at H
        have c4b0 : (a0 == 5) = true := beq_iff_eq.mpr c4
        have c4b1 : (a0 != 5) = false := bne_eq_false_iff_eq.mpr c4
        clear c4
        obtain rfl := Option.some.inj H
        go_enter Try.func59, Try.ntmps59
        go_wp2
        go_ret
        exact ⟨by first | rfl | (simp; done) | (simp [*]; done), by repeat (first | exact Drawn0.refl _ | apply Drawn0.step)⟩
      · rw [if_neg c4] at H
        have c4b0 : (a0 == 5) = false := beq_eq_false_iff_ne.mpr c4
        have c4b1 : (a0 != 5) = true := bne_iff_ne.mpr c4
        obtain rfl := Option.some.inj H
        go_enter Try.func59, Try.ntmps59
        go_wp2
        go_ret
        exact ⟨by first | rfl | (simp; done) | (simp [*]; done), by repeat (first | exact Drawn0.refl _ | apply Drawn0.step)⟩

/-! ### impl_EncOk: function 26 -/
def impl_EncOk.j0 : Nat → Int → Int → Int → Bool → Option (Bool)
  | 0, _, _, _, _ => none
  | k + 1, x0, x1, x5, x6 => if x6 = true then ((impl_TypeOk.f x1).bind fun t532 => (some t532)) else (if x5 = 3 then (some (x1 == 0)) else (if x5 = 5 then (if x1 = 1 then (some true) else (some (x1 == 2))) else (if x5 = 6 then (some (x1 == 6)) else (if x5 = 7 then (some (x1 == 6)) else (if x0 = 9 then ((impl_wideOf.f x1).bind fun t533 => (some (decide (t533 > 0)))) else (some false))))))
def impl_EncOk.f (k : Nat) (a0 : Int) (a1 : Int) : Option (Bool) := if a0 = 0 then (impl_EncOk.j0 k a0 a1 a0 (a0 == 0)) else (impl_EncOk.j0 k a0 a1 a0 (a0 == 8))
set_option maxHeartbeats 8000000 in
set_option maxRecDepth 100000 in
theorem impl_EncOk.calls (k : Nat) (a0 : Int) (a1 : Int) (r : Bool) (w : World) (h : impl_EncOk.f k a0 a1 = some r) :
    Calls Try.prog 26 #[.int .i64 a0, .int .i64 a1] w fun e w' => e = .returned (.bool r) ∧ Drawn0 w w' := by
  have H : (if a0 = 0 then (impl_EncOk.j0 k a0 a1 a0 (a0 == 0)) else (impl_EncOk.j0 k a0 a1 a0 (a0 == 8))) = some r := h
  clear h
  have HC3 := Aside0.mk H
  clear H
  go_enter Try.func26, Try.ntmps26
  go_upto_if 6 with (fail)
  go_cut [6] (fun v6 wc => ∃ (kq : Nat) (x6_2 : Bool), v6 = .bool x6_2 ∧ Aside0 (impl_EncOk.j0 kq a0 a1 a0 x6_2 = some r) ∧ Aside0 (kq ≤ k) ∧ Drawn0 w wc)
  case first =>
    have H := HC3.out
    clear HC3
    by_cases c4 : a0 = 0
    · rw [if_pos c4] at H
      have c4b0 : (a0 == 0) = true := beq_iff_eq.mpr c4
      have c4b1 : (a0 != 0) = false := bne_eq_false_iff_eq.mpr c4
      clear c4
      (first | rw [c4b0] | rw [c4b1] | (simp only [i64_w, i32_w]; rw [c4b0]) | skip)
      have H' := Aside0.mk H
      clear H
      go_wp2
      go_meet
      case rel => exact ⟨_, ((a0 == 0)), sr, H', ⟨by first | omega | exact Nat.le_refl _⟩, by repeat (first | exact Drawn0.refl _ | apply Drawn0.step)⟩
    · rw [if_neg c4] at H
      have c4b0 : (a0 == 0) = false := beq_eq_false_iff_ne.mpr c4
      have c4b1 : (a0 != 0) = true := bne_iff_ne.mpr c4
      (first | rw [c4b0] | rw [c4b1] | (simp only [i64_w, i32_w]; rw [c4b0]) | skip)
      have H' := Aside0.mk H
      clear H
      go_wp2
      go_meet
      case rel => exact ⟨_, ((a0 == 8)), sr, H', ⟨by first | omega | exact Nat.le_refl _⟩, by repeat (first | exact Drawn0.refl _ | apply Drawn0.step)⟩
  case rest =>
    clear HC3
    obtain ⟨kq, x6_2, rfl, HA, HJ2, ⟨mc2, rfl⟩⟩ := hcut
    cases kq with
    | zero => exact absurd HA.out (by simp [impl_EncOk.j0])
    | succ kj2 =>
      have H := HA.out
      clear HA
      simp only [impl_EncOk.j0] at H
      by_cases c5 : x6_2 = true
      · subst c5
        replace H := ifp rfl H
        replace H := bnd H
        obtain ⟨t532, A6, H⟩ := H
        obtain rfl := Option.some.inj H
        go_wp2_with (first | ((with_reducible refine gate_callee (f := 58) rfl ?_); refine gl_ (some 10) Try.func58 #[.int .i64 a1] rfl ?_; (with_reducible refine (impl_TypeOk.calls a1 t532 _ A6.out).mono ?_); rintro e w' ⟨rfl, ⟨nd, rfl⟩⟩; refine ⟨_, rfl, ?_⟩))
        go_ret
        exact ⟨by first | rfl | (simp; done) | (simp [*]; done), by repeat (first | exact Drawn0.refl _ | apply Drawn0.step)⟩
      · replace c5 := Bool.eq_false_iff.mpr c5
        subst c5
        replace H := ifn Bool.false_ne_true H
        by_cases c7 : a0 = 3
        · rw [if_pos c7] at H
          have c7b0 : (a0 == 3) = true := beq_iff_eq.mpr c7
          have c7b1 : (a0 != 3) = false := bne_eq_false_iff_eq.mpr c7
          clear c7
          obtain rfl := Option.some.inj H
          go_wp2
          go_ret
          exact ⟨by first | rfl | (simp; done) | (simp [*]; done), by repeat (first | exact Drawn0.refl _ | apply Drawn0.step)⟩
        · rw [if_neg c7] at H
          have c7b0 : (a0 == 3) = false := beq_eq_false_iff_ne.mpr c7
          have c7b1 : (a0 != 3) = true := bne_iff_ne.mpr c7
          by_cases c8 : a0 = 5
          · rw [if_pos c8] at H
            have c8b0 : (a0 == 5) = true := beq_iff_eq.mpr c8
            have c8b1 : (a0 != 5) = false := bne_eq_false_iff_eq.mpr c8
            clear c8
            by_cases c9 : a1 = 1
            · rw [if_pos c9] at H
              have c9b0 : (a1 == 1) = true := beq_iff_eq.mpr c9
              have c9b1 : (a1 != 1) = false := bne_eq_false_iff_eq.mpr c9
              clear c9
              obtain rfl := Option.some.inj H
              go_wp2
              go_ret
              exact ⟨by first | rfl | (simp; done) | (simp [*]; done), by repeat (first | exact Drawn0.refl _ | apply Drawn0.step)⟩
            · rw [if_neg c9] at H
              have c9b0 : (a1 == 1) = false := beq_eq_false_iff_ne.mpr c9
              have c9b1 : (a1 != 1) = true := bne_iff_ne.mpr c9
              obtain rfl := Option.some.inj H
              go_wp2
              go_ret
              exact ⟨by first | rfl | (simp; done) | (simp [*]; done), by repeat (first | exact Drawn0.refl _ | apply Drawn0.step)⟩
          · rw [if_neg c8] at H
            have c8b0 : (a0 == 5) = false := beq_eq_false_iff_ne.mpr c8
            have c8b1 : (a0 != 5) = true := bne_iff_ne.mpr c8
            by_cases c10 : a0 = 6
            · rw [if_pos c10] at H
              have c10b0 : (a0 == 6) = true := beq_iff_eq.mpr c10
              have c10b1 : (a0 != 6) = false := bne_eq_false_iff_eq.mpr c10
              clear c10
              obtain rfl := Option.some.inj H
              go_wp2
              go_ret
              exact ⟨by first | rfl | (simp; done) | (simp [*]; done), by repeat (first | exact Drawn0.refl _ | apply Drawn0.step)⟩
            · rw [if_neg c10] at H
              have c10b0 : (a0 == 6) = false := beq_eq_false_iff_ne.mpr c10
              have c10b1 : (a0 != 6) = true := bne_iff_ne.mpr c10
              by_cases c11 : a0 = 7
              · rw [if_pos c11] at H
                have c11b0 : (a0 == 7) = true := beq_iff_eq.mpr c11
                have c11b1 : (a0 != 7) = false := bne_eq_false_iff_eq.mpr c11
                clear c11
                obtain rfl := Option.some.inj H
                go_wp2
                go_ret
                exact ⟨by first | rfl | (simp; done) | (simp [*]; done), by repeat (first | exact Drawn0.refl _ | apply Drawn0.step)⟩
              · rw [if_neg c11] at H
                have c11b0 : (a0 == 7) = false := beq_eq_false_iff_ne.mpr c11
                have c11b1 : (a0 != 7) = true := bne_iff_ne.mpr c11
                by_cases c12 : a0 = 9
                · rw [if_pos c12] at H
                  have c12b0 : (a0 == 9) = true := beq_iff_eq.mpr c12
                  have c12b1 : (a0 != 9) = false := bne_eq_false_iff_eq.mpr c12
                  clear c12
                  replace H := bnd H
                  obtain ⟨t533, A13, H⟩ := H
                  obtain rfl := Option.some.inj H
                  go_wp2_with (first | (go_at_call 59; (with_reducible refine (impl_wideOf.calls a1 t533 _ A13.out).mono ?_); rintro e w' ⟨rfl, ⟨nd, rfl⟩⟩))
                  go_ret
                  exact ⟨by first | rfl | (simp; done) | (simp [*]; done), by repeat (first | exact Drawn0.refl _ | apply Drawn0.step)⟩
                · rw [if_neg c12] at H
                  have c12b0 : (a0 == 9) = false := beq_eq_false_iff_ne.mpr c12
                  have c12b1 : (a0 != 9) = true := bne_iff_ne.mpr c12
                  obtain rfl := Option.some.inj H
                  go_wp2
                  go_ret
                  exact ⟨by first | rfl | (simp; done) | (simp [*]; done), by repeat (first | exact Drawn0.refl _ | apply Drawn0.step)⟩

/-! ### impl_isInt32: function 79 -/
def impl_isInt32.f (a0 : Int) : Option (Bool) := (impl_within.f a0 (-2147483648) 2147483647).bind fun t534 => (some t534)
set_option maxHeartbeats 8000000 in
set_option maxRecDepth 100000 in
theorem impl_isInt32.calls (a0 : Int) (r : Bool) (w : World) (h : impl_isInt32.f a0 = some r) :
    Calls Try.prog 79 #[.int .i64 a0] w fun e w' => e = .returned (.bool r) ∧ Drawn0 w w' := by
  have H : ((impl_within.f a0 (-2147483648) 2147483647).bind fun t534 => (some t534)) = some r := h
  clear h
  replace H := bnd H
  obtain ⟨t534, A2, H⟩ := H
  obtain rfl := Option.some.inj H
  go_enter Try.func79, Try.ntmps79
  go_wp2_with (first | ((with_reducible refine gate_callee (f := 73) rfl ?_); refine gl_ (some 4) Try.func73 #[.int .i64 a0, .int .i64 (-2147483648), .int .i64 2147483647] rfl ?_; (with_reducible refine (impl_within.calls a0 (-2147483648) 2147483647 t534 _ A2.out).mono ?_); rintro e w' ⟨rfl, ⟨nd, rfl⟩⟩; refine ⟨_, rfl, ?_⟩))
  go_ret
  exact ⟨by first | rfl | (simp; done) | (simp [*]; done), by repeat (first | exact Drawn0.refl _ | apply Drawn0.step)⟩

end Go.Proofs.Ytkocikdceojnmaa.PFnExactEncPack
