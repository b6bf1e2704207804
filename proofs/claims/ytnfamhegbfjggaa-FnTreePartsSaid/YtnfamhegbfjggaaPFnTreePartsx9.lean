/- The machine's side of FnTreeParts, written by wip/tools/hyb.py of this repo: each Go function as a plain Lean function, and the proof that the call comes to just its answer. No condition. -/
import Derived.Test.YtnfamhegbfjggaaPFnTreePartsx0
import Derived.Test.YtnfamhegbfjggaaPFnTreePartsx1
import Derived.Test.YtnfamhegbfjggaaPFnTreePartsx4
import Derived.Test.YtnfamhegbfjggaaPFnTreePartsx6
import Derived.Test.YtnfamhegbfjggaaPFnTreePartsx8
namespace Go.Proofs.Ytnfamhegbfjggaa.PFnTreeParts
open Go.RowKit Go.Proofs.YtnfamhegbfjggaaW.PrintWords Go.Proofs.YtnfamhegbfjggaaW.PrintLast Go.Proofs.YtnfamhegbfjggaaW.PrintMore Go.Proofs.YtnfamhegbfjggaaW.PrintMore2
attribute [local go_sem] max2_int min2_int max_two min_two max_three min_three max_four min_four   -- for this text's walks alone
set_option linter.unusedVariables false
set_option linter.unusedSimpArgs false

/-! ### laws_FnTreeParts: function 6 -/
mutual
def laws_FnTreeParts.l0 : Nat → List (S53) → Int → Int → Int → Int → Int → Int → Int → ByteArray → Int → Option (Bool)
  | 0, _, _, _, _, _, _, _, _, _, _ => none
  | k + 1, x3, x4, x5, x7, x8, x347000, x347001, x347002, x347003, x347004 => if x8 < x347004 then (if x347000 = 12 then (if 0 ≤ x7 then (if x7 < (x3.length : Int) then ((impl_TreeFind.f k x3 x4 ((rd_T53 x3 x7).f1)).bind fun t348 => (laws_FnTreeParts.j1 k x3 x4 x5 x7 x8 (t348 != x7) x347000 x347001 x347002 x347003 x347004)) else (none)) else (none)) else (laws_FnTreeParts.j1 k x3 x4 x5 x7 x8 false x347000 x347001 x347002 x347003 x347004)) else (if x7 = x5 then (some (decide (x5 ≤ (x3.length : Int)))) else (some false))
def laws_FnTreeParts.j1 : Nat → List (S53) → Int → Int → Int → Int → Bool → Int → Int → Int → ByteArray → Int → Option (Bool)
  | 0, _, _, _, _, _, _, _, _, _, _, _ => none
  | k + 1, x3, x4, x5, x7, x8, x58, x347000, x347001, x347002, x347003, x347004 => if x58 = true then (some false) else (if 0 ≤ x7 then (if x7 < (x3.length : Int) then ((impl_TreeNumOf.f k x3 x4 ((rd_T53 x3 x7).f1)).bind fun bt350 => (if x347000 = 12 then (if ((rd_T53 x3 x7).f0) = 5 then (if (bt350.2 != true) = true then (some false) else (if bt350.2 = true then (if bt350.1 = ((rd_T53 x3 x7).f2) then ((impl_TreeAfter.f k x3 x7).bind fun t354 => (laws_FnTreeParts.l0 k x3 x4 x5 t354 (wrap64 (x8 + 1)) x347000 x347001 x347002 x347003 x347004)) else (some false)) else ((impl_TreeAfter.f k x3 x7).bind fun t355 => (laws_FnTreeParts.l0 k x3 x4 x5 t355 (wrap64 (x8 + 1)) x347000 x347001 x347002 x347003 x347004)))) else (if (bt350.2 != (((rd_T53 x3 x7).f0) == 6)) = true then (some false) else (if bt350.2 = true then (if bt350.1 = ((rd_T53 x3 x7).f2) then ((impl_TreeAfter.f k x3 x7).bind fun t358 => (laws_FnTreeParts.l0 k x3 x4 x5 t358 (wrap64 (x8 + 1)) x347000 x347001 x347002 x347003 x347004)) else (some false)) else ((impl_TreeAfter.f k x3 x7).bind fun t359 => (laws_FnTreeParts.l0 k x3 x4 x5 t359 (wrap64 (x8 + 1)) x347000 x347001 x347002 x347003 x347004))))) else (if bt350.2 = true then (if bt350.1 = ((rd_T53 x3 x7).f2) then ((impl_TreeAfter.f k x3 x7).bind fun t361 => (laws_FnTreeParts.l0 k x3 x4 x5 t361 (wrap64 (x8 + 1)) x347000 x347001 x347002 x347003 x347004)) else (some false)) else ((impl_TreeAfter.f k x3 x7).bind fun t362 => (laws_FnTreeParts.l0 k x3 x4 x5 t362 (wrap64 (x8 + 1)) x347000 x347001 x347002 x347003 x347004))))) else (none)) else (none))
end
def laws_FnTreeParts.f (k : Nat) (l0 : List Int) : Option (Bool) := (laws_big.f l0).bind fun t337 => (if t337 = true then (some true) else ((spec_DrawTreeAfter.f k l0).bind fun bt338 => ((impl_TreeAfter.f k bt338.1 bt338.2).bind fun t342 => ((spec_TreeAfter.f k bt338.1 bt338.2).bind fun t343 => (if t342 = t343 then (if t342 < 0 then ((impl_TreeFind.f k bt338.1 bt338.2 1).bind fun t344 => (some (t344 == (-1)))) else (if 0 ≤ bt338.2 then (if bt338.2 < (bt338.1.length : Int) then (laws_FnTreeParts.l0 k bt338.1 bt338.2 t342 (wrap64 (bt338.2 + 1)) 0 ((rd_T53 bt338.1 bt338.2).f0) ((rd_T53 bt338.1 bt338.2).f1) ((rd_T53 bt338.1 bt338.2).f2) ((rd_T53 bt338.1 bt338.2).f3) ((rd_T53 bt338.1 bt338.2).f4)) else (none)) else (none))) else (some false))))))
theorem laws_FnTreeParts.mono_l : ∀ k, (∀ y0 y1 y2 y3 y4 y5 y6 y7 y8 y9, LeO (laws_FnTreeParts.l0 k y0 y1 y2 y3 y4 y5 y6 y7 y8 y9) (laws_FnTreeParts.l0 (k + 1) y0 y1 y2 y3 y4 y5 y6 y7 y8 y9)) ∧ (∀ y0 y1 y2 y3 y4 y5 y6 y7 y8 y9 y10, LeO (laws_FnTreeParts.j1 k y0 y1 y2 y3 y4 y5 y6 y7 y8 y9 y10) (laws_FnTreeParts.j1 (k + 1) y0 y1 y2 y3 y4 y5 y6 y7 y8 y9 y10))
  | 0 => ⟨fun _ _ _ _ _ _ _ _ _ _ r h => by simp [laws_FnTreeParts.l0] at h, fun _ _ _ _ _ _ _ _ _ _ _ r h => by simp [laws_FnTreeParts.j1] at h⟩
  | k + 1 => by
    obtain ⟨ih0, ih1⟩ := laws_FnTreeParts.mono_l k
    refine ⟨?_, ?_⟩
    · intro y0 y1 y2 y3 y4 y5 y6 y7 y8 y9
      unfold laws_FnTreeParts.l0
      repeat' first
      | (with_reducible exact ih0 _ _ _ _ _ _ _ _ _ _)
      | (with_reducible exact ih1 _ _ _ _ _ _ _ _ _ _ _)
      | (with_reducible exact impl_TreeAfter.mono _ _ _)
      | (with_reducible exact impl_TreeFind.mono _ _ _ _)
      | (with_reducible exact impl_TreeNumOf.mono _ _ _ _)
      | (with_reducible exact spec_DrawTreeAfter.mono _ _)
      | (with_reducible exact spec_TreeAfter.mono _ _ _)
      | (with_reducible exact LeO.refl _)
      | (with_reducible exact LeO.none _)
      | (with_reducible refine LeO.ite ?_ ?_)
      | (with_reducible refine LeO.bind ?_ (fun _ => ?_))
      | exact ih0 _ _ _ _ _ _ _ _ _ _
      | exact ih1 _ _ _ _ _ _ _ _ _ _ _
      | exact impl_TreeAfter.mono _ _ _
      | exact impl_TreeFind.mono _ _ _ _
      | exact impl_TreeNumOf.mono _ _ _ _
      | exact spec_DrawTreeAfter.mono _ _
      | exact spec_TreeAfter.mono _ _ _
      | exact LeO.none _
      | refine LeO.ite ?_ ?_
      | refine LeO.bind ?_ (fun _ => ?_)
    · intro y0 y1 y2 y3 y4 y5 y6 y7 y8 y9 y10
      unfold laws_FnTreeParts.j1
      repeat' first
      | (with_reducible exact ih0 _ _ _ _ _ _ _ _ _ _)
      | (with_reducible exact ih1 _ _ _ _ _ _ _ _ _ _ _)
      | (with_reducible exact impl_TreeAfter.mono _ _ _)
      | (with_reducible exact impl_TreeFind.mono _ _ _ _)
      | (with_reducible exact impl_TreeNumOf.mono _ _ _ _)
      | (with_reducible exact spec_DrawTreeAfter.mono _ _)
      | (with_reducible exact spec_TreeAfter.mono _ _ _)
      | (with_reducible exact LeO.refl _)
      | (with_reducible exact LeO.none _)
      | (with_reducible refine LeO.ite ?_ ?_)
      | (with_reducible refine LeO.bind ?_ (fun _ => ?_))
      | exact ih0 _ _ _ _ _ _ _ _ _ _
      | exact ih1 _ _ _ _ _ _ _ _ _ _ _
      | exact impl_TreeAfter.mono _ _ _
      | exact impl_TreeFind.mono _ _ _ _
      | exact impl_TreeNumOf.mono _ _ _ _
      | exact spec_DrawTreeAfter.mono _ _
      | exact spec_TreeAfter.mono _ _ _
      | exact LeO.none _
      | refine LeO.ite ?_ ?_
      | refine LeO.bind ?_ (fun _ => ?_)
theorem laws_FnTreeParts.mono : ∀ a0 k, LeO (laws_FnTreeParts.f k a0) (laws_FnTreeParts.f (k + 1) a0) := by
  intro a0 k
  obtain ⟨ih0, ih1⟩ := laws_FnTreeParts.mono_l k
  unfold laws_FnTreeParts.f
  repeat' first
      | (with_reducible exact ih0 _ _ _ _ _ _ _ _ _ _)
      | (with_reducible exact ih1 _ _ _ _ _ _ _ _ _ _ _)
      | (with_reducible exact impl_TreeAfter.mono _ _ _)
      | (with_reducible exact impl_TreeFind.mono _ _ _ _)
      | (with_reducible exact impl_TreeNumOf.mono _ _ _ _)
      | (with_reducible exact spec_DrawTreeAfter.mono _ _)
      | (with_reducible exact spec_TreeAfter.mono _ _ _)
      | (with_reducible exact LeO.refl _)
      | (with_reducible exact LeO.none _)
      | (with_reducible refine LeO.ite ?_ ?_)
      | (with_reducible refine LeO.bind ?_ (fun _ => ?_))
      | exact ih0 _ _ _ _ _ _ _ _ _ _
      | exact ih1 _ _ _ _ _ _ _ _ _ _ _
      | exact impl_TreeAfter.mono _ _ _
      | exact impl_TreeFind.mono _ _ _ _
      | exact impl_TreeNumOf.mono _ _ _ _
      | exact spec_DrawTreeAfter.mono _ _
      | exact spec_TreeAfter.mono _ _ _
      | exact LeO.none _
      | refine LeO.ite ?_ ?_
      | refine LeO.bind ?_ (fun _ => ?_)
set_option maxHeartbeats 8000000 in
set_option maxRecDepth 100000 in
theorem laws_FnTreeParts.calls (k : Nat) (A0 : Option Addr) (c0 : Nat) (l0 : List Int) (r : Bool) (w : World) (hr0 : Kd.C (Kd.int .u8) w A0 l0.length l0) (hc0 : l0.length ≤ c0) (h : laws_FnTreeParts.f k l0 = some r) :
    Calls Try.prog 6 #[.slice A0 l0.length c0] w fun e w' => e = .returned (.bool r) ∧ Below w.heap.size w w' := by
  have hu53 := Try.underlying53
  have HR0 := Aside0.mk hr0
  have HC0 := Aside0.mk hc0
  clear hr0 hc0
  have HB := Aside0.mk (Below.refl w.heap.size w)
  have H : ((laws_big.f l0).bind fun t337 => (if t337 = true then (some true) else ((spec_DrawTreeAfter.f k l0).bind fun bt338 => ((impl_TreeAfter.f k bt338.1 bt338.2).bind fun t342 => ((spec_TreeAfter.f k bt338.1 bt338.2).bind fun t343 => (if t342 = t343 then (if t342 < 0 then ((impl_TreeFind.f k bt338.1 bt338.2 1).bind fun t344 => (some (t344 == (-1)))) else (if 0 ≤ bt338.2 then (if bt338.2 < (bt338.1.length : Int) then (laws_FnTreeParts.l0 k bt338.1 bt338.2 t342 (wrap64 (bt338.2 + 1)) 0 ((rd_T53 bt338.1 bt338.2).f0) ((rd_T53 bt338.1 bt338.2).f1) ((rd_T53 bt338.1 bt338.2).f2) ((rd_T53 bt338.1 bt338.2).f3) ((rd_T53 bt338.1 bt338.2).f4)) else (none)) else (none))) else (some false))))))) = some r := h
  clear h
  replace H := Option.bind_eq_some_iff.mp H
  obtain ⟨t337, A20, H⟩ := H
  replace H : (if t337 = true then (some true) else ((spec_DrawTreeAfter.f k l0).bind fun bt338 => ((impl_TreeAfter.f k bt338.1 bt338.2).bind fun t342 => ((spec_TreeAfter.f k bt338.1 bt338.2).bind fun t343 => (if t342 = t343 then (if t342 < 0 then ((impl_TreeFind.f k bt338.1 bt338.2 1).bind fun t344 => (some (t344 == (-1)))) else (if 0 ≤ bt338.2 then (if bt338.2 < (bt338.1.length : Int) then (laws_FnTreeParts.l0 k bt338.1 bt338.2 t342 (wrap64 (bt338.2 + 1)) 0 ((rd_T53 bt338.1 bt338.2).f0) ((rd_T53 bt338.1 bt338.2).f1) ((rd_T53 bt338.1 bt338.2).f2) ((rd_T53 bt338.1 bt338.2).f3) ((rd_T53 bt338.1 bt338.2).f4)) else (none)) else (none))) else (some false)))))) = some r := H
  have A2 := Aside0.mk A20
  clear A20
  by_cases c3 : t337 = true
  · subst c3
    have H1 : (some true) = some r := by rw [if_pos rfl] at H; exact H
    clear H
    have H := H1
    clear H1
    obtain rfl := Option.some.inj H
    go_enter Try.func6, Try.ntmps6
    go_wp2_with (first | ((with_reducible refine gate_callee (f := 33) rfl ?_); refine goesL_ (some 12) rfl rfl Try.func33 (by kernel_rfl) rfl #[.slice A0 l0.length c0] rfl (by (try simp only [List.map_toArray, List.map_cons, List.map_nil]); first | done | rfl | (simp only [List.length_drop, List.length_take]; rfl)) ?_; (with_reducible refine (laws_big.calls _ _ l0 true _ ?side1 ?side2 A2.out).mono ?_); (case side1 => repeat (first | exact HR0.out | (with_reducible refine Kd.C_alloc ?_ _) | (with_reducible refine Kd.C_drewN ?_ _) | (with_reducible refine Kd.C_drew ?_))); (case side2 => exact HC0.out); rintro e w' ⟨rfl, ⟨nd, rfl⟩⟩; refine ⟨_, rfl, ?_⟩))
    go_ret
    exact ⟨by first | rfl | (simp [errW_none, errW_some] <;> rfl) | (simp [*, errW_none, errW_some] <;> rfl), by repeat (first | (with_reducible first | exact HB.out | apply below_alloc | apply pw_below_drewN | apply below_drew1) | exact HB.out)⟩
  · replace c3 := Bool.eq_false_iff.mpr c3
    subst c3
    have H1 : ((spec_DrawTreeAfter.f k l0).bind fun bt338 => ((impl_TreeAfter.f k bt338.1 bt338.2).bind fun t342 => ((spec_TreeAfter.f k bt338.1 bt338.2).bind fun t343 => (if t342 = t343 then (if t342 < 0 then ((impl_TreeFind.f k bt338.1 bt338.2 1).bind fun t344 => (some (t344 == (-1)))) else (if 0 ≤ bt338.2 then (if bt338.2 < (bt338.1.length : Int) then (laws_FnTreeParts.l0 k bt338.1 bt338.2 t342 (wrap64 (bt338.2 + 1)) 0 ((rd_T53 bt338.1 bt338.2).f0) ((rd_T53 bt338.1 bt338.2).f1) ((rd_T53 bt338.1 bt338.2).f2) ((rd_T53 bt338.1 bt338.2).f3) ((rd_T53 bt338.1 bt338.2).f4)) else (none)) else (none))) else (some false))))) = some r := by rw [if_neg (show ¬ (false = true) by decide)] at H; exact H
    clear H
    have H := H1
    clear H1
    replace H := Option.bind_eq_some_iff.mp H
    obtain ⟨⟨t338, t339⟩, A40, H⟩ := H
    replace H : ((impl_TreeAfter.f k t338 t339).bind fun t342 => ((spec_TreeAfter.f k t338 t339).bind fun t343 => (if t342 = t343 then (if t342 < 0 then ((impl_TreeFind.f k t338 t339 1).bind fun t344 => (some (t344 == (-1)))) else (if 0 ≤ t339 then (if t339 < (t338.length : Int) then (laws_FnTreeParts.l0 k t338 t339 t342 (wrap64 (t339 + 1)) 0 ((rd_T53 t338 t339).f0) ((rd_T53 t338 t339).f1) ((rd_T53 t338 t339).f2) ((rd_T53 t338 t339).f3) ((rd_T53 t338 t339).f4)) else (none)) else (none))) else (some false)))) = some r := H
    have A4 := Aside0.mk A40
    clear A40
    replace H := Option.bind_eq_some_iff.mp H
    obtain ⟨t342, A50, H⟩ := H
    replace H : ((spec_TreeAfter.f k t338 t339).bind fun t343 => (if t342 = t343 then (if t342 < 0 then ((impl_TreeFind.f k t338 t339 1).bind fun t344 => (some (t344 == (-1)))) else (if 0 ≤ t339 then (if t339 < (t338.length : Int) then (laws_FnTreeParts.l0 k t338 t339 t342 (wrap64 (t339 + 1)) 0 ((rd_T53 t338 t339).f0) ((rd_T53 t338 t339).f1) ((rd_T53 t338 t339).f2) ((rd_T53 t338 t339).f3) ((rd_T53 t338 t339).f4)) else (none)) else (none))) else (some false))) = some r := H
    have A5 := Aside0.mk A50
    clear A50
    replace H := Option.bind_eq_some_iff.mp H
    obtain ⟨t343, A60, H⟩ := H
    replace H : (if t342 = t343 then (if t342 < 0 then ((impl_TreeFind.f k t338 t339 1).bind fun t344 => (some (t344 == (-1)))) else (if 0 ≤ t339 then (if t339 < (t338.length : Int) then (laws_FnTreeParts.l0 k t338 t339 t342 (wrap64 (t339 + 1)) 0 ((rd_T53 t338 t339).f0) ((rd_T53 t338 t339).f1) ((rd_T53 t338 t339).f2) ((rd_T53 t338 t339).f3) ((rd_T53 t338 t339).f4)) else (none)) else (none))) else (some false)) = some r := H
    have A6 := Aside0.mk A60
    clear A60
    by_cases c7 : t342 = t343
    · rw [if_pos c7] at H
      have c7b0 : (t342 == t343) = true := beq_iff_eq.mpr c7
      have c7b1 : (t342 != t343) = false := bne_eq_false_iff_eq.mpr c7
      clear c7
      by_cases c8 : t342 < 0
      · rw [if_pos c8] at H
        have c8b0 : decide (t342 < 0) = true := decide_eq_true c8
        clear c8
        replace H := Option.bind_eq_some_iff.mp H
        obtain ⟨t344, A90, H⟩ := H
        replace H : (some (t344 == (-1))) = some r := H
        have A9 := Aside0.mk A90
        clear A90
        obtain rfl := Option.some.inj H
        go_enter Try.func6, Try.ntmps6
        go_wp2_with (first | ((with_reducible refine gate_callee (f := 33) rfl ?_); refine goesL_ (some 12) rfl rfl Try.func33 (by kernel_rfl) rfl #[.slice A0 l0.length c0] rfl (by (try simp only [List.map_toArray, List.map_cons, List.map_nil]); first | done | rfl | (simp only [List.length_drop, List.length_take]; rfl)) ?_; (with_reducible refine (laws_big.calls _ _ l0 false _ ?side1 ?side2 A2.out).mono ?_); (case side1 => repeat (first | exact HR0.out | (with_reducible refine Kd.C_alloc ?_ _) | (with_reducible refine Kd.C_drewN ?_ _) | (with_reducible refine Kd.C_drew ?_))); (case side2 => exact HC0.out); rintro e w' ⟨rfl, ⟨nd, rfl⟩⟩; refine ⟨_, rfl, ?_⟩) | ((with_reducible refine gate_callee (f := 34) rfl ?_); refine goesL_ (some 15) rfl rfl Try.func34 (by kernel_rfl) rfl #[.slice A0 l0.length c0] rfl (by (try simp only [List.map_toArray, List.map_cons, List.map_nil]); first | done | rfl | (simp only [List.length_drop, List.length_take]; rfl)) ?_; (with_reducible refine (spec_DrawTreeAfter.calls k _ _ l0 t338 t339 _ ?side1 ?side2 A4.out).mono ?_); (case side1 => repeat (first | exact HR0.out | (with_reducible refine Kd.C_alloc ?_ _) | (with_reducible refine Kd.C_drewN ?_ _) | (with_reducible refine Kd.C_drew ?_))); (case side2 => exact HC0.out); rintro e w10 ⟨v340, rfl, ho0, hb⟩; refine ⟨_, rfl, ?_⟩; have n0_ := Aside0.mk (Kd.R_lower ho0 (below_size (by repeat (first | (with_reducible first | exact HB.out | apply below_alloc | apply pw_below_drewN | apply below_drew1) | exact HB.out)))); have n1_ := Aside0.mk (below_step (by repeat (first | (with_reducible first | exact HB.out | apply below_alloc | apply pw_below_drewN | apply below_drew1) | exact HB.out)) hb); clear HB; have HO341 := n0_; have HB := n1_; clear n0_ n1_; (try clear hb); (try clear hb2); (try clear hk); (try clear hi); (try clear ho0); obtain ⟨Ao11, co11, eo11⟩ := Kd.R_slice HO341.out; subst eo11) | ((with_reducible refine gate_callee (f := 35) rfl ?_); refine goesL_ (some 20) rfl rfl Try.func35 (by kernel_rfl) rfl #[.slice Ao11 t338.length co11, .int .i64 t339] rfl (by (try simp only [List.map_toArray, List.map_cons, List.map_nil]); first | done | rfl | (simp only [List.length_drop, List.length_take]; rfl)) ?_; (with_reducible refine (impl_TreeAfter.calls k _ _ t338 t339 t342 _ ?side1 ?side2 A5.out).mono ?_); (case side1 => repeat (first | exact (Kd.R_reads' HO341.out).2.2 | (with_reducible refine Kd.C_alloc ?_ _) | (with_reducible refine Kd.C_drewN ?_ _) | (with_reducible refine Kd.C_drew ?_))); (case side2 => exact (Kd.R_reads' HO341.out).2.1); rintro e w12 ⟨rfl, hb⟩; refine ⟨_, rfl, ?_⟩; have n0_ := Aside0.mk (Kd.R_below (by (with_reducible repeat (first | apply Kd.R_alloc | apply Kd.R_drewN | apply Kd.R_drew)); exact HO341.out) hb); have n1_ := Aside0.mk (below_step (by repeat (first | (with_reducible first | exact HB.out | apply below_alloc | apply pw_below_drewN | apply below_drew1) | exact HB.out)) hb); clear HO341; clear HB; have HO341 := n0_; have HB := n1_; clear n0_ n1_; (try clear hb); (try clear hb2); (try clear hk); (try clear hi)) | ((with_reducible refine gate_callee (f := 36) rfl ?_); refine goesL_ (some 24) rfl rfl Try.func36 (by kernel_rfl) rfl #[.slice Ao11 t338.length co11, .int .i64 t339] rfl (by (try simp only [List.map_toArray, List.map_cons, List.map_nil]); first | done | rfl | (simp only [List.length_drop, List.length_take]; rfl)) ?_; (with_reducible refine (spec_TreeAfter.calls k _ _ t338 t339 t343 _ ?side1 ?side2 A6.out).mono ?_); (case side1 => repeat (first | exact (Kd.R_reads' HO341.out).2.2 | (with_reducible refine Kd.C_alloc ?_ _) | (with_reducible refine Kd.C_drewN ?_ _) | (with_reducible refine Kd.C_drew ?_))); (case side2 => exact (Kd.R_reads' HO341.out).2.1); rintro e w13 ⟨rfl, hb⟩; refine ⟨_, rfl, ?_⟩; have n0_ := Aside0.mk (Kd.R_below (by (with_reducible repeat (first | apply Kd.R_alloc | apply Kd.R_drewN | apply Kd.R_drew)); exact HO341.out) hb); have n1_ := Aside0.mk (below_step (by repeat (first | (with_reducible first | exact HB.out | apply below_alloc | apply pw_below_drewN | apply below_drew1) | exact HB.out)) hb); clear HO341; clear HB; have HO341 := n0_; have HB := n1_; clear n0_ n1_; (try clear hb); (try clear hb2); (try clear hk); (try clear hi)) | ((with_reducible refine gate_callee (f := 37) rfl ?_); refine goesL_ (some 30) rfl rfl Try.func37 (by kernel_rfl) rfl #[.slice Ao11 t338.length co11, .int .i64 t339, .int .i64 1] rfl (by (try simp only [List.map_toArray, List.map_cons, List.map_nil]); first | done | rfl | (simp only [List.length_drop, List.length_take]; rfl)) ?_; (with_reducible refine (impl_TreeFind.calls k _ _ t338 t339 1 t344 _ ?side1 ?side2 A9.out).mono ?_); (case side1 => repeat (first | exact (Kd.R_reads' HO341.out).2.2 | (with_reducible refine Kd.C_alloc ?_ _) | (with_reducible refine Kd.C_drewN ?_ _) | (with_reducible refine Kd.C_drew ?_))); (case side2 => exact (Kd.R_reads' HO341.out).2.1); rintro e w14 ⟨rfl, hb⟩; refine ⟨_, rfl, ?_⟩; have n0_ := Aside0.mk (Kd.R_below (by (with_reducible repeat (first | apply Kd.R_alloc | apply Kd.R_drewN | apply Kd.R_drew)); exact HO341.out) hb); have n1_ := Aside0.mk (below_step (by repeat (first | (with_reducible first | exact HB.out | apply below_alloc | apply pw_below_drewN | apply below_drew1) | exact HB.out)) hb); clear HO341; clear HB; have HO341 := n0_; have HB := n1_; clear n0_ n1_; (try clear hb); (try clear hb2); (try clear hk); (try clear hi)))
        go_ret
        exact ⟨by first | rfl | (simp [errW_none, errW_some] <;> rfl) | (simp [*, errW_none, errW_some] <;> rfl), by repeat (first | (with_reducible first | exact HB.out | apply below_alloc | apply pw_below_drewN | apply below_drew1) | exact HB.out)⟩
      · rw [if_neg c8] at H
        have c8b0 : decide (t342 < 0) = false := decide_eq_false c8
        clear c8
        by_cases c15 : 0 ≤ t339
        · rw [if_pos c15] at H
          have c15b0 : decide (0 ≤ t339) = true := decide_eq_true c15
          clear c15
          by_cases c16 : t339 < (t338.length : Int)
          · rw [if_pos c16] at H
            have c16b0 : decide (t339 < (t338.length : Int)) = true := decide_eq_true c16
            clear c16
            have H' := Aside0.mk H
            clear H
            go_enter Try.func6, Try.ntmps6
            go_wp2_with (first | ((with_reducible refine gate_callee (f := 33) rfl ?_); refine goesL_ (some 12) rfl rfl Try.func33 (by kernel_rfl) rfl #[.slice A0 l0.length c0] rfl (by (try simp only [List.map_toArray, List.map_cons, List.map_nil]); first | done | rfl | (simp only [List.length_drop, List.length_take]; rfl)) ?_; (with_reducible refine (laws_big.calls _ _ l0 false _ ?side1 ?side2 A2.out).mono ?_); (case side1 => repeat (first | exact HR0.out | (with_reducible refine Kd.C_alloc ?_ _) | (with_reducible refine Kd.C_drewN ?_ _) | (with_reducible refine Kd.C_drew ?_))); (case side2 => exact HC0.out); rintro e w' ⟨rfl, ⟨nd, rfl⟩⟩; refine ⟨_, rfl, ?_⟩) | ((with_reducible refine gate_callee (f := 34) rfl ?_); refine goesL_ (some 15) rfl rfl Try.func34 (by kernel_rfl) rfl #[.slice A0 l0.length c0] rfl (by (try simp only [List.map_toArray, List.map_cons, List.map_nil]); first | done | rfl | (simp only [List.length_drop, List.length_take]; rfl)) ?_; (with_reducible refine (spec_DrawTreeAfter.calls k _ _ l0 t338 t339 _ ?side1 ?side2 A4.out).mono ?_); (case side1 => repeat (first | exact HR0.out | (with_reducible refine Kd.C_alloc ?_ _) | (with_reducible refine Kd.C_drewN ?_ _) | (with_reducible refine Kd.C_drew ?_))); (case side2 => exact HC0.out); rintro e w17 ⟨v340, rfl, ho0, hb⟩; refine ⟨_, rfl, ?_⟩; have n0_ := Aside0.mk (Kd.R_lower ho0 (below_size (by repeat (first | (with_reducible first | exact HB.out | apply below_alloc | apply pw_below_drewN | apply below_drew1) | exact HB.out)))); have n1_ := Aside0.mk (below_step (by repeat (first | (with_reducible first | exact HB.out | apply below_alloc | apply pw_below_drewN | apply below_drew1) | exact HB.out)) hb); clear HB; have HO341 := n0_; have HB := n1_; clear n0_ n1_; (try clear hb); (try clear hb2); (try clear hk); (try clear hi); (try clear ho0); obtain ⟨Ao18, co18, eo18⟩ := Kd.R_slice HO341.out; subst eo18) | ((with_reducible refine gate_callee (f := 35) rfl ?_); refine goesL_ (some 20) rfl rfl Try.func35 (by kernel_rfl) rfl #[.slice Ao18 t338.length co18, .int .i64 t339] rfl (by (try simp only [List.map_toArray, List.map_cons, List.map_nil]); first | done | rfl | (simp only [List.length_drop, List.length_take]; rfl)) ?_; (with_reducible refine (impl_TreeAfter.calls k _ _ t338 t339 t342 _ ?side1 ?side2 A5.out).mono ?_); (case side1 => repeat (first | exact (Kd.R_reads' HO341.out).2.2 | (with_reducible refine Kd.C_alloc ?_ _) | (with_reducible refine Kd.C_drewN ?_ _) | (with_reducible refine Kd.C_drew ?_))); (case side2 => exact (Kd.R_reads' HO341.out).2.1); rintro e w19 ⟨rfl, hb⟩; refine ⟨_, rfl, ?_⟩; have n0_ := Aside0.mk (Kd.R_below (by (with_reducible repeat (first | apply Kd.R_alloc | apply Kd.R_drewN | apply Kd.R_drew)); exact HO341.out) hb); have n1_ := Aside0.mk (below_step (by repeat (first | (with_reducible first | exact HB.out | apply below_alloc | apply pw_below_drewN | apply below_drew1) | exact HB.out)) hb); clear HO341; clear HB; have HO341 := n0_; have HB := n1_; clear n0_ n1_; (try clear hb); (try clear hb2); (try clear hk); (try clear hi)) | ((with_reducible refine gate_callee (f := 36) rfl ?_); refine goesL_ (some 24) rfl rfl Try.func36 (by kernel_rfl) rfl #[.slice Ao18 t338.length co18, .int .i64 t339] rfl (by (try simp only [List.map_toArray, List.map_cons, List.map_nil]); first | done | rfl | (simp only [List.length_drop, List.length_take]; rfl)) ?_; (with_reducible refine (spec_TreeAfter.calls k _ _ t338 t339 t343 _ ?side1 ?side2 A6.out).mono ?_); (case side1 => repeat (first | exact (Kd.R_reads' HO341.out).2.2 | (with_reducible refine Kd.C_alloc ?_ _) | (with_reducible refine Kd.C_drewN ?_ _) | (with_reducible refine Kd.C_drew ?_))); (case side2 => exact (Kd.R_reads' HO341.out).2.1); rintro e w20 ⟨rfl, hb⟩; refine ⟨_, rfl, ?_⟩; have n0_ := Aside0.mk (Kd.R_below (by (with_reducible repeat (first | apply Kd.R_alloc | apply Kd.R_drewN | apply Kd.R_drew)); exact HO341.out) hb); have n1_ := Aside0.mk (below_step (by repeat (first | (with_reducible first | exact HB.out | apply below_alloc | apply pw_below_drewN | apply below_drew1) | exact HB.out)) hb); clear HO341; clear HB; have HO341 := n0_; have HB := n1_; clear n0_ n1_; (try clear hb); (try clear hb2); (try clear hk); (try clear hi); have p345 : 0 ≤ (t339 : Int) := of_decide_eq_true (by first | (with_reducible assumption) | assumption); have q345 : t339 < (t338.length : Int) := of_decide_eq_true (by first | (with_reducible assumption) | assumption); obtain ⟨ad345, e345, hx345_0, hx345_1, hx345_2, hx345_3, hx345_4⟩ := at_T53 (Kd.R_reads' HO341.out).2.2 t339 p345 q345; cases e345; replace p345 := eq_true p345; replace q345 := eq_true q345) | ((with_reducible refine gate_dst (N := 6) rfl ?_); (try (refine gate_guard (by rfl) ?_; dsimp only)); refine box_event ?hg (N := 6) ?hd (cs := #[.int .i64 0, .int .i64 0, .int .i64 0, .string (⟨#[]⟩ : ByteArray), .int .i64 0]) (t := 53) ?hr ?_; (case hd => rfl); (case hg => rfl); (case hr => first | (go_simp; done) | (go_simp; rfl)); intro gb346 hg w21 hbox hb; have n0_ := Aside0.mk (Kd.R_below (Kd.R_elderB (by (with_reducible repeat (first | apply Kd.R_alloc | apply Kd.R_drewN | apply Kd.R_drew)); exact HO341.out) gb346 (Nat.le_of_eq hg.symm)) hb); have n1_ := Aside0.mk (below_step (by repeat (first | (with_reducible first | exact HB.out | apply below_alloc | apply pw_below_drewN | apply below_drew1) | exact HB.out)) hb); have n2_ := Aside0.mk (hbox); have n3_ := Aside0.mk ((by rw [hg]; exact (below_size (by repeat (first | (with_reducible first | exact HB.out | apply below_alloc | apply pw_below_drewN | apply below_drew1) | exact HB.out))) : w.heap.size ≤ gb346)); have n4_ := Aside0.mk ((by rw [hg]; exact (below_size (by repeat (first | (with_reducible first | exact HB.out | apply below_alloc | apply pw_below_drewN | apply below_drew1) | exact HB.out))) : w.heap.size ≤ gb346)); clear HO341; clear HB; have HO341 := n0_; have HB := n1_; have BK346 := n2_; have GW346 := n3_; have GE346 := n4_; clear n0_ n1_ n2_ n3_ n4_; clear hb hbox hg; have hcz22_0 : w21.cell? ⟨gb346, 0, none⟩ = some (.int .i64 0) := (blk_cell BK346.out 0).trans rfl; have hcz22_1 : w21.cell? ⟨gb346, 1, none⟩ = some (.int .i64 0) := (blk_cell BK346.out 1).trans rfl; have hcz22_2 : w21.cell? ⟨gb346, 2, none⟩ = some (.int .i64 0) := (blk_cell BK346.out 2).trans rfl; have hcz22_3 : w21.cell? ⟨gb346, 3, none⟩ = some (.string (⟨#[]⟩ : ByteArray)) := (blk_cell BK346.out 3).trans rfl; have hcz22_4 : w21.cell? ⟨gb346, 4, none⟩ = some (.int .i64 0) := (blk_cell BK346.out 4).trans rfl; have hfz22_0 := blk_frozen BK346.out 0; have hfz22_1 := blk_frozen BK346.out 1; have hfz22_2 := blk_frozen BK346.out 2; have hfz22_3 := blk_frozen BK346.out 3; have hfz22_4 := blk_frozen BK346.out 4))
            go_loopg [7, 8] k (fun kq v7 v8 w' => ∃ (x7_1 : Int) (x8_1 : Int), v7 = .int .i64 x7_1 ∧ v8 = .int .i64 x8_1 ∧ Aside0 (laws_FnTreeParts.l0 kq t338 t339 t342 x7_1 x8_1 ((rd_T53 t338 t339).f0) ((rd_T53 t338 t339).f1) ((rd_T53 t338 t339).f2) ((rd_T53 t338 t339).f3) ((rd_T53 t338 t339).f4) = some r) ∧ Aside0 (kq ≤ k) ∧ Aside0 (Kd.R k53 53 w' w.heap.size (fun k_ => k_ ≠ gb346) (.slice (some ad345) t338.length co18) t338) ∧ Aside0 (w'.heap[gb346]? = some (.cells #[.int .i64 ((rd_T53 t338 t339).f0), .int .i64 ((rd_T53 t338 t339).f1), .int .i64 ((rd_T53 t338 t339).f2), .string ((rd_T53 t338 t339).f3), .int .i64 ((rd_T53 t338 t339).f4)] 53 (0, 0))) ∧ Aside0 (Below w.heap.size w w'))
            case atStart => exact ⟨(wrap64 (t339 + 1)), (0), (by first | rfl | (simp; done) | (simp [*]; done)), (by first | rfl | (simp; done) | (simp [*]; done)), H', ⟨Nat.le_refl _⟩, ⟨by (with_reducible repeat (first | apply Kd.R_alloc | apply Kd.R_drewN | apply Kd.R_drew)); exact Kd.R_mono (Kd.R_far (p := ⟨gb346, 4, none⟩) (Kd.R_far (p := ⟨gb346, 3, none⟩) (Kd.R_far (p := ⟨gb346, 2, none⟩) (Kd.R_far (p := ⟨gb346, 1, none⟩) (Kd.R_far (p := ⟨gb346, 0, none⟩) (Kd.R_mono HO341.out (fun k_ hk => (⟨hk, hk.2⟩ : _ ∧ k_ ≠ gb346))) (fun _ hk => hk.2) (.int .i64 ((rd_T53 t338 t339).f0))) (fun _ hk => hk.2) (.int .i64 ((rd_T53 t338 t339).f1))) (fun _ hk => hk.2) (.int .i64 ((rd_T53 t338 t339).f2))) (fun _ hk => hk.2) (.string ((rd_T53 t338 t339).f3))) (fun _ hk => hk.2) (.int .i64 ((rd_T53 t338 t339).f4))) (fun _ hk => hk.1.2)⟩, ⟨by (with_reducible repeat (first | refine blk_drewN ?_ _ | refine blk_drew ?_ | refine blk_alloc ?_ _)); refine blk_put (cs := #[.int .i64 ((rd_T53 t338 t339).f0), .int .i64 ((rd_T53 t338 t339).f1), .int .i64 ((rd_T53 t338 t339).f2), .string ((rd_T53 t338 t339).f3), .int .i64 0]) ?_ 4 _ rfl; (with_reducible repeat (first | refine blk_drewN ?_ _ | refine blk_drew ?_ | refine blk_alloc ?_ _)); refine blk_put (cs := #[.int .i64 ((rd_T53 t338 t339).f0), .int .i64 ((rd_T53 t338 t339).f1), .int .i64 ((rd_T53 t338 t339).f2), .string (⟨#[]⟩ : ByteArray), .int .i64 0]) ?_ 3 _ rfl; (with_reducible repeat (first | refine blk_drewN ?_ _ | refine blk_drew ?_ | refine blk_alloc ?_ _)); refine blk_put (cs := #[.int .i64 ((rd_T53 t338 t339).f0), .int .i64 ((rd_T53 t338 t339).f1), .int .i64 0, .string (⟨#[]⟩ : ByteArray), .int .i64 0]) ?_ 2 _ rfl; (with_reducible repeat (first | refine blk_drewN ?_ _ | refine blk_drew ?_ | refine blk_alloc ?_ _)); refine blk_put (cs := #[.int .i64 ((rd_T53 t338 t339).f0), .int .i64 0, .int .i64 0, .string (⟨#[]⟩ : ByteArray), .int .i64 0]) ?_ 1 _ rfl; (with_reducible repeat (first | refine blk_drewN ?_ _ | refine blk_drew ?_ | refine blk_alloc ?_ _)); refine blk_put (cs := #[.int .i64 0, .int .i64 0, .int .i64 0, .string (⟨#[]⟩ : ByteArray), .int .i64 0]) ?_ 0 _ rfl; (with_reducible repeat (first | refine blk_drewN ?_ _ | refine blk_drew ?_ | refine blk_alloc ?_ _)); exact BK346.out⟩, ⟨by repeat (first | (with_reducible first | exact HB.out | apply below_alloc | apply pw_below_drewN | apply below_drew1 | refine below_set ?_ GE346.out) | exact HB.out)⟩⟩
            case round =>
              clear H'
              try clear c1
              try clear p2
              try clear c3
              try clear p3
              try clear q3
              try clear hx3
              try clear c6
              try clear p6
              try clear c7
              try clear c7b0
              try clear c7b1
              try clear c8
              try clear c8b0
              try clear c15
              try clear c15b0
              try clear c16
              try clear c16b0
              try clear hcz22_0
              try clear hcz22_1
              try clear hcz22_2
              try clear hcz22_3
              try clear hcz22_4
              try clear hfz22_0
              try clear hfz22_1
              try clear hfz22_2
              try clear hfz22_3
              try clear hfz22_4
              try clear hx345_0
              try clear hx345_1
              try clear hx345_2
              try clear hx345_3
              try clear hx345_4
              try clear p345
              try clear q345
              obtain ⟨x7_1, x8_1, rfl, rfl, HA, HK1, HO_3, BK346, HB⟩ := hrel
              cases gk with
              | zero => exact absurd HA.out (by simp [laws_FnTreeParts.l0])
              | succ k1 =>
                have H := HA.out
                clear HA
                simp only [laws_FnTreeParts.l0] at H
                by_cases c23 : x8_1 < ((rd_T53 t338 t339).f4)
                · rw [if_pos c23] at H
                  have c23b0 : decide (x8_1 < ((rd_T53 t338 t339).f4)) = true := decide_eq_true c23
                  clear c23
                  have HC24 := Aside0.mk H
                  clear H
                  have hcz25_0 : wr.cell? ⟨gb346, 0, none⟩ = some (.int .i64 ((rd_T53 t338 t339).f0)) := (blk_cell BK346.out 0).trans rfl
                  have hcz25_1 : wr.cell? ⟨gb346, 1, none⟩ = some (.int .i64 ((rd_T53 t338 t339).f1)) := (blk_cell BK346.out 1).trans rfl
                  have hcz25_2 : wr.cell? ⟨gb346, 2, none⟩ = some (.int .i64 ((rd_T53 t338 t339).f2)) := (blk_cell BK346.out 2).trans rfl
                  have hcz25_3 : wr.cell? ⟨gb346, 3, none⟩ = some (.string ((rd_T53 t338 t339).f3)) := (blk_cell BK346.out 3).trans rfl
                  have hcz25_4 : wr.cell? ⟨gb346, 4, none⟩ = some (.int .i64 ((rd_T53 t338 t339).f4)) := (blk_cell BK346.out 4).trans rfl
                  have hfz25_0 := blk_frozen BK346.out 0
                  have hfz25_1 := blk_frozen BK346.out 1
                  have hfz25_2 := blk_frozen BK346.out 2
                  have hfz25_3 := blk_frozen BK346.out 3
                  have hfz25_4 := blk_frozen BK346.out 4
                  go_upto_region 14 with (fail)
                  go_cut [58] (fun v58 wc => ∃ (kq : Nat) (x58_23 : Bool), v58 = .bool x58_23 ∧ Aside0 (laws_FnTreeParts.j1 kq t338 t339 t342 x7_1 x8_1 x58_23 ((rd_T53 t338 t339).f0) ((rd_T53 t338 t339).f1) ((rd_T53 t338 t339).f2) ((rd_T53 t338 t339).f3) ((rd_T53 t338 t339).f4) = some r) ∧ Aside0 (kq ≤ k1) ∧ Aside0 (Kd.R k53 53 wc w.heap.size (fun k_ => k_ ≠ gb346) (.slice (some ad345) t338.length co18) t338) ∧ Aside0 (wc.heap[gb346]? = some (.cells #[.int .i64 ((rd_T53 t338 t339).f0), .int .i64 ((rd_T53 t338 t339).f1), .int .i64 ((rd_T53 t338 t339).f2), .string ((rd_T53 t338 t339).f3), .int .i64 ((rd_T53 t338 t339).f4)] 53 (0, 0))) ∧ Aside0 (Below w.heap.size w wc))
                  case first =>
                    have H := HC24.out
                    clear HC24
                    by_cases c26 : ((rd_T53 t338 t339).f0) = 12
                    · rw [if_pos c26] at H
                      have c26b0 : (((rd_T53 t338 t339).f0) == 12) = true := beq_iff_eq.mpr c26
                      have c26b1 : (((rd_T53 t338 t339).f0) != 12) = false := bne_eq_false_iff_eq.mpr c26
                      clear c26
                      (first | rw [c26b0] | rw [c26b1] | (simp only [i64_w, i32_w]; rw [c26b0]) | skip)
                      by_cases c27 : 0 ≤ x7_1
                      · rw [if_pos c27] at H
                        have c27b0 : decide (0 ≤ x7_1) = true := decide_eq_true c27
                        clear c27
                        by_cases c28 : x7_1 < (t338.length : Int)
                        · rw [if_pos c28] at H
                          have c28b0 : decide (x7_1 < (t338.length : Int)) = true := decide_eq_true c28
                          clear c28
                          replace H := Option.bind_eq_some_iff.mp H
                          obtain ⟨t348, A290, H⟩ := H
                          replace H : (laws_FnTreeParts.j1 k1 t338 t339 t342 x7_1 x8_1 (t348 != x7_1) ((rd_T53 t338 t339).f0) ((rd_T53 t338 t339).f1) ((rd_T53 t338 t339).f2) ((rd_T53 t338 t339).f3) ((rd_T53 t338 t339).f4)) = some r := H
                          have A29 := Aside0.mk A290
                          clear A290
                          have H' := Aside0.mk H
                          clear H
                          have hcz30_0 : wr.cell? ⟨gb346, 0, none⟩ = some (.int .i64 ((rd_T53 t338 t339).f0)) := (blk_cell BK346.out 0).trans rfl
                          have hcz30_1 : wr.cell? ⟨gb346, 1, none⟩ = some (.int .i64 ((rd_T53 t338 t339).f1)) := (blk_cell BK346.out 1).trans rfl
                          have hcz30_2 : wr.cell? ⟨gb346, 2, none⟩ = some (.int .i64 ((rd_T53 t338 t339).f2)) := (blk_cell BK346.out 2).trans rfl
                          have hcz30_3 : wr.cell? ⟨gb346, 3, none⟩ = some (.string ((rd_T53 t338 t339).f3)) := (blk_cell BK346.out 3).trans rfl
                          have hcz30_4 : wr.cell? ⟨gb346, 4, none⟩ = some (.int .i64 ((rd_T53 t338 t339).f4)) := (blk_cell BK346.out 4).trans rfl
                          have hfz30_0 := blk_frozen BK346.out 0
                          have hfz30_1 := blk_frozen BK346.out 1
                          have hfz30_2 := blk_frozen BK346.out 2
                          have hfz30_3 := blk_frozen BK346.out 3
                          have hfz30_4 := blk_frozen BK346.out 4
                          have p347 : 0 ≤ (x7_1 : Int) := of_decide_eq_true (by first | (with_reducible assumption) | assumption)
                          have q347 : x7_1 < (t338.length : Int) := of_decide_eq_true (by first | (with_reducible assumption) | assumption)
                          obtain ⟨ad347, e347, hx347_0, hx347_1, hx347_2, hx347_3, hx347_4⟩ := at_T53 (Kd.R_reads' HO_3.out).2.2 x7_1 p347 q347
                          obtain rfl : ad345 = ad347 := (by injection e347)
                          replace p347 := eq_true p347
                          replace q347 := eq_true q347
                          go_wp2_with (first | (go_at_call 37; (with_reducible refine (impl_TreeFind.calls k1 _ _ t338 t339 ((rd_T53 t338 x7_1).f1) t348 _ ?side1 ?side2 A29.out).mono ?_); (case side1 => repeat (first | exact (Kd.R_reads' HO_3.out).2.2 | (with_reducible refine Kd.C_alloc ?_ _) | (with_reducible refine Kd.C_drewN ?_ _) | (with_reducible refine Kd.C_drew ?_))); (case side2 => exact (Kd.R_reads' HO_3.out).2.1); rintro e w31 ⟨rfl, hb⟩; have n0_ := Aside0.mk (Kd.R_below (by (with_reducible repeat (first | apply Kd.R_alloc | apply Kd.R_drewN | apply Kd.R_drew)); exact HO_3.out) hb); have n1_ := Aside0.mk (blk_below (g := gb346) (o := .cells #[.int .i64 ((rd_T53 t338 t339).f0), .int .i64 ((rd_T53 t338 t339).f1), .int .i64 ((rd_T53 t338 t339).f2), .string ((rd_T53 t338 t339).f3), .int .i64 ((rd_T53 t338 t339).f4)] 53 (0, 0)) (by (with_reducible repeat (first | refine blk_drewN ?_ _ | refine blk_drew ?_ | refine blk_alloc ?_ _)); exact BK346.out) hb); have n2_ := Aside0.mk (below_step (by repeat (first | (with_reducible first | exact HB.out | apply below_alloc | apply pw_below_drewN | apply below_drew1 | refine below_set ?_ GE346.out) | exact HB.out)) hb); clear HO_3; clear BK346; clear HB; have HO_3 := n0_; have BK346 := n1_; have HB := n2_; clear n0_ n1_ n2_; (try clear hb); (try clear hb2); (try clear hk); (try clear hi)))
                          go_meet
                          case rel => exact ⟨_, ((t348 != x7_1)), (by first | rfl | (simp; done) | (simp [*]; done)), H', ⟨by have := HK1.out; first | omega | exact Nat.le_refl _⟩, ⟨by (with_reducible repeat (first | apply Kd.R_alloc | apply Kd.R_drewN | apply Kd.R_drew)); exact HO_3.out⟩, ⟨by (with_reducible repeat (first | refine blk_drewN ?_ _ | refine blk_drew ?_ | refine blk_alloc ?_ _)); exact BK346.out⟩, ⟨by repeat (first | (with_reducible first | exact HB.out | apply below_alloc | apply pw_below_drewN | apply below_drew1 | refine below_set ?_ GE346.out) | exact HB.out)⟩⟩
                        · rw [if_neg c28] at H
                          exact absurd H (by simp)
                      · rw [if_neg c27] at H
                        exact absurd H (by simp)
                    · rw [if_neg c26] at H
                      have c26b0 : (((rd_T53 t338 t339).f0) == 12) = false := beq_eq_false_iff_ne.mpr c26
                      have c26b1 : (((rd_T53 t338 t339).f0) != 12) = true := bne_iff_ne.mpr c26
                      (first | rw [c26b0] | rw [c26b1] | (simp only [i64_w, i32_w]; rw [c26b0]) | skip)
                      have H' := Aside0.mk H
                      clear H
                      have hcz32_0 : wr.cell? ⟨gb346, 0, none⟩ = some (.int .i64 ((rd_T53 t338 t339).f0)) := (blk_cell BK346.out 0).trans rfl
                      have hcz32_1 : wr.cell? ⟨gb346, 1, none⟩ = some (.int .i64 ((rd_T53 t338 t339).f1)) := (blk_cell BK346.out 1).trans rfl
                      have hcz32_2 : wr.cell? ⟨gb346, 2, none⟩ = some (.int .i64 ((rd_T53 t338 t339).f2)) := (blk_cell BK346.out 2).trans rfl
                      have hcz32_3 : wr.cell? ⟨gb346, 3, none⟩ = some (.string ((rd_T53 t338 t339).f3)) := (blk_cell BK346.out 3).trans rfl
                      have hcz32_4 : wr.cell? ⟨gb346, 4, none⟩ = some (.int .i64 ((rd_T53 t338 t339).f4)) := (blk_cell BK346.out 4).trans rfl
                      have hfz32_0 := blk_frozen BK346.out 0
                      have hfz32_1 := blk_frozen BK346.out 1
                      have hfz32_2 := blk_frozen BK346.out 2
                      have hfz32_3 := blk_frozen BK346.out 3
                      have hfz32_4 := blk_frozen BK346.out 4
                      go_wp2
                      go_meet
                      case rel => exact ⟨_, (false), (by first | rfl | (simp; done) | (simp [*]; done)), H', ⟨by have := HK1.out; first | omega | exact Nat.le_refl _⟩, ⟨by (with_reducible repeat (first | apply Kd.R_alloc | apply Kd.R_drewN | apply Kd.R_drew)); exact HO_3.out⟩, ⟨by (with_reducible repeat (first | refine blk_drewN ?_ _ | refine blk_drew ?_ | refine blk_alloc ?_ _)); exact BK346.out⟩, ⟨by repeat (first | (with_reducible first | exact HB.out | apply below_alloc | apply pw_below_drewN | apply below_drew1 | refine below_set ?_ GE346.out) | exact HB.out)⟩⟩
                  case rest =>
                    clear HC24
                    try clear c1
                    try clear c2
                    try clear p2
                    try clear c3
                    try clear p3
                    try clear q3
                    try clear hx3
                    try clear c6
                    try clear p6
                    try clear c7
                    try clear c7b0
                    try clear c7b1
                    try clear c8
                    try clear c8b0
                    try clear c15
                    try clear c15b0
                    try clear c16
                    try clear c16b0
                    try clear c23
                    try clear c23b0
                    try clear c26
                    try clear c26b0
                    try clear c26b1
                    try clear c27
                    try clear c27b0
                    try clear c28
                    try clear c28b0
                    try clear hcz22_0
                    try clear hcz22_1
                    try clear hcz22_2
                    try clear hcz22_3
                    try clear hcz22_4
                    try clear hcz25_0
                    try clear hcz25_1
                    try clear hcz25_2
                    try clear hcz25_3
                    try clear hcz25_4
                    try clear hcz30_0
                    try clear hcz30_1
                    try clear hcz30_2
                    try clear hcz30_3
                    try clear hcz30_4
                    try clear hcz32_0
                    try clear hcz32_1
                    try clear hcz32_2
                    try clear hcz32_3
                    try clear hcz32_4
                    try clear hfz22_0
                    try clear hfz22_1
                    try clear hfz22_2
                    try clear hfz22_3
                    try clear hfz22_4
                    try clear hfz25_0
                    try clear hfz25_1
                    try clear hfz25_2
                    try clear hfz25_3
                    try clear hfz25_4
                    try clear hfz30_0
                    try clear hfz30_1
                    try clear hfz30_2
                    try clear hfz30_3
                    try clear hfz30_4
                    try clear hfz32_0
                    try clear hfz32_1
                    try clear hfz32_2
                    try clear hfz32_3
                    try clear hfz32_4
                    try clear hx345_0
                    try clear hx345_1
                    try clear hx345_2
                    try clear hx345_3
                    try clear hx345_4
                    try clear hx347_0
                    try clear hx347_1
                    try clear hx347_2
                    try clear hx347_3
                    try clear hx347_4
                    try clear p2
                    try clear p3
                    try clear p345
                    try clear p347
                    try clear p6
                    try clear q3
                    try clear q345
                    try clear q347
                    obtain ⟨kq, x58_23, rfl, HA, HJ23, HO_3, BK346, HB⟩ := hcut
                    cases kq with
                    | zero => exact absurd HA.out (by simp [laws_FnTreeParts.j1])
                    | succ kj23 =>
                      have H := HA.out
                      clear HA
                      simp only [laws_FnTreeParts.j1] at H
                      by_cases c33 : x58_23 = true
                      · subst c33
                        have H1 : (some false) = some r := by rw [if_pos rfl] at H; exact H
                        clear H
                        have H := H1
                        clear H1
                        obtain rfl := Option.some.inj H
                        go_wp2
                        go_ret
                        exact ⟨by first | rfl | (simp [errW_none, errW_some] <;> rfl) | (simp [*, errW_none, errW_some] <;> rfl), by repeat (first | (with_reducible first | exact HB.out | apply below_alloc | apply pw_below_drewN | apply below_drew1 | refine below_set ?_ GE346.out) | exact HB.out)⟩
                      · replace c33 := Bool.eq_false_iff.mpr c33
                        subst c33
                        have H1 : (if 0 ≤ x7_1 then (if x7_1 < (t338.length : Int) then ((impl_TreeNumOf.f kj23 t338 t339 ((rd_T53 t338 x7_1).f1)).bind fun bt350 => (if ((rd_T53 t338 t339).f0) = 12 then (if ((rd_T53 t338 x7_1).f0) = 5 then (if (bt350.2 != true) = true then (some false) else (if bt350.2 = true then (if bt350.1 = ((rd_T53 t338 x7_1).f2) then ((impl_TreeAfter.f kj23 t338 x7_1).bind fun t354 => (laws_FnTreeParts.l0 kj23 t338 t339 t342 t354 (wrap64 (x8_1 + 1)) ((rd_T53 t338 t339).f0) ((rd_T53 t338 t339).f1) ((rd_T53 t338 t339).f2) ((rd_T53 t338 t339).f3) ((rd_T53 t338 t339).f4))) else (some false)) else ((impl_TreeAfter.f kj23 t338 x7_1).bind fun t355 => (laws_FnTreeParts.l0 kj23 t338 t339 t342 t355 (wrap64 (x8_1 + 1)) ((rd_T53 t338 t339).f0) ((rd_T53 t338 t339).f1) ((rd_T53 t338 t339).f2) ((rd_T53 t338 t339).f3) ((rd_T53 t338 t339).f4))))) else (if (bt350.2 != (((rd_T53 t338 x7_1).f0) == 6)) = true then (some false) else (if bt350.2 = true then (if bt350.1 = ((rd_T53 t338 x7_1).f2) then ((impl_TreeAfter.f kj23 t338 x7_1).bind fun t358 => (laws_FnTreeParts.l0 kj23 t338 t339 t342 t358 (wrap64 (x8_1 + 1)) ((rd_T53 t338 t339).f0) ((rd_T53 t338 t339).f1) ((rd_T53 t338 t339).f2) ((rd_T53 t338 t339).f3) ((rd_T53 t338 t339).f4))) else (some false)) else ((impl_TreeAfter.f kj23 t338 x7_1).bind fun t359 => (laws_FnTreeParts.l0 kj23 t338 t339 t342 t359 (wrap64 (x8_1 + 1)) ((rd_T53 t338 t339).f0) ((rd_T53 t338 t339).f1) ((rd_T53 t338 t339).f2) ((rd_T53 t338 t339).f3) ((rd_T53 t338 t339).f4)))))) else (if bt350.2 = true then (if bt350.1 = ((rd_T53 t338 x7_1).f2) then ((impl_TreeAfter.f kj23 t338 x7_1).bind fun t361 => (laws_FnTreeParts.l0 kj23 t338 t339 t342 t361 (wrap64 (x8_1 + 1)) ((rd_T53 t338 t339).f0) ((rd_T53 t338 t339).f1) ((rd_T53 t338 t339).f2) ((rd_T53 t338 t339).f3) ((rd_T53 t338 t339).f4))) else (some false)) else ((impl_TreeAfter.f kj23 t338 x7_1).bind fun t362 => (laws_FnTreeParts.l0 kj23 t338 t339 t342 t362 (wrap64 (x8_1 + 1)) ((rd_T53 t338 t339).f0) ((rd_T53 t338 t339).f1) ((rd_T53 t338 t339).f2) ((rd_T53 t338 t339).f3) ((rd_T53 t338 t339).f4)))))) else (none)) else (none)) = some r := by rw [if_neg (show ¬ (false = true) by decide)] at H; exact H
                        clear H
                        have H := H1
                        clear H1
                        by_cases c34 : 0 ≤ x7_1
                        · rw [if_pos c34] at H
                          have c34b0 : decide (0 ≤ x7_1) = true := decide_eq_true c34
                          clear c34
                          by_cases c35 : x7_1 < (t338.length : Int)
                          · rw [if_pos c35] at H
                            have c35b0 : decide (x7_1 < (t338.length : Int)) = true := decide_eq_true c35
                            clear c35
                            replace H := Option.bind_eq_some_iff.mp H
                            obtain ⟨⟨t350, t351⟩, A360, H⟩ := H
                            replace H : (if ((rd_T53 t338 t339).f0) = 12 then (if ((rd_T53 t338 x7_1).f0) = 5 then (if (t351 != true) = true then (some false) else (if t351 = true then (if t350 = ((rd_T53 t338 x7_1).f2) then ((impl_TreeAfter.f kj23 t338 x7_1).bind fun t354 => (laws_FnTreeParts.l0 kj23 t338 t339 t342 t354 (wrap64 (x8_1 + 1)) ((rd_T53 t338 t339).f0) ((rd_T53 t338 t339).f1) ((rd_T53 t338 t339).f2) ((rd_T53 t338 t339).f3) ((rd_T53 t338 t339).f4))) else (some false)) else ((impl_TreeAfter.f kj23 t338 x7_1).bind fun t355 => (laws_FnTreeParts.l0 kj23 t338 t339 t342 t355 (wrap64 (x8_1 + 1)) ((rd_T53 t338 t339).f0) ((rd_T53 t338 t339).f1) ((rd_T53 t338 t339).f2) ((rd_T53 t338 t339).f3) ((rd_T53 t338 t339).f4))))) else (if (t351 != (((rd_T53 t338 x7_1).f0) == 6)) = true then (some false) else (if t351 = true then (if t350 = ((rd_T53 t338 x7_1).f2) then ((impl_TreeAfter.f kj23 t338 x7_1).bind fun t358 => (laws_FnTreeParts.l0 kj23 t338 t339 t342 t358 (wrap64 (x8_1 + 1)) ((rd_T53 t338 t339).f0) ((rd_T53 t338 t339).f1) ((rd_T53 t338 t339).f2) ((rd_T53 t338 t339).f3) ((rd_T53 t338 t339).f4))) else (some false)) else ((impl_TreeAfter.f kj23 t338 x7_1).bind fun t359 => (laws_FnTreeParts.l0 kj23 t338 t339 t342 t359 (wrap64 (x8_1 + 1)) ((rd_T53 t338 t339).f0) ((rd_T53 t338 t339).f1) ((rd_T53 t338 t339).f2) ((rd_T53 t338 t339).f3) ((rd_T53 t338 t339).f4)))))) else (if t351 = true then (if t350 = ((rd_T53 t338 x7_1).f2) then ((impl_TreeAfter.f kj23 t338 x7_1).bind fun t361 => (laws_FnTreeParts.l0 kj23 t338 t339 t342 t361 (wrap64 (x8_1 + 1)) ((rd_T53 t338 t339).f0) ((rd_T53 t338 t339).f1) ((rd_T53 t338 t339).f2) ((rd_T53 t338 t339).f3) ((rd_T53 t338 t339).f4))) else (some false)) else ((impl_TreeAfter.f kj23 t338 x7_1).bind fun t362 => (laws_FnTreeParts.l0 kj23 t338 t339 t342 t362 (wrap64 (x8_1 + 1)) ((rd_T53 t338 t339).f0) ((rd_T53 t338 t339).f1) ((rd_T53 t338 t339).f2) ((rd_T53 t338 t339).f3) ((rd_T53 t338 t339).f4))))) = some r := H
                            have A36 := Aside0.mk A360
                            clear A360
                            by_cases c37 : ((rd_T53 t338 t339).f0) = 12
                            · rw [if_pos c37] at H
                              have c37b0 : (((rd_T53 t338 t339).f0) == 12) = true := beq_iff_eq.mpr c37
                              have c37b1 : (((rd_T53 t338 t339).f0) != 12) = false := bne_eq_false_iff_eq.mpr c37
                              clear c37
                              by_cases c38 : ((rd_T53 t338 x7_1).f0) = 5
                              · rw [if_pos c38] at H
                                have c38b0 : (((rd_T53 t338 x7_1).f0) == 5) = true := beq_iff_eq.mpr c38
                                have c38b1 : (((rd_T53 t338 x7_1).f0) != 5) = false := bne_eq_false_iff_eq.mpr c38
                                clear c38
                                by_cases c39 : (t351 != true) = true
                                · rw [if_pos c39] at H
                                  have c39b0 : (t351 != true) = true := c39
                                  (try (have c39b1 : decide (t351 = true) = false := by simpa using c39))
                                  (try (have c39b2 : (t351 == true) = false := by simpa using c39))
                                  (try (have c39b3 : ¬ (t351 = true) := by simpa using c39))
                                  clear c39
                                  obtain rfl := Option.some.inj H
                                  have p349 : 0 ≤ (x7_1 : Int) := of_decide_eq_true (by first | (with_reducible assumption) | assumption)
                                  have q349 : x7_1 < (t338.length : Int) := of_decide_eq_true (by first | (with_reducible assumption) | assumption)
                                  obtain ⟨ad349, e349, hx349_0, hx349_1, hx349_2, hx349_3, hx349_4⟩ := at_T53 (Kd.R_reads' HO_3.out).2.2 x7_1 p349 q349
                                  obtain rfl : ad345 = ad349 := (by injection e349)
                                  replace p349 := eq_true p349
                                  replace q349 := eq_true q349
                                  go_wp2_with (first | ((with_reducible refine gate_callee (f := 38) rfl ?_); refine goesL_ (some 67) rfl rfl Try.func38 (by kernel_rfl) rfl #[.slice (some ad345) t338.length co18, .int .i64 t339, .int .i64 ((rd_T53 t338 x7_1).f1)] rfl (by (try simp only [List.map_toArray, List.map_cons, List.map_nil]); first | done | rfl | (simp only [List.length_drop, List.length_take]; rfl)) ?_; (with_reducible refine (impl_TreeNumOf.calls kj23 _ _ t338 t339 ((rd_T53 t338 x7_1).f1) t350 t351 _ ?side1 ?side2 A36.out).mono ?_); (case side1 => repeat (first | exact (Kd.R_reads' HO_3.out).2.2 | (with_reducible refine Kd.C_alloc ?_ _) | (with_reducible refine Kd.C_drewN ?_ _) | (with_reducible refine Kd.C_drew ?_))); (case side2 => exact (Kd.R_reads' HO_3.out).2.1); rintro e w40 ⟨rfl, hb⟩; refine ⟨_, rfl, ?_⟩; have n0_ := Aside0.mk (Kd.R_below (by (with_reducible repeat (first | apply Kd.R_alloc | apply Kd.R_drewN | apply Kd.R_drew)); exact HO_3.out) hb); have n1_ := Aside0.mk (blk_below (g := gb346) (o := .cells #[.int .i64 ((rd_T53 t338 t339).f0), .int .i64 ((rd_T53 t338 t339).f1), .int .i64 ((rd_T53 t338 t339).f2), .string ((rd_T53 t338 t339).f3), .int .i64 ((rd_T53 t338 t339).f4)] 53 (0, 0)) (by (with_reducible repeat (first | refine blk_drewN ?_ _ | refine blk_drew ?_ | refine blk_alloc ?_ _)); exact BK346.out) hb); have n2_ := Aside0.mk (below_step (by repeat (first | (with_reducible first | exact HB.out | apply below_alloc | apply pw_below_drewN | apply below_drew1 | refine below_set ?_ GE346.out) | exact HB.out)) hb); clear HO_3; clear BK346; clear HB; have HO_3 := n0_; have BK346 := n1_; have HB := n2_; clear n0_ n1_ n2_; (try clear hb); (try clear hb2); (try clear hk); (try clear hi); have hcz41_0 : w40.cell? ⟨gb346, 0, none⟩ = some (.int .i64 ((rd_T53 t338 t339).f0)) := (blk_cell BK346.out 0).trans rfl; have hcz41_1 : w40.cell? ⟨gb346, 1, none⟩ = some (.int .i64 ((rd_T53 t338 t339).f1)) := (blk_cell BK346.out 1).trans rfl; have hcz41_2 : w40.cell? ⟨gb346, 2, none⟩ = some (.int .i64 ((rd_T53 t338 t339).f2)) := (blk_cell BK346.out 2).trans rfl; have hcz41_3 : w40.cell? ⟨gb346, 3, none⟩ = some (.string ((rd_T53 t338 t339).f3)) := (blk_cell BK346.out 3).trans rfl; have hcz41_4 : w40.cell? ⟨gb346, 4, none⟩ = some (.int .i64 ((rd_T53 t338 t339).f4)) := (blk_cell BK346.out 4).trans rfl; have hfz41_0 := blk_frozen BK346.out 0; have hfz41_1 := blk_frozen BK346.out 1; have hfz41_2 := blk_frozen BK346.out 2; have hfz41_3 := blk_frozen BK346.out 3; have hfz41_4 := blk_frozen BK346.out 4; have p352 : 0 ≤ (x7_1 : Int) := of_decide_eq_true (by first | (with_reducible assumption) | assumption); have q352 : x7_1 < (t338.length : Int) := of_decide_eq_true (by first | (with_reducible assumption) | assumption); obtain ⟨ad352, e352, hx352_0, hx352_1, hx352_2, hx352_3, hx352_4⟩ := at_T53 (Kd.R_reads' HO_3.out).2.2 x7_1 p352 q352; obtain rfl : ad345 = ad352 := (by injection e352); replace p352 := eq_true p352; replace q352 := eq_true q352))
                                  go_ret
                                  exact ⟨by first | rfl | (simp [errW_none, errW_some] <;> rfl) | (simp [*, errW_none, errW_some] <;> rfl), by repeat (first | (with_reducible first | exact HB.out | apply below_alloc | apply pw_below_drewN | apply below_drew1 | refine below_set ?_ GE346.out) | exact HB.out)⟩
                                · rw [if_neg c39] at H
                                  have c39b0 : (t351 != true) = false := by simpa using c39
                                  (try (have c39b1 : decide (t351 = true) = true := by simpa using c39))
                                  (try (have c39b2 : (t351 == true) = true := by simpa using c39))
                                  clear c39
                                  by_cases c42 : t351 = true
                                  · subst c42
                                    have H1 : (if t350 = ((rd_T53 t338 x7_1).f2) then ((impl_TreeAfter.f kj23 t338 x7_1).bind fun t354 => (laws_FnTreeParts.l0 kj23 t338 t339 t342 t354 (wrap64 (x8_1 + 1)) ((rd_T53 t338 t339).f0) ((rd_T53 t338 t339).f1) ((rd_T53 t338 t339).f2) ((rd_T53 t338 t339).f3) ((rd_T53 t338 t339).f4))) else (some false)) = some r := by rw [if_pos rfl] at H; exact H
                                    clear H
                                    have H := H1
                                    clear H1
                                    by_cases c43 : t350 = ((rd_T53 t338 x7_1).f2)
                                    · rw [if_pos c43] at H
                                      have c43b0 : (t350 == ((rd_T53 t338 x7_1).f2)) = true := beq_iff_eq.mpr c43
                                      have c43b1 : (t350 != ((rd_T53 t338 x7_1).f2)) = false := bne_eq_false_iff_eq.mpr c43
                                      clear c43
                                      replace H := Option.bind_eq_some_iff.mp H
                                      obtain ⟨t354, A440, H⟩ := H
                                      replace H : (laws_FnTreeParts.l0 kj23 t338 t339 t342 t354 (wrap64 (x8_1 + 1)) ((rd_T53 t338 t339).f0) ((rd_T53 t338 t339).f1) ((rd_T53 t338 t339).f2) ((rd_T53 t338 t339).f3) ((rd_T53 t338 t339).f4)) = some r := H
                                      have A44 := Aside0.mk A440
                                      clear A440
                                      have H' := Aside0.mk H
                                      clear H
                                      have p349 : 0 ≤ (x7_1 : Int) := of_decide_eq_true (by first | (with_reducible assumption) | assumption)
                                      have q349 : x7_1 < (t338.length : Int) := of_decide_eq_true (by first | (with_reducible assumption) | assumption)
                                      obtain ⟨ad349, e349, hx349_0, hx349_1, hx349_2, hx349_3, hx349_4⟩ := at_T53 (Kd.R_reads' HO_3.out).2.2 x7_1 p349 q349
                                      obtain rfl : ad345 = ad349 := (by injection e349)
                                      replace p349 := eq_true p349
                                      replace q349 := eq_true q349
                                      go_wp2_with (first | ((with_reducible refine gate_callee (f := 38) rfl ?_); refine goesL_ (some 67) rfl rfl Try.func38 (by kernel_rfl) rfl #[.slice (some ad345) t338.length co18, .int .i64 t339, .int .i64 ((rd_T53 t338 x7_1).f1)] rfl (by (try simp only [List.map_toArray, List.map_cons, List.map_nil]); first | done | rfl | (simp only [List.length_drop, List.length_take]; rfl)) ?_; (with_reducible refine (impl_TreeNumOf.calls kj23 _ _ t338 t339 ((rd_T53 t338 x7_1).f1) t350 true _ ?side1 ?side2 A36.out).mono ?_); (case side1 => repeat (first | exact (Kd.R_reads' HO_3.out).2.2 | (with_reducible refine Kd.C_alloc ?_ _) | (with_reducible refine Kd.C_drewN ?_ _) | (with_reducible refine Kd.C_drew ?_))); (case side2 => exact (Kd.R_reads' HO_3.out).2.1); rintro e w45 ⟨rfl, hb⟩; refine ⟨_, rfl, ?_⟩; have n0_ := Aside0.mk (Kd.R_below (by (with_reducible repeat (first | apply Kd.R_alloc | apply Kd.R_drewN | apply Kd.R_drew)); exact HO_3.out) hb); have n1_ := Aside0.mk (blk_below (g := gb346) (o := .cells #[.int .i64 ((rd_T53 t338 t339).f0), .int .i64 ((rd_T53 t338 t339).f1), .int .i64 ((rd_T53 t338 t339).f2), .string ((rd_T53 t338 t339).f3), .int .i64 ((rd_T53 t338 t339).f4)] 53 (0, 0)) (by (with_reducible repeat (first | refine blk_drewN ?_ _ | refine blk_drew ?_ | refine blk_alloc ?_ _)); exact BK346.out) hb); have n2_ := Aside0.mk (below_step (by repeat (first | (with_reducible first | exact HB.out | apply below_alloc | apply pw_below_drewN | apply below_drew1 | refine below_set ?_ GE346.out) | exact HB.out)) hb); clear HO_3; clear BK346; clear HB; have HO_3 := n0_; have BK346 := n1_; have HB := n2_; clear n0_ n1_ n2_; (try clear hb); (try clear hb2); (try clear hk); (try clear hi); have hcz46_0 : w45.cell? ⟨gb346, 0, none⟩ = some (.int .i64 ((rd_T53 t338 t339).f0)) := (blk_cell BK346.out 0).trans rfl; have hcz46_1 : w45.cell? ⟨gb346, 1, none⟩ = some (.int .i64 ((rd_T53 t338 t339).f1)) := (blk_cell BK346.out 1).trans rfl; have hcz46_2 : w45.cell? ⟨gb346, 2, none⟩ = some (.int .i64 ((rd_T53 t338 t339).f2)) := (blk_cell BK346.out 2).trans rfl; have hcz46_3 : w45.cell? ⟨gb346, 3, none⟩ = some (.string ((rd_T53 t338 t339).f3)) := (blk_cell BK346.out 3).trans rfl; have hcz46_4 : w45.cell? ⟨gb346, 4, none⟩ = some (.int .i64 ((rd_T53 t338 t339).f4)) := (blk_cell BK346.out 4).trans rfl; have hfz46_0 := blk_frozen BK346.out 0; have hfz46_1 := blk_frozen BK346.out 1; have hfz46_2 := blk_frozen BK346.out 2; have hfz46_3 := blk_frozen BK346.out 3; have hfz46_4 := blk_frozen BK346.out 4; have p352 : 0 ≤ (x7_1 : Int) := of_decide_eq_true (by first | (with_reducible assumption) | assumption); have q352 : x7_1 < (t338.length : Int) := of_decide_eq_true (by first | (with_reducible assumption) | assumption); obtain ⟨ad352, e352, hx352_0, hx352_1, hx352_2, hx352_3, hx352_4⟩ := at_T53 (Kd.R_reads' HO_3.out).2.2 x7_1 p352 q352; obtain rfl : ad345 = ad352 := (by injection e352); replace p352 := eq_true p352; replace q352 := eq_true q352; have p353 : 0 ≤ (x7_1 : Int) := of_decide_eq_true (by first | (with_reducible assumption) | assumption); have q353 : x7_1 < (t338.length : Int) := of_decide_eq_true (by first | (with_reducible assumption) | assumption); obtain ⟨ad353, e353, hx353_0, hx353_1, hx353_2, hx353_3, hx353_4⟩ := at_T53 (Kd.R_reads' HO_3.out).2.2 x7_1 p353 q353; obtain rfl : ad345 = ad353 := (by injection e353); replace p353 := eq_true p353; replace q353 := eq_true q353) | ((with_reducible refine gate_callee (f := 35) rfl ?_); refine goesL_ (some 105) rfl rfl Try.func35 (by kernel_rfl) rfl #[.slice (some ad345) t338.length co18, .int .i64 x7_1] rfl (by (try simp only [List.map_toArray, List.map_cons, List.map_nil]); first | done | rfl | (simp only [List.length_drop, List.length_take]; rfl)) ?_; (with_reducible refine (impl_TreeAfter.calls kj23 _ _ t338 x7_1 t354 _ ?side1 ?side2 A44.out).mono ?_); (case side1 => repeat (first | exact (Kd.R_reads' HO_3.out).2.2 | (with_reducible refine Kd.C_alloc ?_ _) | (with_reducible refine Kd.C_drewN ?_ _) | (with_reducible refine Kd.C_drew ?_))); (case side2 => exact (Kd.R_reads' HO_3.out).2.1); rintro e w47 ⟨rfl, hb⟩; refine ⟨_, rfl, ?_⟩; have n0_ := Aside0.mk (Kd.R_below (by (with_reducible repeat (first | apply Kd.R_alloc | apply Kd.R_drewN | apply Kd.R_drew)); exact HO_3.out) hb); have n1_ := Aside0.mk (blk_below (g := gb346) (o := .cells #[.int .i64 ((rd_T53 t338 t339).f0), .int .i64 ((rd_T53 t338 t339).f1), .int .i64 ((rd_T53 t338 t339).f2), .string ((rd_T53 t338 t339).f3), .int .i64 ((rd_T53 t338 t339).f4)] 53 (0, 0)) (by (with_reducible repeat (first | refine blk_drewN ?_ _ | refine blk_drew ?_ | refine blk_alloc ?_ _)); exact BK346.out) hb); have n2_ := Aside0.mk (below_step (by repeat (first | (with_reducible first | exact HB.out | apply below_alloc | apply pw_below_drewN | apply below_drew1 | refine below_set ?_ GE346.out) | exact HB.out)) hb); clear HO_3; clear BK346; clear HB; have HO_3 := n0_; have BK346 := n1_; have HB := n2_; clear n0_ n1_ n2_; (try clear hb); (try clear hb2); (try clear hk); (try clear hi)))
                                      go_roundg kj23
                                      case measure => have := HK1.out; have := HJ23.out; omega
                                      case rel => exact ⟨(t354), (wrap64 (x8_1 + 1)), (by first | rfl | (simp; done) | (simp [*]; done)), (by first | rfl | (simp; done) | (simp [*]; done)), H', ⟨by have := HK1.out; have := HJ23.out; omega⟩, ⟨by (with_reducible repeat (first | apply Kd.R_alloc | apply Kd.R_drewN | apply Kd.R_drew)); exact HO_3.out⟩, ⟨by (with_reducible repeat (first | refine blk_drewN ?_ _ | refine blk_drew ?_ | refine blk_alloc ?_ _)); exact BK346.out⟩, ⟨by repeat (first | (with_reducible first | exact HB.out | apply below_alloc | apply pw_below_drewN | apply below_drew1 | refine below_set ?_ GE346.out) | exact HB.out)⟩⟩
                                    · rw [if_neg c43] at H
                                      have c43b0 : (t350 == ((rd_T53 t338 x7_1).f2)) = false := beq_eq_false_iff_ne.mpr c43
                                      have c43b1 : (t350 != ((rd_T53 t338 x7_1).f2)) = true := bne_iff_ne.mpr c43
                                      obtain rfl := Option.some.inj H
                                      have p349 : 0 ≤ (x7_1 : Int) := of_decide_eq_true (by first | (with_reducible assumption) | assumption)
                                      have q349 : x7_1 < (t338.length : Int) := of_decide_eq_true (by first | (with_reducible assumption) | assumption)
                                      obtain ⟨ad349, e349, hx349_0, hx349_1, hx349_2, hx349_3, hx349_4⟩ := at_T53 (Kd.R_reads' HO_3.out).2.2 x7_1 p349 q349
                                      obtain rfl : ad345 = ad349 := (by injection e349)
                                      replace p349 := eq_true p349
                                      replace q349 := eq_true q349
                                      go_wp2_with (first | ((with_reducible refine gate_callee (f := 38) rfl ?_); refine goesL_ (some 67) rfl rfl Try.func38 (by kernel_rfl) rfl #[.slice (some ad345) t338.length co18, .int .i64 t339, .int .i64 ((rd_T53 t338 x7_1).f1)] rfl (by (try simp only [List.map_toArray, List.map_cons, List.map_nil]); first | done | rfl | (simp only [List.length_drop, List.length_take]; rfl)) ?_; (with_reducible refine (impl_TreeNumOf.calls kj23 _ _ t338 t339 ((rd_T53 t338 x7_1).f1) t350 true _ ?side1 ?side2 A36.out).mono ?_); (case side1 => repeat (first | exact (Kd.R_reads' HO_3.out).2.2 | (with_reducible refine Kd.C_alloc ?_ _) | (with_reducible refine Kd.C_drewN ?_ _) | (with_reducible refine Kd.C_drew ?_))); (case side2 => exact (Kd.R_reads' HO_3.out).2.1); rintro e w48 ⟨rfl, hb⟩; refine ⟨_, rfl, ?_⟩; have n0_ := Aside0.mk (Kd.R_below (by (with_reducible repeat (first | apply Kd.R_alloc | apply Kd.R_drewN | apply Kd.R_drew)); exact HO_3.out) hb); have n1_ := Aside0.mk (blk_below (g := gb346) (o := .cells #[.int .i64 ((rd_T53 t338 t339).f0), .int .i64 ((rd_T53 t338 t339).f1), .int .i64 ((rd_T53 t338 t339).f2), .string ((rd_T53 t338 t339).f3), .int .i64 ((rd_T53 t338 t339).f4)] 53 (0, 0)) (by (with_reducible repeat (first | refine blk_drewN ?_ _ | refine blk_drew ?_ | refine blk_alloc ?_ _)); exact BK346.out) hb); have n2_ := Aside0.mk (below_step (by repeat (first | (with_reducible first | exact HB.out | apply below_alloc | apply pw_below_drewN | apply below_drew1 | refine below_set ?_ GE346.out) | exact HB.out)) hb); clear HO_3; clear BK346; clear HB; have HO_3 := n0_; have BK346 := n1_; have HB := n2_; clear n0_ n1_ n2_; (try clear hb); (try clear hb2); (try clear hk); (try clear hi); have hcz49_0 : w48.cell? ⟨gb346, 0, none⟩ = some (.int .i64 ((rd_T53 t338 t339).f0)) := (blk_cell BK346.out 0).trans rfl; have hcz49_1 : w48.cell? ⟨gb346, 1, none⟩ = some (.int .i64 ((rd_T53 t338 t339).f1)) := (blk_cell BK346.out 1).trans rfl; have hcz49_2 : w48.cell? ⟨gb346, 2, none⟩ = some (.int .i64 ((rd_T53 t338 t339).f2)) := (blk_cell BK346.out 2).trans rfl; have hcz49_3 : w48.cell? ⟨gb346, 3, none⟩ = some (.string ((rd_T53 t338 t339).f3)) := (blk_cell BK346.out 3).trans rfl; have hcz49_4 : w48.cell? ⟨gb346, 4, none⟩ = some (.int .i64 ((rd_T53 t338 t339).f4)) := (blk_cell BK346.out 4).trans rfl; have hfz49_0 := blk_frozen BK346.out 0; have hfz49_1 := blk_frozen BK346.out 1; have hfz49_2 := blk_frozen BK346.out 2; have hfz49_3 := blk_frozen BK346.out 3; have hfz49_4 := blk_frozen BK346.out 4; have p352 : 0 ≤ (x7_1 : Int) := of_decide_eq_true (by first | (with_reducible assumption) | assumption); have q352 : x7_1 < (t338.length : Int) := of_decide_eq_true (by first | (with_reducible assumption) | assumption); obtain ⟨ad352, e352, hx352_0, hx352_1, hx352_2, hx352_3, hx352_4⟩ := at_T53 (Kd.R_reads' HO_3.out).2.2 x7_1 p352 q352; obtain rfl : ad345 = ad352 := (by injection e352); replace p352 := eq_true p352; replace q352 := eq_true q352; have p353 : 0 ≤ (x7_1 : Int) := of_decide_eq_true (by first | (with_reducible assumption) | assumption); have q353 : x7_1 < (t338.length : Int) := of_decide_eq_true (by first | (with_reducible assumption) | assumption); obtain ⟨ad353, e353, hx353_0, hx353_1, hx353_2, hx353_3, hx353_4⟩ := at_T53 (Kd.R_reads' HO_3.out).2.2 x7_1 p353 q353; obtain rfl : ad345 = ad353 := (by injection e353); replace p353 := eq_true p353; replace q353 := eq_true q353))
                                      go_ret
                                      exact ⟨by first | rfl | (simp [errW_none, errW_some] <;> rfl) | (simp [*, errW_none, errW_some] <;> rfl), by repeat (first | (with_reducible first | exact HB.out | apply below_alloc | apply pw_below_drewN | apply below_drew1 | refine below_set ?_ GE346.out) | exact HB.out)⟩
                                  · replace c42 := Bool.eq_false_iff.mpr c42
                                    subst c42
                                    have H1 : ((impl_TreeAfter.f kj23 t338 x7_1).bind fun t355 => (laws_FnTreeParts.l0 kj23 t338 t339 t342 t355 (wrap64 (x8_1 + 1)) ((rd_T53 t338 t339).f0) ((rd_T53 t338 t339).f1) ((rd_T53 t338 t339).f2) ((rd_T53 t338 t339).f3) ((rd_T53 t338 t339).f4))) = some r := by rw [if_neg (show ¬ (false = true) by decide)] at H; exact H
                                    clear H
                                    have H := H1
                                    clear H1
                                    replace H := Option.bind_eq_some_iff.mp H
                                    obtain ⟨t355, A500, H⟩ := H
                                    replace H : (laws_FnTreeParts.l0 kj23 t338 t339 t342 t355 (wrap64 (x8_1 + 1)) ((rd_T53 t338 t339).f0) ((rd_T53 t338 t339).f1) ((rd_T53 t338 t339).f2) ((rd_T53 t338 t339).f3) ((rd_T53 t338 t339).f4)) = some r := H
                                    have A50 := Aside0.mk A500
                                    clear A500
                                    have H' := Aside0.mk H
                                    clear H
                                    have p349 : 0 ≤ (x7_1 : Int) := of_decide_eq_true (by first | (with_reducible assumption) | assumption)
                                    have q349 : x7_1 < (t338.length : Int) := of_decide_eq_true (by first | (with_reducible assumption) | assumption)
                                    obtain ⟨ad349, e349, hx349_0, hx349_1, hx349_2, hx349_3, hx349_4⟩ := at_T53 (Kd.R_reads' HO_3.out).2.2 x7_1 p349 q349
                                    obtain rfl : ad345 = ad349 := (by injection e349)
                                    replace p349 := eq_true p349
                                    replace q349 := eq_true q349
                                    go_wp2_with (first | ((with_reducible refine gate_callee (f := 38) rfl ?_); refine goesL_ (some 67) rfl rfl Try.func38 (by kernel_rfl) rfl #[.slice (some ad345) t338.length co18, .int .i64 t339, .int .i64 ((rd_T53 t338 x7_1).f1)] rfl (by (try simp only [List.map_toArray, List.map_cons, List.map_nil]); first | done | rfl | (simp only [List.length_drop, List.length_take]; rfl)) ?_; (with_reducible refine (impl_TreeNumOf.calls kj23 _ _ t338 t339 ((rd_T53 t338 x7_1).f1) t350 false _ ?side1 ?side2 A36.out).mono ?_); (case side1 => repeat (first | exact (Kd.R_reads' HO_3.out).2.2 | (with_reducible refine Kd.C_alloc ?_ _) | (with_reducible refine Kd.C_drewN ?_ _) | (with_reducible refine Kd.C_drew ?_))); (case side2 => exact (Kd.R_reads' HO_3.out).2.1); rintro e w51 ⟨rfl, hb⟩; refine ⟨_, rfl, ?_⟩; have n0_ := Aside0.mk (Kd.R_below (by (with_reducible repeat (first | apply Kd.R_alloc | apply Kd.R_drewN | apply Kd.R_drew)); exact HO_3.out) hb); have n1_ := Aside0.mk (blk_below (g := gb346) (o := .cells #[.int .i64 ((rd_T53 t338 t339).f0), .int .i64 ((rd_T53 t338 t339).f1), .int .i64 ((rd_T53 t338 t339).f2), .string ((rd_T53 t338 t339).f3), .int .i64 ((rd_T53 t338 t339).f4)] 53 (0, 0)) (by (with_reducible repeat (first | refine blk_drewN ?_ _ | refine blk_drew ?_ | refine blk_alloc ?_ _)); exact BK346.out) hb); have n2_ := Aside0.mk (below_step (by repeat (first | (with_reducible first | exact HB.out | apply below_alloc | apply pw_below_drewN | apply below_drew1 | refine below_set ?_ GE346.out) | exact HB.out)) hb); clear HO_3; clear BK346; clear HB; have HO_3 := n0_; have BK346 := n1_; have HB := n2_; clear n0_ n1_ n2_; (try clear hb); (try clear hb2); (try clear hk); (try clear hi); have hcz52_0 : w51.cell? ⟨gb346, 0, none⟩ = some (.int .i64 ((rd_T53 t338 t339).f0)) := (blk_cell BK346.out 0).trans rfl; have hcz52_1 : w51.cell? ⟨gb346, 1, none⟩ = some (.int .i64 ((rd_T53 t338 t339).f1)) := (blk_cell BK346.out 1).trans rfl; have hcz52_2 : w51.cell? ⟨gb346, 2, none⟩ = some (.int .i64 ((rd_T53 t338 t339).f2)) := (blk_cell BK346.out 2).trans rfl; have hcz52_3 : w51.cell? ⟨gb346, 3, none⟩ = some (.string ((rd_T53 t338 t339).f3)) := (blk_cell BK346.out 3).trans rfl; have hcz52_4 : w51.cell? ⟨gb346, 4, none⟩ = some (.int .i64 ((rd_T53 t338 t339).f4)) := (blk_cell BK346.out 4).trans rfl; have hfz52_0 := blk_frozen BK346.out 0; have hfz52_1 := blk_frozen BK346.out 1; have hfz52_2 := blk_frozen BK346.out 2; have hfz52_3 := blk_frozen BK346.out 3; have hfz52_4 := blk_frozen BK346.out 4; have p352 : 0 ≤ (x7_1 : Int) := of_decide_eq_true (by first | (with_reducible assumption) | assumption); have q352 : x7_1 < (t338.length : Int) := of_decide_eq_true (by first | (with_reducible assumption) | assumption); obtain ⟨ad352, e352, hx352_0, hx352_1, hx352_2, hx352_3, hx352_4⟩ := at_T53 (Kd.R_reads' HO_3.out).2.2 x7_1 p352 q352; obtain rfl : ad345 = ad352 := (by injection e352); replace p352 := eq_true p352; replace q352 := eq_true q352) | ((with_reducible refine gate_callee (f := 35) rfl ?_); refine goesL_ (some 105) rfl rfl Try.func35 (by kernel_rfl) rfl #[.slice (some ad345) t338.length co18, .int .i64 x7_1] rfl (by (try simp only [List.map_toArray, List.map_cons, List.map_nil]); first | done | rfl | (simp only [List.length_drop, List.length_take]; rfl)) ?_; (with_reducible refine (impl_TreeAfter.calls kj23 _ _ t338 x7_1 t355 _ ?side1 ?side2 A50.out).mono ?_); (case side1 => repeat (first | exact (Kd.R_reads' HO_3.out).2.2 | (with_reducible refine Kd.C_alloc ?_ _) | (with_reducible refine Kd.C_drewN ?_ _) | (with_reducible refine Kd.C_drew ?_))); (case side2 => exact (Kd.R_reads' HO_3.out).2.1); rintro e w53 ⟨rfl, hb⟩; refine ⟨_, rfl, ?_⟩; have n0_ := Aside0.mk (Kd.R_below (by (with_reducible repeat (first | apply Kd.R_alloc | apply Kd.R_drewN | apply Kd.R_drew)); exact HO_3.out) hb); have n1_ := Aside0.mk (blk_below (g := gb346) (o := .cells #[.int .i64 ((rd_T53 t338 t339).f0), .int .i64 ((rd_T53 t338 t339).f1), .int .i64 ((rd_T53 t338 t339).f2), .string ((rd_T53 t338 t339).f3), .int .i64 ((rd_T53 t338 t339).f4)] 53 (0, 0)) (by (with_reducible repeat (first | refine blk_drewN ?_ _ | refine blk_drew ?_ | refine blk_alloc ?_ _)); exact BK346.out) hb); have n2_ := Aside0.mk (below_step (by repeat (first | (with_reducible first | exact HB.out | apply below_alloc | apply pw_below_drewN | apply below_drew1 | refine below_set ?_ GE346.out) | exact HB.out)) hb); clear HO_3; clear BK346; clear HB; have HO_3 := n0_; have BK346 := n1_; have HB := n2_; clear n0_ n1_ n2_; (try clear hb); (try clear hb2); (try clear hk); (try clear hi)))
                                    go_roundg kj23
                                    case measure => have := HK1.out; have := HJ23.out; omega
                                    case rel => exact ⟨(t355), (wrap64 (x8_1 + 1)), (by first | rfl | (simp; done) | (simp [*]; done)), (by first | rfl | (simp; done) | (simp [*]; done)), H', ⟨by have := HK1.out; have := HJ23.out; omega⟩, ⟨by (with_reducible repeat (first | apply Kd.R_alloc | apply Kd.R_drewN | apply Kd.R_drew)); exact HO_3.out⟩, ⟨by (with_reducible repeat (first | refine blk_drewN ?_ _ | refine blk_drew ?_ | refine blk_alloc ?_ _)); exact BK346.out⟩, ⟨by repeat (first | (with_reducible first | exact HB.out | apply below_alloc | apply pw_below_drewN | apply below_drew1 | refine below_set ?_ GE346.out) | exact HB.out)⟩⟩
                              · rw [if_neg c38] at H
                                have c38b0 : (((rd_T53 t338 x7_1).f0) == 5) = false := beq_eq_false_iff_ne.mpr c38
                                have c38b1 : (((rd_T53 t338 x7_1).f0) != 5) = true := bne_iff_ne.mpr c38
                                by_cases c54 : (t351 != (((rd_T53 t338 x7_1).f0) == 6)) = true
                                · rw [if_pos c54] at H
                                  have c54b0 : (t351 != (((rd_T53 t338 x7_1).f0) == 6)) = true := c54
                                  (try (have c54b1 : decide (t351 = (((rd_T53 t338 x7_1).f0) == 6)) = false := by simpa using c54))
                                  (try (have c54b2 : (t351 == (((rd_T53 t338 x7_1).f0) == 6)) = false := by simpa using c54))
                                  (try (have c54b3 : ¬ (t351 = (((rd_T53 t338 x7_1).f0) == 6)) := by simpa using c54))
                                  clear c54
                                  obtain rfl := Option.some.inj H
                                  have p349 : 0 ≤ (x7_1 : Int) := of_decide_eq_true (by first | (with_reducible assumption) | assumption)
                                  have q349 : x7_1 < (t338.length : Int) := of_decide_eq_true (by first | (with_reducible assumption) | assumption)
                                  obtain ⟨ad349, e349, hx349_0, hx349_1, hx349_2, hx349_3, hx349_4⟩ := at_T53 (Kd.R_reads' HO_3.out).2.2 x7_1 p349 q349
                                  obtain rfl : ad345 = ad349 := (by injection e349)
                                  replace p349 := eq_true p349
                                  replace q349 := eq_true q349
                                  go_wp2_with (first | ((with_reducible refine gate_callee (f := 38) rfl ?_); refine goesL_ (some 67) rfl rfl Try.func38 (by kernel_rfl) rfl #[.slice (some ad345) t338.length co18, .int .i64 t339, .int .i64 ((rd_T53 t338 x7_1).f1)] rfl (by (try simp only [List.map_toArray, List.map_cons, List.map_nil]); first | done | rfl | (simp only [List.length_drop, List.length_take]; rfl)) ?_; (with_reducible refine (impl_TreeNumOf.calls kj23 _ _ t338 t339 ((rd_T53 t338 x7_1).f1) t350 t351 _ ?side1 ?side2 A36.out).mono ?_); (case side1 => repeat (first | exact (Kd.R_reads' HO_3.out).2.2 | (with_reducible refine Kd.C_alloc ?_ _) | (with_reducible refine Kd.C_drewN ?_ _) | (with_reducible refine Kd.C_drew ?_))); (case side2 => exact (Kd.R_reads' HO_3.out).2.1); rintro e w55 ⟨rfl, hb⟩; refine ⟨_, rfl, ?_⟩; have n0_ := Aside0.mk (Kd.R_below (by (with_reducible repeat (first | apply Kd.R_alloc | apply Kd.R_drewN | apply Kd.R_drew)); exact HO_3.out) hb); have n1_ := Aside0.mk (blk_below (g := gb346) (o := .cells #[.int .i64 ((rd_T53 t338 t339).f0), .int .i64 ((rd_T53 t338 t339).f1), .int .i64 ((rd_T53 t338 t339).f2), .string ((rd_T53 t338 t339).f3), .int .i64 ((rd_T53 t338 t339).f4)] 53 (0, 0)) (by (with_reducible repeat (first | refine blk_drewN ?_ _ | refine blk_drew ?_ | refine blk_alloc ?_ _)); exact BK346.out) hb); have n2_ := Aside0.mk (below_step (by repeat (first | (with_reducible first | exact HB.out | apply below_alloc | apply pw_below_drewN | apply below_drew1 | refine below_set ?_ GE346.out) | exact HB.out)) hb); clear HO_3; clear BK346; clear HB; have HO_3 := n0_; have BK346 := n1_; have HB := n2_; clear n0_ n1_ n2_; (try clear hb); (try clear hb2); (try clear hk); (try clear hi); have hcz56_0 : w55.cell? ⟨gb346, 0, none⟩ = some (.int .i64 ((rd_T53 t338 t339).f0)) := (blk_cell BK346.out 0).trans rfl; have hcz56_1 : w55.cell? ⟨gb346, 1, none⟩ = some (.int .i64 ((rd_T53 t338 t339).f1)) := (blk_cell BK346.out 1).trans rfl; have hcz56_2 : w55.cell? ⟨gb346, 2, none⟩ = some (.int .i64 ((rd_T53 t338 t339).f2)) := (blk_cell BK346.out 2).trans rfl; have hcz56_3 : w55.cell? ⟨gb346, 3, none⟩ = some (.string ((rd_T53 t338 t339).f3)) := (blk_cell BK346.out 3).trans rfl; have hcz56_4 : w55.cell? ⟨gb346, 4, none⟩ = some (.int .i64 ((rd_T53 t338 t339).f4)) := (blk_cell BK346.out 4).trans rfl; have hfz56_0 := blk_frozen BK346.out 0; have hfz56_1 := blk_frozen BK346.out 1; have hfz56_2 := blk_frozen BK346.out 2; have hfz56_3 := blk_frozen BK346.out 3; have hfz56_4 := blk_frozen BK346.out 4; have p352 : 0 ≤ (x7_1 : Int) := of_decide_eq_true (by first | (with_reducible assumption) | assumption); have q352 : x7_1 < (t338.length : Int) := of_decide_eq_true (by first | (with_reducible assumption) | assumption); obtain ⟨ad352, e352, hx352_0, hx352_1, hx352_2, hx352_3, hx352_4⟩ := at_T53 (Kd.R_reads' HO_3.out).2.2 x7_1 p352 q352; obtain rfl : ad345 = ad352 := (by injection e352); replace p352 := eq_true p352; replace q352 := eq_true q352; have p356 : 0 ≤ (x7_1 : Int) := of_decide_eq_true (by first | (with_reducible assumption) | assumption); have q356 : x7_1 < (t338.length : Int) := of_decide_eq_true (by first | (with_reducible assumption) | assumption); obtain ⟨ad356, e356, hx356_0, hx356_1, hx356_2, hx356_3, hx356_4⟩ := at_T53 (Kd.R_reads' HO_3.out).2.2 x7_1 p356 q356; obtain rfl : ad345 = ad356 := (by injection e356); replace p356 := eq_true p356; replace q356 := eq_true q356))
                                  go_ret
                                  exact ⟨by first | rfl | (simp [errW_none, errW_some] <;> rfl) | (simp [*, errW_none, errW_some] <;> rfl), by repeat (first | (with_reducible first | exact HB.out | apply below_alloc | apply pw_below_drewN | apply below_drew1 | refine below_set ?_ GE346.out) | exact HB.out)⟩
                                · rw [if_neg c54] at H
                                  have c54b0 : (t351 != (((rd_T53 t338 x7_1).f0) == 6)) = false := by simpa using c54
                                  (try (have c54b1 : decide (t351 = (((rd_T53 t338 x7_1).f0) == 6)) = true := by simpa using c54))
                                  (try (have c54b2 : (t351 == (((rd_T53 t338 x7_1).f0) == 6)) = true := by simpa using c54))
                                  clear c54
                                  by_cases c57 : t351 = true
                                  · subst c57
                                    have H1 : (if t350 = ((rd_T53 t338 x7_1).f2) then ((impl_TreeAfter.f kj23 t338 x7_1).bind fun t358 => (laws_FnTreeParts.l0 kj23 t338 t339 t342 t358 (wrap64 (x8_1 + 1)) ((rd_T53 t338 t339).f0) ((rd_T53 t338 t339).f1) ((rd_T53 t338 t339).f2) ((rd_T53 t338 t339).f3) ((rd_T53 t338 t339).f4))) else (some false)) = some r := by rw [if_pos rfl] at H; exact H
                                    clear H
                                    have H := H1
                                    clear H1
                                    by_cases c58 : t350 = ((rd_T53 t338 x7_1).f2)
                                    · rw [if_pos c58] at H
                                      have c58b0 : (t350 == ((rd_T53 t338 x7_1).f2)) = true := beq_iff_eq.mpr c58
                                      have c58b1 : (t350 != ((rd_T53 t338 x7_1).f2)) = false := bne_eq_false_iff_eq.mpr c58
                                      clear c58
                                      replace H := Option.bind_eq_some_iff.mp H
                                      obtain ⟨t358, A590, H⟩ := H
                                      replace H : (laws_FnTreeParts.l0 kj23 t338 t339 t342 t358 (wrap64 (x8_1 + 1)) ((rd_T53 t338 t339).f0) ((rd_T53 t338 t339).f1) ((rd_T53 t338 t339).f2) ((rd_T53 t338 t339).f3) ((rd_T53 t338 t339).f4)) = some r := H
                                      have A59 := Aside0.mk A590
                                      clear A590
                                      have H' := Aside0.mk H
                                      clear H
                                      have p349 : 0 ≤ (x7_1 : Int) := of_decide_eq_true (by first | (with_reducible assumption) | assumption)
                                      have q349 : x7_1 < (t338.length : Int) := of_decide_eq_true (by first | (with_reducible assumption) | assumption)
                                      obtain ⟨ad349, e349, hx349_0, hx349_1, hx349_2, hx349_3, hx349_4⟩ := at_T53 (Kd.R_reads' HO_3.out).2.2 x7_1 p349 q349
                                      obtain rfl : ad345 = ad349 := (by injection e349)
                                      replace p349 := eq_true p349
                                      replace q349 := eq_true q349
                                      go_wp2_with (first | ((with_reducible refine gate_callee (f := 38) rfl ?_); refine goesL_ (some 67) rfl rfl Try.func38 (by kernel_rfl) rfl #[.slice (some ad345) t338.length co18, .int .i64 t339, .int .i64 ((rd_T53 t338 x7_1).f1)] rfl (by (try simp only [List.map_toArray, List.map_cons, List.map_nil]); first | done | rfl | (simp only [List.length_drop, List.length_take]; rfl)) ?_; (with_reducible refine (impl_TreeNumOf.calls kj23 _ _ t338 t339 ((rd_T53 t338 x7_1).f1) t350 true _ ?side1 ?side2 A36.out).mono ?_); (case side1 => repeat (first | exact (Kd.R_reads' HO_3.out).2.2 | (with_reducible refine Kd.C_alloc ?_ _) | (with_reducible refine Kd.C_drewN ?_ _) | (with_reducible refine Kd.C_drew ?_))); (case side2 => exact (Kd.R_reads' HO_3.out).2.1); rintro e w60 ⟨rfl, hb⟩; refine ⟨_, rfl, ?_⟩; have n0_ := Aside0.mk (Kd.R_below (by (with_reducible repeat (first | apply Kd.R_alloc | apply Kd.R_drewN | apply Kd.R_drew)); exact HO_3.out) hb); have n1_ := Aside0.mk (blk_below (g := gb346) (o := .cells #[.int .i64 ((rd_T53 t338 t339).f0), .int .i64 ((rd_T53 t338 t339).f1), .int .i64 ((rd_T53 t338 t339).f2), .string ((rd_T53 t338 t339).f3), .int .i64 ((rd_T53 t338 t339).f4)] 53 (0, 0)) (by (with_reducible repeat (first | refine blk_drewN ?_ _ | refine blk_drew ?_ | refine blk_alloc ?_ _)); exact BK346.out) hb); have n2_ := Aside0.mk (below_step (by repeat (first | (with_reducible first | exact HB.out | apply below_alloc | apply pw_below_drewN | apply below_drew1 | refine below_set ?_ GE346.out) | exact HB.out)) hb); clear HO_3; clear BK346; clear HB; have HO_3 := n0_; have BK346 := n1_; have HB := n2_; clear n0_ n1_ n2_; (try clear hb); (try clear hb2); (try clear hk); (try clear hi); have hcz61_0 : w60.cell? ⟨gb346, 0, none⟩ = some (.int .i64 ((rd_T53 t338 t339).f0)) := (blk_cell BK346.out 0).trans rfl; have hcz61_1 : w60.cell? ⟨gb346, 1, none⟩ = some (.int .i64 ((rd_T53 t338 t339).f1)) := (blk_cell BK346.out 1).trans rfl; have hcz61_2 : w60.cell? ⟨gb346, 2, none⟩ = some (.int .i64 ((rd_T53 t338 t339).f2)) := (blk_cell BK346.out 2).trans rfl; have hcz61_3 : w60.cell? ⟨gb346, 3, none⟩ = some (.string ((rd_T53 t338 t339).f3)) := (blk_cell BK346.out 3).trans rfl; have hcz61_4 : w60.cell? ⟨gb346, 4, none⟩ = some (.int .i64 ((rd_T53 t338 t339).f4)) := (blk_cell BK346.out 4).trans rfl; have hfz61_0 := blk_frozen BK346.out 0; have hfz61_1 := blk_frozen BK346.out 1; have hfz61_2 := blk_frozen BK346.out 2; have hfz61_3 := blk_frozen BK346.out 3; have hfz61_4 := blk_frozen BK346.out 4; have p352 : 0 ≤ (x7_1 : Int) := of_decide_eq_true (by first | (with_reducible assumption) | assumption); have q352 : x7_1 < (t338.length : Int) := of_decide_eq_true (by first | (with_reducible assumption) | assumption); obtain ⟨ad352, e352, hx352_0, hx352_1, hx352_2, hx352_3, hx352_4⟩ := at_T53 (Kd.R_reads' HO_3.out).2.2 x7_1 p352 q352; obtain rfl : ad345 = ad352 := (by injection e352); replace p352 := eq_true p352; replace q352 := eq_true q352; have p356 : 0 ≤ (x7_1 : Int) := of_decide_eq_true (by first | (with_reducible assumption) | assumption); have q356 : x7_1 < (t338.length : Int) := of_decide_eq_true (by first | (with_reducible assumption) | assumption); obtain ⟨ad356, e356, hx356_0, hx356_1, hx356_2, hx356_3, hx356_4⟩ := at_T53 (Kd.R_reads' HO_3.out).2.2 x7_1 p356 q356; obtain rfl : ad345 = ad356 := (by injection e356); replace p356 := eq_true p356; replace q356 := eq_true q356; have p357 : 0 ≤ (x7_1 : Int) := of_decide_eq_true (by first | (with_reducible assumption) | assumption); have q357 : x7_1 < (t338.length : Int) := of_decide_eq_true (by first | (with_reducible assumption) | assumption); obtain ⟨ad357, e357, hx357_0, hx357_1, hx357_2, hx357_3, hx357_4⟩ := at_T53 (Kd.R_reads' HO_3.out).2.2 x7_1 p357 q357; obtain rfl : ad345 = ad357 := (by injection e357); replace p357 := eq_true p357; replace q357 := eq_true q357) | ((with_reducible refine gate_callee (f := 35) rfl ?_); refine goesL_ (some 105) rfl rfl Try.func35 (by kernel_rfl) rfl #[.slice (some ad345) t338.length co18, .int .i64 x7_1] rfl (by (try simp only [List.map_toArray, List.map_cons, List.map_nil]); first | done | rfl | (simp only [List.length_drop, List.length_take]; rfl)) ?_; (with_reducible refine (impl_TreeAfter.calls kj23 _ _ t338 x7_1 t358 _ ?side1 ?side2 A59.out).mono ?_); (case side1 => repeat (first | exact (Kd.R_reads' HO_3.out).2.2 | (with_reducible refine Kd.C_alloc ?_ _) | (with_reducible refine Kd.C_drewN ?_ _) | (with_reducible refine Kd.C_drew ?_))); (case side2 => exact (Kd.R_reads' HO_3.out).2.1); rintro e w62 ⟨rfl, hb⟩; refine ⟨_, rfl, ?_⟩; have n0_ := Aside0.mk (Kd.R_below (by (with_reducible repeat (first | apply Kd.R_alloc | apply Kd.R_drewN | apply Kd.R_drew)); exact HO_3.out) hb); have n1_ := Aside0.mk (blk_below (g := gb346) (o := .cells #[.int .i64 ((rd_T53 t338 t339).f0), .int .i64 ((rd_T53 t338 t339).f1), .int .i64 ((rd_T53 t338 t339).f2), .string ((rd_T53 t338 t339).f3), .int .i64 ((rd_T53 t338 t339).f4)] 53 (0, 0)) (by (with_reducible repeat (first | refine blk_drewN ?_ _ | refine blk_drew ?_ | refine blk_alloc ?_ _)); exact BK346.out) hb); have n2_ := Aside0.mk (below_step (by repeat (first | (with_reducible first | exact HB.out | apply below_alloc | apply pw_below_drewN | apply below_drew1 | refine below_set ?_ GE346.out) | exact HB.out)) hb); clear HO_3; clear BK346; clear HB; have HO_3 := n0_; have BK346 := n1_; have HB := n2_; clear n0_ n1_ n2_; (try clear hb); (try clear hb2); (try clear hk); (try clear hi)))
                                      go_roundg kj23
                                      case measure => have := HK1.out; have := HJ23.out; omega
                                      case rel => exact ⟨(t358), (wrap64 (x8_1 + 1)), (by first | rfl | (simp; done) | (simp [*]; done)), (by first | rfl | (simp; done) | (simp [*]; done)), H', ⟨by have := HK1.out; have := HJ23.out; omega⟩, ⟨by (with_reducible repeat (first | apply Kd.R_alloc | apply Kd.R_drewN | apply Kd.R_drew)); exact HO_3.out⟩, ⟨by (with_reducible repeat (first | refine blk_drewN ?_ _ | refine blk_drew ?_ | refine blk_alloc ?_ _)); exact BK346.out⟩, ⟨by repeat (first | (with_reducible first | exact HB.out | apply below_alloc | apply pw_below_drewN | apply below_drew1 | refine below_set ?_ GE346.out) | exact HB.out)⟩⟩
                                    · rw [if_neg c58] at H
                                      have c58b0 : (t350 == ((rd_T53 t338 x7_1).f2)) = false := beq_eq_false_iff_ne.mpr c58
                                      have c58b1 : (t350 != ((rd_T53 t338 x7_1).f2)) = true := bne_iff_ne.mpr c58
                                      obtain rfl := Option.some.inj H
                                      have p349 : 0 ≤ (x7_1 : Int) := of_decide_eq_true (by first | (with_reducible assumption) | assumption)
                                      have q349 : x7_1 < (t338.length : Int) := of_decide_eq_true (by first | (with_reducible assumption) | assumption)
                                      obtain ⟨ad349, e349, hx349_0, hx349_1, hx349_2, hx349_3, hx349_4⟩ := at_T53 (Kd.R_reads' HO_3.out).2.2 x7_1 p349 q349
                                      obtain rfl : ad345 = ad349 := (by injection e349)
                                      replace p349 := eq_true p349
                                      replace q349 := eq_true q349
                                      go_wp2_with (first | ((with_reducible refine gate_callee (f := 38) rfl ?_); refine goesL_ (some 67) rfl rfl Try.func38 (by kernel_rfl) rfl #[.slice (some ad345) t338.length co18, .int .i64 t339, .int .i64 ((rd_T53 t338 x7_1).f1)] rfl (by (try simp only [List.map_toArray, List.map_cons, List.map_nil]); first | done | rfl | (simp only [List.length_drop, List.length_take]; rfl)) ?_; (with_reducible refine (impl_TreeNumOf.calls kj23 _ _ t338 t339 ((rd_T53 t338 x7_1).f1) t350 true _ ?side1 ?side2 A36.out).mono ?_); (case side1 => repeat (first | exact (Kd.R_reads' HO_3.out).2.2 | (with_reducible refine Kd.C_alloc ?_ _) | (with_reducible refine Kd.C_drewN ?_ _) | (with_reducible refine Kd.C_drew ?_))); (case side2 => exact (Kd.R_reads' HO_3.out).2.1); rintro e w63 ⟨rfl, hb⟩; refine ⟨_, rfl, ?_⟩; have n0_ := Aside0.mk (Kd.R_below (by (with_reducible repeat (first | apply Kd.R_alloc | apply Kd.R_drewN | apply Kd.R_drew)); exact HO_3.out) hb); have n1_ := Aside0.mk (blk_below (g := gb346) (o := .cells #[.int .i64 ((rd_T53 t338 t339).f0), .int .i64 ((rd_T53 t338 t339).f1), .int .i64 ((rd_T53 t338 t339).f2), .string ((rd_T53 t338 t339).f3), .int .i64 ((rd_T53 t338 t339).f4)] 53 (0, 0)) (by (with_reducible repeat (first | refine blk_drewN ?_ _ | refine blk_drew ?_ | refine blk_alloc ?_ _)); exact BK346.out) hb); have n2_ := Aside0.mk (below_step (by repeat (first | (with_reducible first | exact HB.out | apply below_alloc | apply pw_below_drewN | apply below_drew1 | refine below_set ?_ GE346.out) | exact HB.out)) hb); clear HO_3; clear BK346; clear HB; have HO_3 := n0_; have BK346 := n1_; have HB := n2_; clear n0_ n1_ n2_; (try clear hb); (try clear hb2); (try clear hk); (try clear hi); have hcz64_0 : w63.cell? ⟨gb346, 0, none⟩ = some (.int .i64 ((rd_T53 t338 t339).f0)) := (blk_cell BK346.out 0).trans rfl; have hcz64_1 : w63.cell? ⟨gb346, 1, none⟩ = some (.int .i64 ((rd_T53 t338 t339).f1)) := (blk_cell BK346.out 1).trans rfl; have hcz64_2 : w63.cell? ⟨gb346, 2, none⟩ = some (.int .i64 ((rd_T53 t338 t339).f2)) := (blk_cell BK346.out 2).trans rfl; have hcz64_3 : w63.cell? ⟨gb346, 3, none⟩ = some (.string ((rd_T53 t338 t339).f3)) := (blk_cell BK346.out 3).trans rfl; have hcz64_4 : w63.cell? ⟨gb346, 4, none⟩ = some (.int .i64 ((rd_T53 t338 t339).f4)) := (blk_cell BK346.out 4).trans rfl; have hfz64_0 := blk_frozen BK346.out 0; have hfz64_1 := blk_frozen BK346.out 1; have hfz64_2 := blk_frozen BK346.out 2; have hfz64_3 := blk_frozen BK346.out 3; have hfz64_4 := blk_frozen BK346.out 4; have p352 : 0 ≤ (x7_1 : Int) := of_decide_eq_true (by first | (with_reducible assumption) | assumption); have q352 : x7_1 < (t338.length : Int) := of_decide_eq_true (by first | (with_reducible assumption) | assumption); obtain ⟨ad352, e352, hx352_0, hx352_1, hx352_2, hx352_3, hx352_4⟩ := at_T53 (Kd.R_reads' HO_3.out).2.2 x7_1 p352 q352; obtain rfl : ad345 = ad352 := (by injection e352); replace p352 := eq_true p352; replace q352 := eq_true q352; have p356 : 0 ≤ (x7_1 : Int) := of_decide_eq_true (by first | (with_reducible assumption) | assumption); have q356 : x7_1 < (t338.length : Int) := of_decide_eq_true (by first | (with_reducible assumption) | assumption); obtain ⟨ad356, e356, hx356_0, hx356_1, hx356_2, hx356_3, hx356_4⟩ := at_T53 (Kd.R_reads' HO_3.out).2.2 x7_1 p356 q356; obtain rfl : ad345 = ad356 := (by injection e356); replace p356 := eq_true p356; replace q356 := eq_true q356; have p357 : 0 ≤ (x7_1 : Int) := of_decide_eq_true (by first | (with_reducible assumption) | assumption); have q357 : x7_1 < (t338.length : Int) := of_decide_eq_true (by first | (with_reducible assumption) | assumption); obtain ⟨ad357, e357, hx357_0, hx357_1, hx357_2, hx357_3, hx357_4⟩ := at_T53 (Kd.R_reads' HO_3.out).2.2 x7_1 p357 q357; obtain rfl : ad345 = ad357 := (by injection e357); replace p357 := eq_true p357; replace q357 := eq_true q357))
                                      go_ret
                                      exact ⟨by first | rfl | (simp [errW_none, errW_some] <;> rfl) | (simp [*, errW_none, errW_some] <;> rfl), by repeat (first | (with_reducible first | exact HB.out | apply below_alloc | apply pw_below_drewN | apply below_drew1 | refine below_set ?_ GE346.out) | exact HB.out)⟩
                                  · replace c57 := Bool.eq_false_iff.mpr c57
                                    subst c57
                                    have H1 : ((impl_TreeAfter.f kj23 t338 x7_1).bind fun t359 => (laws_FnTreeParts.l0 kj23 t338 t339 t342 t359 (wrap64 (x8_1 + 1)) ((rd_T53 t338 t339).f0) ((rd_T53 t338 t339).f1) ((rd_T53 t338 t339).f2) ((rd_T53 t338 t339).f3) ((rd_T53 t338 t339).f4))) = some r := by rw [if_neg (show ¬ (false = true) by decide)] at H; exact H
                                    clear H
                                    have H := H1
                                    clear H1
                                    replace H := Option.bind_eq_some_iff.mp H
                                    obtain ⟨t359, A650, H⟩ := H
                                    replace H : (laws_FnTreeParts.l0 kj23 t338 t339 t342 t359 (wrap64 (x8_1 + 1)) ((rd_T53 t338 t339).f0) ((rd_T53 t338 t339).f1) ((rd_T53 t338 t339).f2) ((rd_T53 t338 t339).f3) ((rd_T53 t338 t339).f4)) = some r := H
                                    have A65 := Aside0.mk A650
                                    clear A650
                                    have H' := Aside0.mk H
                                    clear H
                                    have p349 : 0 ≤ (x7_1 : Int) := of_decide_eq_true (by first | (with_reducible assumption) | assumption)
                                    have q349 : x7_1 < (t338.length : Int) := of_decide_eq_true (by first | (with_reducible assumption) | assumption)
                                    obtain ⟨ad349, e349, hx349_0, hx349_1, hx349_2, hx349_3, hx349_4⟩ := at_T53 (Kd.R_reads' HO_3.out).2.2 x7_1 p349 q349
                                    obtain rfl : ad345 = ad349 := (by injection e349)
                                    replace p349 := eq_true p349
                                    replace q349 := eq_true q349
                                    go_wp2_with (first | ((with_reducible refine gate_callee (f := 38) rfl ?_); refine goesL_ (some 67) rfl rfl Try.func38 (by kernel_rfl) rfl #[.slice (some ad345) t338.length co18, .int .i64 t339, .int .i64 ((rd_T53 t338 x7_1).f1)] rfl (by (try simp only [List.map_toArray, List.map_cons, List.map_nil]); first | done | rfl | (simp only [List.length_drop, List.length_take]; rfl)) ?_; (with_reducible refine (impl_TreeNumOf.calls kj23 _ _ t338 t339 ((rd_T53 t338 x7_1).f1) t350 false _ ?side1 ?side2 A36.out).mono ?_); (case side1 => repeat (first | exact (Kd.R_reads' HO_3.out).2.2 | (with_reducible refine Kd.C_alloc ?_ _) | (with_reducible refine Kd.C_drewN ?_ _) | (with_reducible refine Kd.C_drew ?_))); (case side2 => exact (Kd.R_reads' HO_3.out).2.1); rintro e w66 ⟨rfl, hb⟩; refine ⟨_, rfl, ?_⟩; have n0_ := Aside0.mk (Kd.R_below (by (with_reducible repeat (first | apply Kd.R_alloc | apply Kd.R_drewN | apply Kd.R_drew)); exact HO_3.out) hb); have n1_ := Aside0.mk (blk_below (g := gb346) (o := .cells #[.int .i64 ((rd_T53 t338 t339).f0), .int .i64 ((rd_T53 t338 t339).f1), .int .i64 ((rd_T53 t338 t339).f2), .string ((rd_T53 t338 t339).f3), .int .i64 ((rd_T53 t338 t339).f4)] 53 (0, 0)) (by (with_reducible repeat (first | refine blk_drewN ?_ _ | refine blk_drew ?_ | refine blk_alloc ?_ _)); exact BK346.out) hb); have n2_ := Aside0.mk (below_step (by repeat (first | (with_reducible first | exact HB.out | apply below_alloc | apply pw_below_drewN | apply below_drew1 | refine below_set ?_ GE346.out) | exact HB.out)) hb); clear HO_3; clear BK346; clear HB; have HO_3 := n0_; have BK346 := n1_; have HB := n2_; clear n0_ n1_ n2_; (try clear hb); (try clear hb2); (try clear hk); (try clear hi); have hcz67_0 : w66.cell? ⟨gb346, 0, none⟩ = some (.int .i64 ((rd_T53 t338 t339).f0)) := (blk_cell BK346.out 0).trans rfl; have hcz67_1 : w66.cell? ⟨gb346, 1, none⟩ = some (.int .i64 ((rd_T53 t338 t339).f1)) := (blk_cell BK346.out 1).trans rfl; have hcz67_2 : w66.cell? ⟨gb346, 2, none⟩ = some (.int .i64 ((rd_T53 t338 t339).f2)) := (blk_cell BK346.out 2).trans rfl; have hcz67_3 : w66.cell? ⟨gb346, 3, none⟩ = some (.string ((rd_T53 t338 t339).f3)) := (blk_cell BK346.out 3).trans rfl; have hcz67_4 : w66.cell? ⟨gb346, 4, none⟩ = some (.int .i64 ((rd_T53 t338 t339).f4)) := (blk_cell BK346.out 4).trans rfl; have hfz67_0 := blk_frozen BK346.out 0; have hfz67_1 := blk_frozen BK346.out 1; have hfz67_2 := blk_frozen BK346.out 2; have hfz67_3 := blk_frozen BK346.out 3; have hfz67_4 := blk_frozen BK346.out 4; have p352 : 0 ≤ (x7_1 : Int) := of_decide_eq_true (by first | (with_reducible assumption) | assumption); have q352 : x7_1 < (t338.length : Int) := of_decide_eq_true (by first | (with_reducible assumption) | assumption); obtain ⟨ad352, e352, hx352_0, hx352_1, hx352_2, hx352_3, hx352_4⟩ := at_T53 (Kd.R_reads' HO_3.out).2.2 x7_1 p352 q352; obtain rfl : ad345 = ad352 := (by injection e352); replace p352 := eq_true p352; replace q352 := eq_true q352; have p356 : 0 ≤ (x7_1 : Int) := of_decide_eq_true (by first | (with_reducible assumption) | assumption); have q356 : x7_1 < (t338.length : Int) := of_decide_eq_true (by first | (with_reducible assumption) | assumption); obtain ⟨ad356, e356, hx356_0, hx356_1, hx356_2, hx356_3, hx356_4⟩ := at_T53 (Kd.R_reads' HO_3.out).2.2 x7_1 p356 q356; obtain rfl : ad345 = ad356 := (by injection e356); replace p356 := eq_true p356; replace q356 := eq_true q356) | ((with_reducible refine gate_callee (f := 35) rfl ?_); refine goesL_ (some 105) rfl rfl Try.func35 (by kernel_rfl) rfl #[.slice (some ad345) t338.length co18, .int .i64 x7_1] rfl (by (try simp only [List.map_toArray, List.map_cons, List.map_nil]); first | done | rfl | (simp only [List.length_drop, List.length_take]; rfl)) ?_; (with_reducible refine (impl_TreeAfter.calls kj23 _ _ t338 x7_1 t359 _ ?side1 ?side2 A65.out).mono ?_); (case side1 => repeat (first | exact (Kd.R_reads' HO_3.out).2.2 | (with_reducible refine Kd.C_alloc ?_ _) | (with_reducible refine Kd.C_drewN ?_ _) | (with_reducible refine Kd.C_drew ?_))); (case side2 => exact (Kd.R_reads' HO_3.out).2.1); rintro e w68 ⟨rfl, hb⟩; refine ⟨_, rfl, ?_⟩; have n0_ := Aside0.mk (Kd.R_below (by (with_reducible repeat (first | apply Kd.R_alloc | apply Kd.R_drewN | apply Kd.R_drew)); exact HO_3.out) hb); have n1_ := Aside0.mk (blk_below (g := gb346) (o := .cells #[.int .i64 ((rd_T53 t338 t339).f0), .int .i64 ((rd_T53 t338 t339).f1), .int .i64 ((rd_T53 t338 t339).f2), .string ((rd_T53 t338 t339).f3), .int .i64 ((rd_T53 t338 t339).f4)] 53 (0, 0)) (by (with_reducible repeat (first | refine blk_drewN ?_ _ | refine blk_drew ?_ | refine blk_alloc ?_ _)); exact BK346.out) hb); have n2_ := Aside0.mk (below_step (by repeat (first | (with_reducible first | exact HB.out | apply below_alloc | apply pw_below_drewN | apply below_drew1 | refine below_set ?_ GE346.out) | exact HB.out)) hb); clear HO_3; clear BK346; clear HB; have HO_3 := n0_; have BK346 := n1_; have HB := n2_; clear n0_ n1_ n2_; (try clear hb); (try clear hb2); (try clear hk); (try clear hi)))
                                    go_roundg kj23
                                    case measure => have := HK1.out; have := HJ23.out; omega
                                    case rel => exact ⟨(t359), (wrap64 (x8_1 + 1)), (by first | rfl | (simp; done) | (simp [*]; done)), (by first | rfl | (simp; done) | (simp [*]; done)), H', ⟨by have := HK1.out; have := HJ23.out; omega⟩, ⟨by (with_reducible repeat (first | apply Kd.R_alloc | apply Kd.R_drewN | apply Kd.R_drew)); exact HO_3.out⟩, ⟨by (with_reducible repeat (first | refine blk_drewN ?_ _ | refine blk_drew ?_ | refine blk_alloc ?_ _)); exact BK346.out⟩, ⟨by repeat (first | (with_reducible first | exact HB.out | apply below_alloc | apply pw_below_drewN | apply below_drew1 | refine below_set ?_ GE346.out) | exact HB.out)⟩⟩
                            · rw [if_neg c37] at H
                              have c37b0 : (((rd_T53 t338 t339).f0) == 12) = false := beq_eq_false_iff_ne.mpr c37
                              have c37b1 : (((rd_T53 t338 t339).f0) != 12) = true := bne_iff_ne.mpr c37
                              by_cases c69 : t351 = true
                              · subst c69
                                have H1 : (if t350 = ((rd_T53 t338 x7_1).f2) then ((impl_TreeAfter.f kj23 t338 x7_1).bind fun t361 => (laws_FnTreeParts.l0 kj23 t338 t339 t342 t361 (wrap64 (x8_1 + 1)) ((rd_T53 t338 t339).f0) ((rd_T53 t338 t339).f1) ((rd_T53 t338 t339).f2) ((rd_T53 t338 t339).f3) ((rd_T53 t338 t339).f4))) else (some false)) = some r := by rw [if_pos rfl] at H; exact H
                                clear H
                                have H := H1
                                clear H1
                                by_cases c70 : t350 = ((rd_T53 t338 x7_1).f2)
                                · rw [if_pos c70] at H
                                  have c70b0 : (t350 == ((rd_T53 t338 x7_1).f2)) = true := beq_iff_eq.mpr c70
                                  have c70b1 : (t350 != ((rd_T53 t338 x7_1).f2)) = false := bne_eq_false_iff_eq.mpr c70
                                  clear c70
                                  replace H := Option.bind_eq_some_iff.mp H
                                  obtain ⟨t361, A710, H⟩ := H
                                  replace H : (laws_FnTreeParts.l0 kj23 t338 t339 t342 t361 (wrap64 (x8_1 + 1)) ((rd_T53 t338 t339).f0) ((rd_T53 t338 t339).f1) ((rd_T53 t338 t339).f2) ((rd_T53 t338 t339).f3) ((rd_T53 t338 t339).f4)) = some r := H
                                  have A71 := Aside0.mk A710
                                  clear A710
                                  have H' := Aside0.mk H
                                  clear H
                                  have p349 : 0 ≤ (x7_1 : Int) := of_decide_eq_true (by first | (with_reducible assumption) | assumption)
                                  have q349 : x7_1 < (t338.length : Int) := of_decide_eq_true (by first | (with_reducible assumption) | assumption)
                                  obtain ⟨ad349, e349, hx349_0, hx349_1, hx349_2, hx349_3, hx349_4⟩ := at_T53 (Kd.R_reads' HO_3.out).2.2 x7_1 p349 q349
                                  obtain rfl : ad345 = ad349 := (by injection e349)
                                  replace p349 := eq_true p349
                                  replace q349 := eq_true q349
                                  go_wp2_with (first | ((with_reducible refine gate_callee (f := 38) rfl ?_); refine goesL_ (some 67) rfl rfl Try.func38 (by kernel_rfl) rfl #[.slice (some ad345) t338.length co18, .int .i64 t339, .int .i64 ((rd_T53 t338 x7_1).f1)] rfl (by (try simp only [List.map_toArray, List.map_cons, List.map_nil]); first | done | rfl | (simp only [List.length_drop, List.length_take]; rfl)) ?_; (with_reducible refine (impl_TreeNumOf.calls kj23 _ _ t338 t339 ((rd_T53 t338 x7_1).f1) t350 true _ ?side1 ?side2 A36.out).mono ?_); (case side1 => repeat (first | exact (Kd.R_reads' HO_3.out).2.2 | (with_reducible refine Kd.C_alloc ?_ _) | (with_reducible refine Kd.C_drewN ?_ _) | (with_reducible refine Kd.C_drew ?_))); (case side2 => exact (Kd.R_reads' HO_3.out).2.1); rintro e w72 ⟨rfl, hb⟩; refine ⟨_, rfl, ?_⟩; have n0_ := Aside0.mk (Kd.R_below (by (with_reducible repeat (first | apply Kd.R_alloc | apply Kd.R_drewN | apply Kd.R_drew)); exact HO_3.out) hb); have n1_ := Aside0.mk (blk_below (g := gb346) (o := .cells #[.int .i64 ((rd_T53 t338 t339).f0), .int .i64 ((rd_T53 t338 t339).f1), .int .i64 ((rd_T53 t338 t339).f2), .string ((rd_T53 t338 t339).f3), .int .i64 ((rd_T53 t338 t339).f4)] 53 (0, 0)) (by (with_reducible repeat (first | refine blk_drewN ?_ _ | refine blk_drew ?_ | refine blk_alloc ?_ _)); exact BK346.out) hb); have n2_ := Aside0.mk (below_step (by repeat (first | (with_reducible first | exact HB.out | apply below_alloc | apply pw_below_drewN | apply below_drew1 | refine below_set ?_ GE346.out) | exact HB.out)) hb); clear HO_3; clear BK346; clear HB; have HO_3 := n0_; have BK346 := n1_; have HB := n2_; clear n0_ n1_ n2_; (try clear hb); (try clear hb2); (try clear hk); (try clear hi); have hcz73_0 : w72.cell? ⟨gb346, 0, none⟩ = some (.int .i64 ((rd_T53 t338 t339).f0)) := (blk_cell BK346.out 0).trans rfl; have hcz73_1 : w72.cell? ⟨gb346, 1, none⟩ = some (.int .i64 ((rd_T53 t338 t339).f1)) := (blk_cell BK346.out 1).trans rfl; have hcz73_2 : w72.cell? ⟨gb346, 2, none⟩ = some (.int .i64 ((rd_T53 t338 t339).f2)) := (blk_cell BK346.out 2).trans rfl; have hcz73_3 : w72.cell? ⟨gb346, 3, none⟩ = some (.string ((rd_T53 t338 t339).f3)) := (blk_cell BK346.out 3).trans rfl; have hcz73_4 : w72.cell? ⟨gb346, 4, none⟩ = some (.int .i64 ((rd_T53 t338 t339).f4)) := (blk_cell BK346.out 4).trans rfl; have hfz73_0 := blk_frozen BK346.out 0; have hfz73_1 := blk_frozen BK346.out 1; have hfz73_2 := blk_frozen BK346.out 2; have hfz73_3 := blk_frozen BK346.out 3; have hfz73_4 := blk_frozen BK346.out 4; have p360 : 0 ≤ (x7_1 : Int) := of_decide_eq_true (by first | (with_reducible assumption) | assumption); have q360 : x7_1 < (t338.length : Int) := of_decide_eq_true (by first | (with_reducible assumption) | assumption); obtain ⟨ad360, e360, hx360_0, hx360_1, hx360_2, hx360_3, hx360_4⟩ := at_T53 (Kd.R_reads' HO_3.out).2.2 x7_1 p360 q360; obtain rfl : ad345 = ad360 := (by injection e360); replace p360 := eq_true p360; replace q360 := eq_true q360) | ((with_reducible refine gate_callee (f := 35) rfl ?_); refine goesL_ (some 105) rfl rfl Try.func35 (by kernel_rfl) rfl #[.slice (some ad345) t338.length co18, .int .i64 x7_1] rfl (by (try simp only [List.map_toArray, List.map_cons, List.map_nil]); first | done | rfl | (simp only [List.length_drop, List.length_take]; rfl)) ?_; (with_reducible refine (impl_TreeAfter.calls kj23 _ _ t338 x7_1 t361 _ ?side1 ?side2 A71.out).mono ?_); (case side1 => repeat (first | exact (Kd.R_reads' HO_3.out).2.2 | (with_reducible refine Kd.C_alloc ?_ _) | (with_reducible refine Kd.C_drewN ?_ _) | (with_reducible refine Kd.C_drew ?_))); (case side2 => exact (Kd.R_reads' HO_3.out).2.1); rintro e w74 ⟨rfl, hb⟩; refine ⟨_, rfl, ?_⟩; have n0_ := Aside0.mk (Kd.R_below (by (with_reducible repeat (first | apply Kd.R_alloc | apply Kd.R_drewN | apply Kd.R_drew)); exact HO_3.out) hb); have n1_ := Aside0.mk (blk_below (g := gb346) (o := .cells #[.int .i64 ((rd_T53 t338 t339).f0), .int .i64 ((rd_T53 t338 t339).f1), .int .i64 ((rd_T53 t338 t339).f2), .string ((rd_T53 t338 t339).f3), .int .i64 ((rd_T53 t338 t339).f4)] 53 (0, 0)) (by (with_reducible repeat (first | refine blk_drewN ?_ _ | refine blk_drew ?_ | refine blk_alloc ?_ _)); exact BK346.out) hb); have n2_ := Aside0.mk (below_step (by repeat (first | (with_reducible first | exact HB.out | apply below_alloc | apply pw_below_drewN | apply below_drew1 | refine below_set ?_ GE346.out) | exact HB.out)) hb); clear HO_3; clear BK346; clear HB; have HO_3 := n0_; have BK346 := n1_; have HB := n2_; clear n0_ n1_ n2_; (try clear hb); (try clear hb2); (try clear hk); (try clear hi)))
                                  go_roundg kj23
                                  case measure => have := HK1.out; have := HJ23.out; omega
                                  case rel => exact ⟨(t361), (wrap64 (x8_1 + 1)), (by first | rfl | (simp; done) | (simp [*]; done)), (by first | rfl | (simp; done) | (simp [*]; done)), H', ⟨by have := HK1.out; have := HJ23.out; omega⟩, ⟨by (with_reducible repeat (first | apply Kd.R_alloc | apply Kd.R_drewN | apply Kd.R_drew)); exact HO_3.out⟩, ⟨by (with_reducible repeat (first | refine blk_drewN ?_ _ | refine blk_drew ?_ | refine blk_alloc ?_ _)); exact BK346.out⟩, ⟨by repeat (first | (with_reducible first | exact HB.out | apply below_alloc | apply pw_below_drewN | apply below_drew1 | refine below_set ?_ GE346.out) | exact HB.out)⟩⟩
                                · rw [if_neg c70] at H
                                  have c70b0 : (t350 == ((rd_T53 t338 x7_1).f2)) = false := beq_eq_false_iff_ne.mpr c70
                                  have c70b1 : (t350 != ((rd_T53 t338 x7_1).f2)) = true := bne_iff_ne.mpr c70
                                  obtain rfl := Option.some.inj H
                                  have p349 : 0 ≤ (x7_1 : Int) := of_decide_eq_true (by first | (with_reducible assumption) | assumption)
                                  have q349 : x7_1 < (t338.length : Int) := of_decide_eq_true (by first | (with_reducible assumption) | assumption)
                                  obtain ⟨ad349, e349, hx349_0, hx349_1, hx349_2, hx349_3, hx349_4⟩ := at_T53 (Kd.R_reads' HO_3.out).2.2 x7_1 p349 q349
                                  obtain rfl : ad345 = ad349 := (by injection e349)
                                  replace p349 := eq_true p349
                                  replace q349 := eq_true q349
                                  go_wp2_with (first | ((with_reducible refine gate_callee (f := 38) rfl ?_); refine goesL_ (some 67) rfl rfl Try.func38 (by kernel_rfl) rfl #[.slice (some ad345) t338.length co18, .int .i64 t339, .int .i64 ((rd_T53 t338 x7_1).f1)] rfl (by (try simp only [List.map_toArray, List.map_cons, List.map_nil]); first | done | rfl | (simp only [List.length_drop, List.length_take]; rfl)) ?_; (with_reducible refine (impl_TreeNumOf.calls kj23 _ _ t338 t339 ((rd_T53 t338 x7_1).f1) t350 true _ ?side1 ?side2 A36.out).mono ?_); (case side1 => repeat (first | exact (Kd.R_reads' HO_3.out).2.2 | (with_reducible refine Kd.C_alloc ?_ _) | (with_reducible refine Kd.C_drewN ?_ _) | (with_reducible refine Kd.C_drew ?_))); (case side2 => exact (Kd.R_reads' HO_3.out).2.1); rintro e w75 ⟨rfl, hb⟩; refine ⟨_, rfl, ?_⟩; have n0_ := Aside0.mk (Kd.R_below (by (with_reducible repeat (first | apply Kd.R_alloc | apply Kd.R_drewN | apply Kd.R_drew)); exact HO_3.out) hb); have n1_ := Aside0.mk (blk_below (g := gb346) (o := .cells #[.int .i64 ((rd_T53 t338 t339).f0), .int .i64 ((rd_T53 t338 t339).f1), .int .i64 ((rd_T53 t338 t339).f2), .string ((rd_T53 t338 t339).f3), .int .i64 ((rd_T53 t338 t339).f4)] 53 (0, 0)) (by (with_reducible repeat (first | refine blk_drewN ?_ _ | refine blk_drew ?_ | refine blk_alloc ?_ _)); exact BK346.out) hb); have n2_ := Aside0.mk (below_step (by repeat (first | (with_reducible first | exact HB.out | apply below_alloc | apply pw_below_drewN | apply below_drew1 | refine below_set ?_ GE346.out) | exact HB.out)) hb); clear HO_3; clear BK346; clear HB; have HO_3 := n0_; have BK346 := n1_; have HB := n2_; clear n0_ n1_ n2_; (try clear hb); (try clear hb2); (try clear hk); (try clear hi); have hcz76_0 : w75.cell? ⟨gb346, 0, none⟩ = some (.int .i64 ((rd_T53 t338 t339).f0)) := (blk_cell BK346.out 0).trans rfl; have hcz76_1 : w75.cell? ⟨gb346, 1, none⟩ = some (.int .i64 ((rd_T53 t338 t339).f1)) := (blk_cell BK346.out 1).trans rfl; have hcz76_2 : w75.cell? ⟨gb346, 2, none⟩ = some (.int .i64 ((rd_T53 t338 t339).f2)) := (blk_cell BK346.out 2).trans rfl; have hcz76_3 : w75.cell? ⟨gb346, 3, none⟩ = some (.string ((rd_T53 t338 t339).f3)) := (blk_cell BK346.out 3).trans rfl; have hcz76_4 : w75.cell? ⟨gb346, 4, none⟩ = some (.int .i64 ((rd_T53 t338 t339).f4)) := (blk_cell BK346.out 4).trans rfl; have hfz76_0 := blk_frozen BK346.out 0; have hfz76_1 := blk_frozen BK346.out 1; have hfz76_2 := blk_frozen BK346.out 2; have hfz76_3 := blk_frozen BK346.out 3; have hfz76_4 := blk_frozen BK346.out 4; have p360 : 0 ≤ (x7_1 : Int) := of_decide_eq_true (by first | (with_reducible assumption) | assumption); have q360 : x7_1 < (t338.length : Int) := of_decide_eq_true (by first | (with_reducible assumption) | assumption); obtain ⟨ad360, e360, hx360_0, hx360_1, hx360_2, hx360_3, hx360_4⟩ := at_T53 (Kd.R_reads' HO_3.out).2.2 x7_1 p360 q360; obtain rfl : ad345 = ad360 := (by injection e360); replace p360 := eq_true p360; replace q360 := eq_true q360))
                                  go_ret
                                  exact ⟨by first | rfl | (simp [errW_none, errW_some] <;> rfl) | (simp [*, errW_none, errW_some] <;> rfl), by repeat (first | (with_reducible first | exact HB.out | apply below_alloc | apply pw_below_drewN | apply below_drew1 | refine below_set ?_ GE346.out) | exact HB.out)⟩
                              · replace c69 := Bool.eq_false_iff.mpr c69
                                subst c69
                                have H1 : ((impl_TreeAfter.f kj23 t338 x7_1).bind fun t362 => (laws_FnTreeParts.l0 kj23 t338 t339 t342 t362 (wrap64 (x8_1 + 1)) ((rd_T53 t338 t339).f0) ((rd_T53 t338 t339).f1) ((rd_T53 t338 t339).f2) ((rd_T53 t338 t339).f3) ((rd_T53 t338 t339).f4))) = some r := by rw [if_neg (show ¬ (false = true) by decide)] at H; exact H
                                clear H
                                have H := H1
                                clear H1
                                replace H := Option.bind_eq_some_iff.mp H
                                obtain ⟨t362, A770, H⟩ := H
                                replace H : (laws_FnTreeParts.l0 kj23 t338 t339 t342 t362 (wrap64 (x8_1 + 1)) ((rd_T53 t338 t339).f0) ((rd_T53 t338 t339).f1) ((rd_T53 t338 t339).f2) ((rd_T53 t338 t339).f3) ((rd_T53 t338 t339).f4)) = some r := H
                                have A77 := Aside0.mk A770
                                clear A770
                                have H' := Aside0.mk H
                                clear H
                                have p349 : 0 ≤ (x7_1 : Int) := of_decide_eq_true (by first | (with_reducible assumption) | assumption)
                                have q349 : x7_1 < (t338.length : Int) := of_decide_eq_true (by first | (with_reducible assumption) | assumption)
                                obtain ⟨ad349, e349, hx349_0, hx349_1, hx349_2, hx349_3, hx349_4⟩ := at_T53 (Kd.R_reads' HO_3.out).2.2 x7_1 p349 q349
                                obtain rfl : ad345 = ad349 := (by injection e349)
                                replace p349 := eq_true p349
                                replace q349 := eq_true q349
                                go_wp2_with (first | ((with_reducible refine gate_callee (f := 38) rfl ?_); refine goesL_ (some 67) rfl rfl Try.func38 (by kernel_rfl) rfl #[.slice (some ad345) t338.length co18, .int .i64 t339, .int .i64 ((rd_T53 t338 x7_1).f1)] rfl (by (try simp only [List.map_toArray, List.map_cons, List.map_nil]); first | done | rfl | (simp only [List.length_drop, List.length_take]; rfl)) ?_; (with_reducible refine (impl_TreeNumOf.calls kj23 _ _ t338 t339 ((rd_T53 t338 x7_1).f1) t350 false _ ?side1 ?side2 A36.out).mono ?_); (case side1 => repeat (first | exact (Kd.R_reads' HO_3.out).2.2 | (with_reducible refine Kd.C_alloc ?_ _) | (with_reducible refine Kd.C_drewN ?_ _) | (with_reducible refine Kd.C_drew ?_))); (case side2 => exact (Kd.R_reads' HO_3.out).2.1); rintro e w78 ⟨rfl, hb⟩; refine ⟨_, rfl, ?_⟩; have n0_ := Aside0.mk (Kd.R_below (by (with_reducible repeat (first | apply Kd.R_alloc | apply Kd.R_drewN | apply Kd.R_drew)); exact HO_3.out) hb); have n1_ := Aside0.mk (blk_below (g := gb346) (o := .cells #[.int .i64 ((rd_T53 t338 t339).f0), .int .i64 ((rd_T53 t338 t339).f1), .int .i64 ((rd_T53 t338 t339).f2), .string ((rd_T53 t338 t339).f3), .int .i64 ((rd_T53 t338 t339).f4)] 53 (0, 0)) (by (with_reducible repeat (first | refine blk_drewN ?_ _ | refine blk_drew ?_ | refine blk_alloc ?_ _)); exact BK346.out) hb); have n2_ := Aside0.mk (below_step (by repeat (first | (with_reducible first | exact HB.out | apply below_alloc | apply pw_below_drewN | apply below_drew1 | refine below_set ?_ GE346.out) | exact HB.out)) hb); clear HO_3; clear BK346; clear HB; have HO_3 := n0_; have BK346 := n1_; have HB := n2_; clear n0_ n1_ n2_; (try clear hb); (try clear hb2); (try clear hk); (try clear hi); have hcz79_0 : w78.cell? ⟨gb346, 0, none⟩ = some (.int .i64 ((rd_T53 t338 t339).f0)) := (blk_cell BK346.out 0).trans rfl; have hcz79_1 : w78.cell? ⟨gb346, 1, none⟩ = some (.int .i64 ((rd_T53 t338 t339).f1)) := (blk_cell BK346.out 1).trans rfl; have hcz79_2 : w78.cell? ⟨gb346, 2, none⟩ = some (.int .i64 ((rd_T53 t338 t339).f2)) := (blk_cell BK346.out 2).trans rfl; have hcz79_3 : w78.cell? ⟨gb346, 3, none⟩ = some (.string ((rd_T53 t338 t339).f3)) := (blk_cell BK346.out 3).trans rfl; have hcz79_4 : w78.cell? ⟨gb346, 4, none⟩ = some (.int .i64 ((rd_T53 t338 t339).f4)) := (blk_cell BK346.out 4).trans rfl; have hfz79_0 := blk_frozen BK346.out 0; have hfz79_1 := blk_frozen BK346.out 1; have hfz79_2 := blk_frozen BK346.out 2; have hfz79_3 := blk_frozen BK346.out 3; have hfz79_4 := blk_frozen BK346.out 4) | ((with_reducible refine gate_callee (f := 35) rfl ?_); refine goesL_ (some 105) rfl rfl Try.func35 (by kernel_rfl) rfl #[.slice (some ad345) t338.length co18, .int .i64 x7_1] rfl (by (try simp only [List.map_toArray, List.map_cons, List.map_nil]); first | done | rfl | (simp only [List.length_drop, List.length_take]; rfl)) ?_; (with_reducible refine (impl_TreeAfter.calls kj23 _ _ t338 x7_1 t362 _ ?side1 ?side2 A77.out).mono ?_); (case side1 => repeat (first | exact (Kd.R_reads' HO_3.out).2.2 | (with_reducible refine Kd.C_alloc ?_ _) | (with_reducible refine Kd.C_drewN ?_ _) | (with_reducible refine Kd.C_drew ?_))); (case side2 => exact (Kd.R_reads' HO_3.out).2.1); rintro e w80 ⟨rfl, hb⟩; refine ⟨_, rfl, ?_⟩; have n0_ := Aside0.mk (Kd.R_below (by (with_reducible repeat (first | apply Kd.R_alloc | apply Kd.R_drewN | apply Kd.R_drew)); exact HO_3.out) hb); have n1_ := Aside0.mk (blk_below (g := gb346) (o := .cells #[.int .i64 ((rd_T53 t338 t339).f0), .int .i64 ((rd_T53 t338 t339).f1), .int .i64 ((rd_T53 t338 t339).f2), .string ((rd_T53 t338 t339).f3), .int .i64 ((rd_T53 t338 t339).f4)] 53 (0, 0)) (by (with_reducible repeat (first | refine blk_drewN ?_ _ | refine blk_drew ?_ | refine blk_alloc ?_ _)); exact BK346.out) hb); have n2_ := Aside0.mk (below_step (by repeat (first | (with_reducible first | exact HB.out | apply below_alloc | apply pw_below_drewN | apply below_drew1 | refine below_set ?_ GE346.out) | exact HB.out)) hb); clear HO_3; clear BK346; clear HB; have HO_3 := n0_; have BK346 := n1_; have HB := n2_; clear n0_ n1_ n2_; (try clear hb); (try clear hb2); (try clear hk); (try clear hi)))
                                go_roundg kj23
                                case measure => have := HK1.out; have := HJ23.out; omega
                                case rel => exact ⟨(t362), (wrap64 (x8_1 + 1)), (by first | rfl | (simp; done) | (simp [*]; done)), (by first | rfl | (simp; done) | (simp [*]; done)), H', ⟨by have := HK1.out; have := HJ23.out; omega⟩, ⟨by (with_reducible repeat (first | apply Kd.R_alloc | apply Kd.R_drewN | apply Kd.R_drew)); exact HO_3.out⟩, ⟨by (with_reducible repeat (first | refine blk_drewN ?_ _ | refine blk_drew ?_ | refine blk_alloc ?_ _)); exact BK346.out⟩, ⟨by repeat (first | (with_reducible first | exact HB.out | apply below_alloc | apply pw_below_drewN | apply below_drew1 | refine below_set ?_ GE346.out) | exact HB.out)⟩⟩
                          · rw [if_neg c35] at H
                            exact absurd H (by simp)
                        · rw [if_neg c34] at H
                          exact absurd H (by simp)
                · rw [if_neg c23] at H
                  have c23b0 : decide (x8_1 < ((rd_T53 t338 t339).f4)) = false := decide_eq_false c23
                  clear c23
                  by_cases c81 : x7_1 = t342
                  · rw [if_pos c81] at H
                    have c81b0 : (x7_1 == t342) = true := beq_iff_eq.mpr c81
                    have c81b1 : (x7_1 != t342) = false := bne_eq_false_iff_eq.mpr c81
                    clear c81
                    obtain rfl := Option.some.inj H
                    have hcz82_0 : wr.cell? ⟨gb346, 0, none⟩ = some (.int .i64 ((rd_T53 t338 t339).f0)) := (blk_cell BK346.out 0).trans rfl
                    have hcz82_1 : wr.cell? ⟨gb346, 1, none⟩ = some (.int .i64 ((rd_T53 t338 t339).f1)) := (blk_cell BK346.out 1).trans rfl
                    have hcz82_2 : wr.cell? ⟨gb346, 2, none⟩ = some (.int .i64 ((rd_T53 t338 t339).f2)) := (blk_cell BK346.out 2).trans rfl
                    have hcz82_3 : wr.cell? ⟨gb346, 3, none⟩ = some (.string ((rd_T53 t338 t339).f3)) := (blk_cell BK346.out 3).trans rfl
                    have hcz82_4 : wr.cell? ⟨gb346, 4, none⟩ = some (.int .i64 ((rd_T53 t338 t339).f4)) := (blk_cell BK346.out 4).trans rfl
                    have hfz82_0 := blk_frozen BK346.out 0
                    have hfz82_1 := blk_frozen BK346.out 1
                    have hfz82_2 := blk_frozen BK346.out 2
                    have hfz82_3 := blk_frozen BK346.out 3
                    have hfz82_4 := blk_frozen BK346.out 4
                    go_wp2
                    go_ret
                    exact ⟨by first | rfl | (simp [errW_none, errW_some] <;> rfl) | (simp [*, errW_none, errW_some] <;> rfl), by repeat (first | (with_reducible first | exact HB.out | apply below_alloc | apply pw_below_drewN | apply below_drew1 | refine below_set ?_ GE346.out) | exact HB.out)⟩
                  · rw [if_neg c81] at H
                    have c81b0 : (x7_1 == t342) = false := beq_eq_false_iff_ne.mpr c81
                    have c81b1 : (x7_1 != t342) = true := bne_iff_ne.mpr c81
                    obtain rfl := Option.some.inj H
                    have hcz83_0 : wr.cell? ⟨gb346, 0, none⟩ = some (.int .i64 ((rd_T53 t338 t339).f0)) := (blk_cell BK346.out 0).trans rfl
                    have hcz83_1 : wr.cell? ⟨gb346, 1, none⟩ = some (.int .i64 ((rd_T53 t338 t339).f1)) := (blk_cell BK346.out 1).trans rfl
                    have hcz83_2 : wr.cell? ⟨gb346, 2, none⟩ = some (.int .i64 ((rd_T53 t338 t339).f2)) := (blk_cell BK346.out 2).trans rfl
                    have hcz83_3 : wr.cell? ⟨gb346, 3, none⟩ = some (.string ((rd_T53 t338 t339).f3)) := (blk_cell BK346.out 3).trans rfl
                    have hcz83_4 : wr.cell? ⟨gb346, 4, none⟩ = some (.int .i64 ((rd_T53 t338 t339).f4)) := (blk_cell BK346.out 4).trans rfl
                    have hfz83_0 := blk_frozen BK346.out 0
                    have hfz83_1 := blk_frozen BK346.out 1
                    have hfz83_2 := blk_frozen BK346.out 2
                    have hfz83_3 := blk_frozen BK346.out 3
                    have hfz83_4 := blk_frozen BK346.out 4
                    go_wp2
                    go_ret
                    exact ⟨by first | rfl | (simp [errW_none, errW_some] <;> rfl) | (simp [*, errW_none, errW_some] <;> rfl), by repeat (first | (with_reducible first | exact HB.out | apply below_alloc | apply pw_below_drewN | apply below_drew1 | refine below_set ?_ GE346.out) | exact HB.out)⟩
          · rw [if_neg c16] at H
            exact absurd H (by simp)
        · rw [if_neg c15] at H
          exact absurd H (by simp)
    · rw [if_neg c7] at H
      have c7b0 : (t342 == t343) = false := beq_eq_false_iff_ne.mpr c7
      have c7b1 : (t342 != t343) = true := bne_iff_ne.mpr c7
      obtain rfl := Option.some.inj H
      go_enter Try.func6, Try.ntmps6
      go_wp2_with (first | ((with_reducible refine gate_callee (f := 33) rfl ?_); refine goesL_ (some 12) rfl rfl Try.func33 (by kernel_rfl) rfl #[.slice A0 l0.length c0] rfl (by (try simp only [List.map_toArray, List.map_cons, List.map_nil]); first | done | rfl | (simp only [List.length_drop, List.length_take]; rfl)) ?_; (with_reducible refine (laws_big.calls _ _ l0 false _ ?side1 ?side2 A2.out).mono ?_); (case side1 => repeat (first | exact HR0.out | (with_reducible refine Kd.C_alloc ?_ _) | (with_reducible refine Kd.C_drewN ?_ _) | (with_reducible refine Kd.C_drew ?_))); (case side2 => exact HC0.out); rintro e w' ⟨rfl, ⟨nd, rfl⟩⟩; refine ⟨_, rfl, ?_⟩) | ((with_reducible refine gate_callee (f := 34) rfl ?_); refine goesL_ (some 15) rfl rfl Try.func34 (by kernel_rfl) rfl #[.slice A0 l0.length c0] rfl (by (try simp only [List.map_toArray, List.map_cons, List.map_nil]); first | done | rfl | (simp only [List.length_drop, List.length_take]; rfl)) ?_; (with_reducible refine (spec_DrawTreeAfter.calls k _ _ l0 t338 t339 _ ?side1 ?side2 A4.out).mono ?_); (case side1 => repeat (first | exact HR0.out | (with_reducible refine Kd.C_alloc ?_ _) | (with_reducible refine Kd.C_drewN ?_ _) | (with_reducible refine Kd.C_drew ?_))); (case side2 => exact HC0.out); rintro e w84 ⟨v340, rfl, ho0, hb⟩; refine ⟨_, rfl, ?_⟩; have n0_ := Aside0.mk (Kd.R_lower ho0 (below_size (by repeat (first | (with_reducible first | exact HB.out | apply below_alloc | apply pw_below_drewN | apply below_drew1) | exact HB.out)))); have n1_ := Aside0.mk (below_step (by repeat (first | (with_reducible first | exact HB.out | apply below_alloc | apply pw_below_drewN | apply below_drew1) | exact HB.out)) hb); clear HB; have HO341 := n0_; have HB := n1_; clear n0_ n1_; (try clear hb); (try clear hb2); (try clear hk); (try clear hi); (try clear ho0); obtain ⟨Ao85, co85, eo85⟩ := Kd.R_slice HO341.out; subst eo85) | ((with_reducible refine gate_callee (f := 35) rfl ?_); refine goesL_ (some 20) rfl rfl Try.func35 (by kernel_rfl) rfl #[.slice Ao85 t338.length co85, .int .i64 t339] rfl (by (try simp only [List.map_toArray, List.map_cons, List.map_nil]); first | done | rfl | (simp only [List.length_drop, List.length_take]; rfl)) ?_; (with_reducible refine (impl_TreeAfter.calls k _ _ t338 t339 t342 _ ?side1 ?side2 A5.out).mono ?_); (case side1 => repeat (first | exact (Kd.R_reads' HO341.out).2.2 | (with_reducible refine Kd.C_alloc ?_ _) | (with_reducible refine Kd.C_drewN ?_ _) | (with_reducible refine Kd.C_drew ?_))); (case side2 => exact (Kd.R_reads' HO341.out).2.1); rintro e w86 ⟨rfl, hb⟩; refine ⟨_, rfl, ?_⟩; have n0_ := Aside0.mk (Kd.R_below (by (with_reducible repeat (first | apply Kd.R_alloc | apply Kd.R_drewN | apply Kd.R_drew)); exact HO341.out) hb); have n1_ := Aside0.mk (below_step (by repeat (first | (with_reducible first | exact HB.out | apply below_alloc | apply pw_below_drewN | apply below_drew1) | exact HB.out)) hb); clear HO341; clear HB; have HO341 := n0_; have HB := n1_; clear n0_ n1_; (try clear hb); (try clear hb2); (try clear hk); (try clear hi)) | ((with_reducible refine gate_callee (f := 36) rfl ?_); refine goesL_ (some 24) rfl rfl Try.func36 (by kernel_rfl) rfl #[.slice Ao85 t338.length co85, .int .i64 t339] rfl (by (try simp only [List.map_toArray, List.map_cons, List.map_nil]); first | done | rfl | (simp only [List.length_drop, List.length_take]; rfl)) ?_; (with_reducible refine (spec_TreeAfter.calls k _ _ t338 t339 t343 _ ?side1 ?side2 A6.out).mono ?_); (case side1 => repeat (first | exact (Kd.R_reads' HO341.out).2.2 | (with_reducible refine Kd.C_alloc ?_ _) | (with_reducible refine Kd.C_drewN ?_ _) | (with_reducible refine Kd.C_drew ?_))); (case side2 => exact (Kd.R_reads' HO341.out).2.1); rintro e w87 ⟨rfl, hb⟩; refine ⟨_, rfl, ?_⟩; have n0_ := Aside0.mk (Kd.R_below (by (with_reducible repeat (first | apply Kd.R_alloc | apply Kd.R_drewN | apply Kd.R_drew)); exact HO341.out) hb); have n1_ := Aside0.mk (below_step (by repeat (first | (with_reducible first | exact HB.out | apply below_alloc | apply pw_below_drewN | apply below_drew1) | exact HB.out)) hb); clear HO341; clear HB; have HO341 := n0_; have HB := n1_; clear n0_ n1_; (try clear hb); (try clear hb2); (try clear hk); (try clear hi)))
      go_ret
      exact ⟨by first | rfl | (simp [errW_none, errW_some] <;> rfl) | (simp [*, errW_none, errW_some] <;> rfl), by repeat (first | (with_reducible first | exact HB.out | apply below_alloc | apply pw_below_drewN | apply below_drew1) | exact HB.out)⟩

/-- THE ONE PURE STATEMENT of laws_FnTreeParts: yours. -/
def laws_FnTreeParts.Pure : Prop := ∀ (l0 : List Int), l0.length ≤ maxLen → l0.length * 1 ≤ 140737488351232 → (∀ x ∈ l0, (Lit.int .u8 x).wf = true) → ∃ k, laws_FnTreeParts.f k l0 = some true
theorem laws_FnTreeParts.walk (P : laws_FnTreeParts.Pure) (a0 : Option Addr) (len0 cap0 : Nat) (z0 : List Int) (w : World) (w0 : (a0 = none ∧ len0 = 0 ∧ cap0 = 0 ∧ z0 = []) ∨ ∃ x, a0 = some x ∧ len0 ≤ cap0 ∧ cap0 ≤ maxLen ∧ z0.length = cap0 ∧ (∀ i, i < z0.length → w.cell? (x.add i) = some (.int .u8 (z0.getD i 0))) ∧ ∀ n ∈ z0, (Lit.int .u8 n).wf = true) (y0 : len0 * 1 ≤ 140737488351232) :
    Calls Try.prog 6 #[.slice a0 len0 cap0] w fun e w' => e = .returned (.bool true) ∧ Below w.heap.size w w' := by
  obtain ⟨l0, rfl, hr0, hm0, hw0, hc0⟩ := ReadsInt.ofRowC w0
  obtain ⟨k, h⟩ := P l0 hm0 y0 hw0
  refine (laws_FnTreeParts.calls k _ _ l0 true w (Kd.C_of_reads (d := (0 : Int)) (h1 := fun _ => rfl) hr0) hc0 h).mono ?_
  rintro e w' ⟨rfl, hd⟩
  exact ⟨rfl, hd⟩

end Go.Proofs.Ytnfamhegbfjggaa.PFnTreeParts
