/- The machine's side of FnExactFrontRead, written by wip/tools/hyb.py of this repo: each Go function as a plain Lean function, and the proof that the call comes to just its answer. No condition. -/
import Derived.Test.YtgcanbeckamjeaaPFnExactFrontReadx0
import Derived.Test.YtgcanbeckamjeaaPFnExactFrontReadx1
import Derived.Test.YtgcanbeckamjeaaPFnExactFrontReadx2
import Derived.Test.YtgcanbeckamjeaaPFnExactFrontReadx5
import Derived.Test.YtgcanbeckamjeaaPFnExactFrontReadx9
namespace Go.Proofs.Ytgcanbeckamjeaa.PFnExactFrontRead
open Go.RowKit Go.Proofs.YtgcanbeckamjeaaW.PrintWords Go.Proofs.YtgcanbeckamjeaaW.PrintLast Go.Proofs.YtgcanbeckamjeaaW.PrintMore Go.Proofs.YtgcanbeckamjeaaW.PrintMore2
attribute [local go_sem] max2_int min2_int max_two min_two max_three min_three max_four min_four   -- for this text's walks alone
set_option linter.unusedVariables false
set_option linter.unusedSimpArgs false

/-! ### laws_FnExactFrontRead: function 6 -/
mutual
def laws_FnExactFrontRead.j0 : Nat → List Int → Int → List (S59) → Int → Bool → List Int → List (S59) → Int → Bool → Bool → Option (Bool)
  | 0, _, _, _, _, _, _, _, _, _, _ => none
  | k + 1, x0, x1, x5, x6, x7, x8, x9, x10, x11, x51 => if x51 = true then (some false) else ((laws_toByteS.f k x0).bind fun t349 => ((laws_eqByteS.f k x8 t349).bind fun t352 => (if t352 = true then ((laws_markByteS.f k x8 1).bind fun bt353 => (if bt353.1 < 0 then (laws_FnExactFrontRead.j1 k x0 x1 x5 x6 x7 x9 true) else ((laws_eqValS.f k x9 x5).bind fun t355 => (if t355 = true then (if x10 = x6 then (laws_FnExactFrontRead.j1 k x0 x1 x5 x6 x7 x9 (x11 != x7)) else (laws_FnExactFrontRead.j1 k x0 x1 x5 x6 x7 x9 true)) else (laws_FnExactFrontRead.j1 k x0 x1 x5 x6 x7 x9 true))))) else (some false))))
def laws_FnExactFrontRead.j1 : Nat → List Int → Int → List (S59) → Int → Bool → List (S59) → Bool → Option (Bool)
  | 0, _, _, _, _, _, _, _ => none
  | k + 1, x0, x1, x5, x6, x7, x9, x77 => if x77 = true then (some false) else ((laws_markValS.f k x9 1).bind fun bt356 => ((laws_heldValS.f k bt356.2 1).bind fun t358 => (if t358 < 0 then (some false) else (if t358 = bt356.1 then ((laws_toByteS.f k x0).bind fun t359 => ((impl_FrontRead.f k t359 x1).bind fun bt362 => ((laws_eqValS.f k bt362.1 x5).bind fun t367 => (if t367 = true then (if bt362.2.1 = x6 then (laws_FnExactFrontRead.j2 k bt356.2 bt356.1 (bt362.2.2 != x7)) else (laws_FnExactFrontRead.j2 k bt356.2 bt356.1 true)) else (laws_FnExactFrontRead.j2 k bt356.2 bt356.1 true))))) else (some false)))))
def laws_FnExactFrontRead.j2 : Nat → List (S59) → Int → Bool → Option (Bool)
  | 0, _, _, _ => none
  | k + 1, x9, x13, x110 => if x110 = true then (some false) else ((laws_heldValS.f k x9 1).bind fun t368 => (if t368 < 0 then (some false) else (if t368 = x13 then (some true) else (some false))))
end
def laws_FnExactFrontRead.f (k : Nat) (l0 : List Int) (a1 : Int) : Option (Bool) := if (l0.length : Int) > 1048576 then (some true) else ((laws_toByteS.f k l0).bind fun t332 => ((spec_FrontRead.f k t332 a1).bind fun bt335 => ((laws_toByteS.f k l0).bind fun t340 => ((impl_FrontRead.f k t340 a1).bind fun bt343 => ((laws_eqValS.f k bt343.1 bt335.1).bind fun t348 => (if t348 = true then (if bt343.2.1 = bt335.2.1 then (laws_FnExactFrontRead.j0 k l0 a1 bt335.1 bt335.2.1 bt335.2.2 t340 bt343.1 bt343.2.1 bt343.2.2 (bt343.2.2 != bt335.2.2)) else (laws_FnExactFrontRead.j0 k l0 a1 bt335.1 bt335.2.1 bt335.2.2 t340 bt343.1 bt343.2.1 bt343.2.2 true)) else (laws_FnExactFrontRead.j0 k l0 a1 bt335.1 bt335.2.1 bt335.2.2 t340 bt343.1 bt343.2.1 bt343.2.2 true)))))))
theorem laws_FnExactFrontRead.mono_l : ∀ k, (∀ y0 y1 y2 y3 y4 y5 y6 y7 y8 y9, LeO (laws_FnExactFrontRead.j0 k y0 y1 y2 y3 y4 y5 y6 y7 y8 y9) (laws_FnExactFrontRead.j0 (k + 1) y0 y1 y2 y3 y4 y5 y6 y7 y8 y9)) ∧ (∀ y0 y1 y2 y3 y4 y5 y6, LeO (laws_FnExactFrontRead.j1 k y0 y1 y2 y3 y4 y5 y6) (laws_FnExactFrontRead.j1 (k + 1) y0 y1 y2 y3 y4 y5 y6)) ∧ (∀ y0 y1 y2, LeO (laws_FnExactFrontRead.j2 k y0 y1 y2) (laws_FnExactFrontRead.j2 (k + 1) y0 y1 y2))
  | 0 => ⟨fun _ _ _ _ _ _ _ _ _ _ r h => by simp [laws_FnExactFrontRead.j0] at h, fun _ _ _ _ _ _ _ r h => by simp [laws_FnExactFrontRead.j1] at h, fun _ _ _ r h => by simp [laws_FnExactFrontRead.j2] at h⟩
  | k + 1 => by
    obtain ⟨ih0, ih1, ih2⟩ := laws_FnExactFrontRead.mono_l k
    refine ⟨?_, ?_, ?_⟩
    · intro y0 y1 y2 y3 y4 y5 y6 y7 y8 y9
      unfold laws_FnExactFrontRead.j0
      repeat' first
      | (with_reducible exact ih0 _ _ _ _ _ _ _ _ _ _)
      | (with_reducible exact ih1 _ _ _ _ _ _ _)
      | (with_reducible exact ih2 _ _ _)
      | (with_reducible exact impl_FrontRead.mono _ _ _)
      | (with_reducible exact laws_eqByteS.mono _ _ _)
      | (with_reducible exact laws_eqValS.mono _ _ _)
      | (with_reducible exact laws_heldValS.mono _ _ _)
      | (with_reducible exact laws_markByteS.mono _ _ _)
      | (with_reducible exact laws_markValS.mono _ _ _)
      | (with_reducible exact laws_toByteS.mono _ _)
      | (with_reducible exact spec_FrontRead.mono _ _ _)
      | (with_reducible exact LeO.refl _)
      | (with_reducible exact LeO.none _)
      | (with_reducible refine LeO.ite ?_ ?_)
      | (with_reducible refine LeO.bind ?_ (fun _ => ?_))
      | exact ih0 _ _ _ _ _ _ _ _ _ _
      | exact ih1 _ _ _ _ _ _ _
      | exact ih2 _ _ _
      | exact impl_FrontRead.mono _ _ _
      | exact laws_eqByteS.mono _ _ _
      | exact laws_eqValS.mono _ _ _
      | exact laws_heldValS.mono _ _ _
      | exact laws_markByteS.mono _ _ _
      | exact laws_markValS.mono _ _ _
      | exact laws_toByteS.mono _ _
      | exact spec_FrontRead.mono _ _ _
      | exact LeO.none _
      | refine LeO.ite ?_ ?_
      | refine LeO.bind ?_ (fun _ => ?_)
    · intro y0 y1 y2 y3 y4 y5 y6
      unfold laws_FnExactFrontRead.j1
      repeat' first
      | (with_reducible exact ih0 _ _ _ _ _ _ _ _ _ _)
      | (with_reducible exact ih1 _ _ _ _ _ _ _)
      | (with_reducible exact ih2 _ _ _)
      | (with_reducible exact impl_FrontRead.mono _ _ _)
      | (with_reducible exact laws_eqByteS.mono _ _ _)
      | (with_reducible exact laws_eqValS.mono _ _ _)
      | (with_reducible exact laws_heldValS.mono _ _ _)
      | (with_reducible exact laws_markByteS.mono _ _ _)
      | (with_reducible exact laws_markValS.mono _ _ _)
      | (with_reducible exact laws_toByteS.mono _ _)
      | (with_reducible exact spec_FrontRead.mono _ _ _)
      | (with_reducible exact LeO.refl _)
      | (with_reducible exact LeO.none _)
      | (with_reducible refine LeO.ite ?_ ?_)
      | (with_reducible refine LeO.bind ?_ (fun _ => ?_))
      | exact ih0 _ _ _ _ _ _ _ _ _ _
      | exact ih1 _ _ _ _ _ _ _
      | exact ih2 _ _ _
      | exact impl_FrontRead.mono _ _ _
      | exact laws_eqByteS.mono _ _ _
      | exact laws_eqValS.mono _ _ _
      | exact laws_heldValS.mono _ _ _
      | exact laws_markByteS.mono _ _ _
      | exact laws_markValS.mono _ _ _
      | exact laws_toByteS.mono _ _
      | exact spec_FrontRead.mono _ _ _
      | exact LeO.none _
      | refine LeO.ite ?_ ?_
      | refine LeO.bind ?_ (fun _ => ?_)
    · intro y0 y1 y2
      unfold laws_FnExactFrontRead.j2
      repeat' first
      | (with_reducible exact ih0 _ _ _ _ _ _ _ _ _ _)
      | (with_reducible exact ih1 _ _ _ _ _ _ _)
      | (with_reducible exact ih2 _ _ _)
      | (with_reducible exact impl_FrontRead.mono _ _ _)
      | (with_reducible exact laws_eqByteS.mono _ _ _)
      | (with_reducible exact laws_eqValS.mono _ _ _)
      | (with_reducible exact laws_heldValS.mono _ _ _)
      | (with_reducible exact laws_markByteS.mono _ _ _)
      | (with_reducible exact laws_markValS.mono _ _ _)
      | (with_reducible exact laws_toByteS.mono _ _)
      | (with_reducible exact spec_FrontRead.mono _ _ _)
      | (with_reducible exact LeO.refl _)
      | (with_reducible exact LeO.none _)
      | (with_reducible refine LeO.ite ?_ ?_)
      | (with_reducible refine LeO.bind ?_ (fun _ => ?_))
      | exact ih0 _ _ _ _ _ _ _ _ _ _
      | exact ih1 _ _ _ _ _ _ _
      | exact ih2 _ _ _
      | exact impl_FrontRead.mono _ _ _
      | exact laws_eqByteS.mono _ _ _
      | exact laws_eqValS.mono _ _ _
      | exact laws_heldValS.mono _ _ _
      | exact laws_markByteS.mono _ _ _
      | exact laws_markValS.mono _ _ _
      | exact laws_toByteS.mono _ _
      | exact spec_FrontRead.mono _ _ _
      | exact LeO.none _
      | refine LeO.ite ?_ ?_
      | refine LeO.bind ?_ (fun _ => ?_)
theorem laws_FnExactFrontRead.mono : ∀ a0 a1 k, LeO (laws_FnExactFrontRead.f k a0 a1) (laws_FnExactFrontRead.f (k + 1) a0 a1) := by
  intro a0 a1 k
  obtain ⟨ih0, ih1, ih2⟩ := laws_FnExactFrontRead.mono_l k
  unfold laws_FnExactFrontRead.f
  repeat' first
      | (with_reducible exact ih0 _ _ _ _ _ _ _ _ _ _)
      | (with_reducible exact ih1 _ _ _ _ _ _ _)
      | (with_reducible exact ih2 _ _ _)
      | (with_reducible exact impl_FrontRead.mono _ _ _)
      | (with_reducible exact laws_eqByteS.mono _ _ _)
      | (with_reducible exact laws_eqValS.mono _ _ _)
      | (with_reducible exact laws_heldValS.mono _ _ _)
      | (with_reducible exact laws_markByteS.mono _ _ _)
      | (with_reducible exact laws_markValS.mono _ _ _)
      | (with_reducible exact laws_toByteS.mono _ _)
      | (with_reducible exact spec_FrontRead.mono _ _ _)
      | (with_reducible exact LeO.refl _)
      | (with_reducible exact LeO.none _)
      | (with_reducible refine LeO.ite ?_ ?_)
      | (with_reducible refine LeO.bind ?_ (fun _ => ?_))
      | exact ih0 _ _ _ _ _ _ _ _ _ _
      | exact ih1 _ _ _ _ _ _ _
      | exact ih2 _ _ _
      | exact impl_FrontRead.mono _ _ _
      | exact laws_eqByteS.mono _ _ _
      | exact laws_eqValS.mono _ _ _
      | exact laws_heldValS.mono _ _ _
      | exact laws_markByteS.mono _ _ _
      | exact laws_markValS.mono _ _ _
      | exact laws_toByteS.mono _ _
      | exact spec_FrontRead.mono _ _ _
      | exact LeO.none _
      | refine LeO.ite ?_ ?_
      | refine LeO.bind ?_ (fun _ => ?_)
set_option maxHeartbeats 8000000 in
set_option maxRecDepth 100000 in
theorem laws_FnExactFrontRead.calls (k : Nat) (A0 : Option Addr) (c0 : Nat) (l0 : List Int) (a1 : Int) (r : Bool) (w : World) (hr0 : Kd.C (Kd.int .u8) w A0 l0.length l0) (hc0 : l0.length ≤ c0) (h : laws_FnExactFrontRead.f k l0 a1 = some r) :
    Calls Try.prog 6 #[.slice A0 l0.length c0, .int .i64 a1] w fun e w' => e = .returned (.bool r) ∧ Below w.heap.size w w' := by
  have HR0 := Aside0.mk hr0
  have HC0 := Aside0.mk hc0
  clear hr0 hc0
  have HB := Aside0.mk (Below.refl w.heap.size w)
  have H : (if (l0.length : Int) > 1048576 then (some true) else ((laws_toByteS.f k l0).bind fun t332 => ((spec_FrontRead.f k t332 a1).bind fun bt335 => ((laws_toByteS.f k l0).bind fun t340 => ((impl_FrontRead.f k t340 a1).bind fun bt343 => ((laws_eqValS.f k bt343.1 bt335.1).bind fun t348 => (if t348 = true then (if bt343.2.1 = bt335.2.1 then (laws_FnExactFrontRead.j0 k l0 a1 bt335.1 bt335.2.1 bt335.2.2 t340 bt343.1 bt343.2.1 bt343.2.2 (bt343.2.2 != bt335.2.2)) else (laws_FnExactFrontRead.j0 k l0 a1 bt335.1 bt335.2.1 bt335.2.2 t340 bt343.1 bt343.2.1 bt343.2.2 true)) else (laws_FnExactFrontRead.j0 k l0 a1 bt335.1 bt335.2.1 bt335.2.2 t340 bt343.1 bt343.2.1 bt343.2.2 true)))))))) = some r := h
  clear h
  by_cases c3 : (l0.length : Int) > 1048576
  · rw [if_pos c3] at H
    have c3b0 : decide (1048576 < (l0.length : Int)) = true := decide_eq_true c3
    have c3b1 : decide (1048576 < l0.length) = true := decide_eq_true (by omega)
    clear c3
    obtain rfl := Option.some.inj H
    go_enter Try.func6, Try.ntmps6
    go_wp2
    go_ret
    exact ⟨by first | rfl | (simp [errW_none, errW_some] <;> rfl) | (simp [*, errW_none, errW_some] <;> rfl), below_later HB.out⟩
  · rw [if_neg c3] at H
    have c3b0 : decide (1048576 < (l0.length : Int)) = false := decide_eq_false c3
    have c3b1 : decide (1048576 < l0.length) = false := decide_eq_false (by omega)
    clear c3
    replace H := Option.bind_eq_some_iff.mp H
    obtain ⟨t332, A40, H⟩ := H
    replace H : ((spec_FrontRead.f k t332 a1).bind fun bt335 => ((laws_toByteS.f k l0).bind fun t340 => ((impl_FrontRead.f k t340 a1).bind fun bt343 => ((laws_eqValS.f k bt343.1 bt335.1).bind fun t348 => (if t348 = true then (if bt343.2.1 = bt335.2.1 then (laws_FnExactFrontRead.j0 k l0 a1 bt335.1 bt335.2.1 bt335.2.2 t340 bt343.1 bt343.2.1 bt343.2.2 (bt343.2.2 != bt335.2.2)) else (laws_FnExactFrontRead.j0 k l0 a1 bt335.1 bt335.2.1 bt335.2.2 t340 bt343.1 bt343.2.1 bt343.2.2 true)) else (laws_FnExactFrontRead.j0 k l0 a1 bt335.1 bt335.2.1 bt335.2.2 t340 bt343.1 bt343.2.1 bt343.2.2 true)))))) = some r := H
    have A4 := Aside0.mk A40
    clear A40
    replace H := Option.bind_eq_some_iff.mp H
    obtain ⟨⟨t335, t336, t337⟩, A50, H⟩ := H
    replace H : ((laws_toByteS.f k l0).bind fun t340 => ((impl_FrontRead.f k t340 a1).bind fun bt343 => ((laws_eqValS.f k bt343.1 t335).bind fun t348 => (if t348 = true then (if bt343.2.1 = t336 then (laws_FnExactFrontRead.j0 k l0 a1 t335 t336 t337 t340 bt343.1 bt343.2.1 bt343.2.2 (bt343.2.2 != t337)) else (laws_FnExactFrontRead.j0 k l0 a1 t335 t336 t337 t340 bt343.1 bt343.2.1 bt343.2.2 true)) else (laws_FnExactFrontRead.j0 k l0 a1 t335 t336 t337 t340 bt343.1 bt343.2.1 bt343.2.2 true))))) = some r := H
    have A5 := Aside0.mk A50
    clear A50
    replace H := Option.bind_eq_some_iff.mp H
    obtain ⟨t340, A60, H⟩ := H
    replace H : ((impl_FrontRead.f k t340 a1).bind fun bt343 => ((laws_eqValS.f k bt343.1 t335).bind fun t348 => (if t348 = true then (if bt343.2.1 = t336 then (laws_FnExactFrontRead.j0 k l0 a1 t335 t336 t337 t340 bt343.1 bt343.2.1 bt343.2.2 (bt343.2.2 != t337)) else (laws_FnExactFrontRead.j0 k l0 a1 t335 t336 t337 t340 bt343.1 bt343.2.1 bt343.2.2 true)) else (laws_FnExactFrontRead.j0 k l0 a1 t335 t336 t337 t340 bt343.1 bt343.2.1 bt343.2.2 true)))) = some r := H
    have A6 := Aside0.mk A60
    clear A60
    replace H := Option.bind_eq_some_iff.mp H
    obtain ⟨⟨t343, t344, t345⟩, A70, H⟩ := H
    replace H : ((laws_eqValS.f k t343 t335).bind fun t348 => (if t348 = true then (if t344 = t336 then (laws_FnExactFrontRead.j0 k l0 a1 t335 t336 t337 t340 t343 t344 t345 (t345 != t337)) else (laws_FnExactFrontRead.j0 k l0 a1 t335 t336 t337 t340 t343 t344 t345 true)) else (laws_FnExactFrontRead.j0 k l0 a1 t335 t336 t337 t340 t343 t344 t345 true))) = some r := H
    have A7 := Aside0.mk A70
    clear A70
    have HC8 := Aside0.mk H
    clear H
    go_enter Try.func6, Try.ntmps6
    go_upto_region 6 with (first | ((with_reducible refine gate_callee (f := 16) rfl ?_); refine goesL_ (some 23) rfl rfl Try.func16 (by kernel_rfl) rfl #[.slice A0 l0.length c0] rfl (by (try simp only [List.map_toArray, List.map_cons, List.map_nil]); first | done | rfl | (simp only [List.length_drop, List.length_take]; rfl)) ?_; (with_reducible refine (laws_toByteS.calls k _ _ l0 t332 _ ?side1 ?side2 A4.out).mono ?_); (case side1 => repeat (first | exact HR0.out | (with_reducible refine Kd.C_alloc ?_ _) | (with_reducible refine Kd.C_drewN ?_ _) | (with_reducible refine Kd.C_drew ?_))); (case side2 => exact HC0.out); rintro e w9 ⟨v333, rfl, ho0, hb⟩; refine ⟨_, rfl, ?_⟩; have n0_ := Aside0.mk (Kd.R_lower ho0 (below_size (below_later HB.out))); have n1_ := Aside0.mk (below_step (below_later HB.out) hb); clear HB; have HO334 := n0_; have HB := n1_; clear n0_ n1_; (try clear hb); (try clear hb2); (try clear hk); (try clear hi); (try clear ho0); obtain ⟨Ao10, co10, eo10⟩ := Kd.R_slice HO334.out; subst eo10) | ((with_reducible refine gate_callee (f := 27) rfl ?_); refine goesL_ (some 25) rfl rfl Try.func27 (by kernel_rfl) rfl #[.slice Ao10 t332.length co10, .int .i64 a1] rfl (by (try simp only [List.map_toArray, List.map_cons, List.map_nil]); first | done | rfl | (simp only [List.length_drop, List.length_take]; rfl)) ?_; (with_reducible refine (spec_FrontRead.calls k _ _ t332 a1 t335 t336 t337 _ ?side1 ?side2 A5.out).mono ?_); (case side1 => repeat (first | exact (Kd.R_reads' HO334.out).2.2 | (with_reducible refine Kd.C_alloc ?_ _) | (with_reducible refine Kd.C_drewN ?_ _) | (with_reducible refine Kd.C_drew ?_))); (case side2 => exact (Kd.R_reads' HO334.out).2.1); rintro e w11 ⟨v338, rfl, ho0, hb⟩; refine ⟨_, rfl, ?_⟩; have n0_ := Aside0.mk (Kd.R_below (R_later HO334.out) hb); have n1_ := Aside0.mk (Kd.R_lower ho0 (below_size (below_later HB.out))); have n2_ := Aside0.mk (below_step (below_later HB.out) hb); clear HO334; clear HB; have HO334 := n0_; have HO339 := n1_; have HB := n2_; clear n0_ n1_ n2_; (try clear hb); (try clear hb2); (try clear hk); (try clear hi); (try clear ho0)) | ((with_reducible refine gate_callee (f := 16) rfl ?_); refine goesL_ (some 30) rfl rfl Try.func16 (by kernel_rfl) rfl #[.slice A0 l0.length c0] rfl (by (try simp only [List.map_toArray, List.map_cons, List.map_nil]); first | done | rfl | (simp only [List.length_drop, List.length_take]; rfl)) ?_; (with_reducible refine (laws_toByteS.calls k _ _ l0 t340 _ ?side1 ?side2 A6.out).mono ?_); (case side1 => repeat (first | exact (Kd.C_below HR0.out HB.out) | (with_reducible refine Kd.C_alloc ?_ _) | (with_reducible refine Kd.C_drewN ?_ _) | (with_reducible refine Kd.C_drew ?_))); (case side2 => exact HC0.out); rintro e w12 ⟨v341, rfl, ho0, hb⟩; refine ⟨_, rfl, ?_⟩; have n0_ := Aside0.mk (Kd.R_elder' (R_later HO334.out) (Kd.R_base ho0) hb); have n1_ := Aside0.mk (Kd.R_below (R_later HO339.out) hb); have n2_ := Aside0.mk (Kd.R_lower (Kd.R_new' ho0 (Kd.R_lt (R_later HO334.out))) (below_size (below_later HB.out))); have n3_ := Aside0.mk (below_step (below_later HB.out) hb); clear HO334; clear HO339; clear HB; have HO334 := n0_; have HO339 := n1_; have HO342 := n2_; have HB := n3_; clear n0_ n1_ n2_ n3_; (try clear hb); (try clear hb2); (try clear hk); (try clear hi); (try clear ho0); obtain ⟨Ao13, co13, eo13⟩ := Kd.R_slice HO342.out; subst eo13) | ((with_reducible refine gate_callee (f := 28) rfl ?_); refine goesL_ (some 34) rfl rfl Try.func28 (by kernel_rfl) rfl #[.slice Ao13 t340.length co13, .int .i64 a1] rfl (by (try simp only [List.map_toArray, List.map_cons, List.map_nil]); first | done | rfl | (simp only [List.length_drop, List.length_take]; rfl)) ?_; (with_reducible refine (impl_FrontRead.calls k _ _ t340 a1 t343 t344 t345 _ ?side1 ?side2 A7.out).mono ?_); (case side1 => repeat (first | exact (Kd.R_reads' HO342.out).2.2 | (with_reducible refine Kd.C_alloc ?_ _) | (with_reducible refine Kd.C_drewN ?_ _) | (with_reducible refine Kd.C_drew ?_))); (case side2 => exact (Kd.R_reads' HO342.out).2.1); rintro e w14 ⟨v346, rfl, ho0, hb⟩; refine ⟨_, rfl, ?_⟩; have n0_ := Aside0.mk (Kd.R_below (R_later HO334.out) hb); have n1_ := Aside0.mk (Kd.R_elder' (R_later HO339.out) (Kd.R_base ho0) hb); have n2_ := Aside0.mk (Kd.R_below (R_later HO342.out) hb); have n3_ := Aside0.mk (Kd.R_lower (Kd.R_new' ho0 (Kd.R_lt (R_later HO339.out))) (below_size (below_later HB.out))); have n4_ := Aside0.mk (below_step (below_later HB.out) hb); clear HO334; clear HO339; clear HO342; clear HB; have HO334 := n0_; have HO339 := n1_; have HO342 := n2_; have HO347 := n3_; have HB := n4_; clear n0_ n1_ n2_ n3_ n4_; (try clear hb); (try clear hb2); (try clear hk); (try clear hi); (try clear ho0)))
    (try simp only [Act.put, List.setIfInBounds_toArray, List.set_cons_zero, List.set_cons_succ])
    go_cut [51] (fun v51 wc => ∃ (kq : Nat) (x51_7 : Bool), v51 = .bool x51_7 ∧ Aside0 (laws_FnExactFrontRead.j0 kq l0 a1 t335 t336 t337 t340 t343 t344 t345 x51_7 = some r) ∧ Aside0 (kq ≤ k) ∧ Aside0 (Kd.R k59 59 wc w.heap.size (fun k_ => some k_ ≠ (v346 : Value).ownBlock) v338 t335) ∧ Aside0 (Kd.R (Kd.int .u8) 5 wc w.heap.size (fun _ => True) (.slice Ao13 t340.length co13) t340) ∧ Aside0 (Kd.R k59 59 wc w.heap.size (fun k_ => some k_ ≠ (v338 : Value).ownBlock) v346 t343) ∧ Aside0 (Below w.heap.size w wc))
    case first =>
      have H := HC8.out
      clear HC8
      replace H := Option.bind_eq_some_iff.mp H
      obtain ⟨t348, A150, H⟩ := H
      replace H : (if t348 = true then (if t344 = t336 then (laws_FnExactFrontRead.j0 k l0 a1 t335 t336 t337 t340 t343 t344 t345 (t345 != t337)) else (laws_FnExactFrontRead.j0 k l0 a1 t335 t336 t337 t340 t343 t344 t345 true)) else (laws_FnExactFrontRead.j0 k l0 a1 t335 t336 t337 t340 t343 t344 t345 true)) = some r := H
      have A15 := Aside0.mk A150
      clear A150
      by_cases c16 : t348 = true
      · subst c16
        have H1 : (if t344 = t336 then (laws_FnExactFrontRead.j0 k l0 a1 t335 t336 t337 t340 t343 t344 t345 (t345 != t337)) else (laws_FnExactFrontRead.j0 k l0 a1 t335 t336 t337 t340 t343 t344 t345 true)) = some r := by rw [if_pos rfl] at H; exact H
        clear H
        have H := H1
        clear H1
        by_cases c17 : t344 = t336
        · rw [if_pos c17] at H
          have c17b0 : (t344 == t336) = true := beq_iff_eq.mpr c17
          have c17b1 : (t344 != t336) = false := bne_eq_false_iff_eq.mpr c17
          clear c17
          (first | rw [c17b0] | rw [c17b1] | (simp only [i64_w, i32_w]; rw [c17b0]) | skip)
          have H' := Aside0.mk H
          clear H
          obtain ⟨Ao18, co18, eo18⟩ := Kd.R_slice HO347.out
          subst eo18
          obtain ⟨Ao19, co19, eo19⟩ := Kd.R_slice HO339.out
          subst eo19
          go_wp2_with (first | ((with_reducible refine gate_callee (f := 24) rfl ?_); refine goesL_ (some 40) rfl rfl Try.func24 (by kernel_rfl) rfl #[.slice Ao18 t343.length co18, .slice Ao19 t335.length co19] rfl (by (try simp only [List.map_toArray, List.map_cons, List.map_nil]); first | done | rfl | (simp only [List.length_drop, List.length_take]; rfl)) ?_; (with_reducible refine (laws_eqValS.calls k _ _ t343 _ _ t335 true _ ?side1 ?side2 ?side3 ?side4 A15.out).mono ?_); (case side1 => repeat (first | exact (Kd.R_reads' HO347.out).2.2 | (with_reducible refine Kd.C_alloc ?_ _) | (with_reducible refine Kd.C_drewN ?_ _) | (with_reducible refine Kd.C_drew ?_))); (case side2 => exact (Kd.R_reads' HO347.out).2.1); (case side3 => repeat (first | exact (Kd.R_reads' HO339.out).2.2 | (with_reducible refine Kd.C_alloc ?_ _) | (with_reducible refine Kd.C_drewN ?_ _) | (with_reducible refine Kd.C_drew ?_))); (case side4 => exact (Kd.R_reads' HO339.out).2.1); rintro e w20 ⟨rfl, hb⟩; refine ⟨_, rfl, ?_⟩; have n0_ := Aside0.mk (Kd.R_below (R_later HO334.out) hb); have n1_ := Aside0.mk (Kd.R_below (R_later HO339.out) hb); have n2_ := Aside0.mk (Kd.R_below (R_later HO342.out) hb); have n3_ := Aside0.mk (Kd.R_below (R_later HO347.out) hb); have n4_ := Aside0.mk (below_step (below_later HB.out) hb); clear HO334; clear HO339; clear HO342; clear HO347; clear HB; have HO334 := n0_; have HO339 := n1_; have HO342 := n2_; have HO347 := n3_; have HB := n4_; clear n0_ n1_ n2_ n3_ n4_; (try clear hb); (try clear hb2); (try clear hk); (try clear hi)))
          go_meet
          case rel => exact ⟨_, ((t345 != t337)), (by first | rfl | (simp; done) | (simp [*]; done)), H', ⟨by first | omega | exact Nat.le_refl _⟩, ⟨by (with_reducible repeat (first | apply Kd.R_alloc | apply Kd.R_drewN | apply Kd.R_drew)); exact Kd.R_mono HO339.out (fun _ hk => hk.2)⟩, ⟨by (with_reducible repeat (first | apply Kd.R_alloc | apply Kd.R_drewN | apply Kd.R_drew)); exact Kd.R_mono HO342.out (fun _ hk => trivial)⟩, ⟨by (with_reducible repeat (first | apply Kd.R_alloc | apply Kd.R_drewN | apply Kd.R_drew)); exact Kd.R_mono HO347.out (fun _ hk => hk.2)⟩, ⟨below_later HB.out⟩⟩
        · rw [if_neg c17] at H
          have c17b0 : (t344 == t336) = false := beq_eq_false_iff_ne.mpr c17
          have c17b1 : (t344 != t336) = true := bne_iff_ne.mpr c17
          (first | rw [c17b0] | rw [c17b1] | (simp only [i64_w, i32_w]; rw [c17b0]) | skip)
          have H' := Aside0.mk H
          clear H
          obtain ⟨Ao21, co21, eo21⟩ := Kd.R_slice HO347.out
          subst eo21
          obtain ⟨Ao22, co22, eo22⟩ := Kd.R_slice HO339.out
          subst eo22
          go_wp2_with (first | ((with_reducible refine gate_callee (f := 24) rfl ?_); refine goesL_ (some 40) rfl rfl Try.func24 (by kernel_rfl) rfl #[.slice Ao21 t343.length co21, .slice Ao22 t335.length co22] rfl (by (try simp only [List.map_toArray, List.map_cons, List.map_nil]); first | done | rfl | (simp only [List.length_drop, List.length_take]; rfl)) ?_; (with_reducible refine (laws_eqValS.calls k _ _ t343 _ _ t335 true _ ?side1 ?side2 ?side3 ?side4 A15.out).mono ?_); (case side1 => repeat (first | exact (Kd.R_reads' HO347.out).2.2 | (with_reducible refine Kd.C_alloc ?_ _) | (with_reducible refine Kd.C_drewN ?_ _) | (with_reducible refine Kd.C_drew ?_))); (case side2 => exact (Kd.R_reads' HO347.out).2.1); (case side3 => repeat (first | exact (Kd.R_reads' HO339.out).2.2 | (with_reducible refine Kd.C_alloc ?_ _) | (with_reducible refine Kd.C_drewN ?_ _) | (with_reducible refine Kd.C_drew ?_))); (case side4 => exact (Kd.R_reads' HO339.out).2.1); rintro e w23 ⟨rfl, hb⟩; refine ⟨_, rfl, ?_⟩; have n0_ := Aside0.mk (Kd.R_below (R_later HO334.out) hb); have n1_ := Aside0.mk (Kd.R_below (R_later HO339.out) hb); have n2_ := Aside0.mk (Kd.R_below (R_later HO342.out) hb); have n3_ := Aside0.mk (Kd.R_below (R_later HO347.out) hb); have n4_ := Aside0.mk (below_step (below_later HB.out) hb); clear HO334; clear HO339; clear HO342; clear HO347; clear HB; have HO334 := n0_; have HO339 := n1_; have HO342 := n2_; have HO347 := n3_; have HB := n4_; clear n0_ n1_ n2_ n3_ n4_; (try clear hb); (try clear hb2); (try clear hk); (try clear hi)))
          go_meet
          case rel => exact ⟨_, (true), (by first | rfl | (simp; done) | (simp [*]; done)), H', ⟨by first | omega | exact Nat.le_refl _⟩, ⟨by (with_reducible repeat (first | apply Kd.R_alloc | apply Kd.R_drewN | apply Kd.R_drew)); exact Kd.R_mono HO339.out (fun _ hk => hk.2)⟩, ⟨by (with_reducible repeat (first | apply Kd.R_alloc | apply Kd.R_drewN | apply Kd.R_drew)); exact Kd.R_mono HO342.out (fun _ hk => trivial)⟩, ⟨by (with_reducible repeat (first | apply Kd.R_alloc | apply Kd.R_drewN | apply Kd.R_drew)); exact Kd.R_mono HO347.out (fun _ hk => hk.2)⟩, ⟨below_later HB.out⟩⟩
      · replace c16 := Bool.eq_false_iff.mpr c16
        subst c16
        have H1 : (laws_FnExactFrontRead.j0 k l0 a1 t335 t336 t337 t340 t343 t344 t345 true) = some r := by rw [if_neg (show ¬ (false = true) by decide)] at H; exact H
        clear H
        have H := H1
        clear H1
        have H' := Aside0.mk H
        clear H
        obtain ⟨Ao24, co24, eo24⟩ := Kd.R_slice HO347.out
        subst eo24
        obtain ⟨Ao25, co25, eo25⟩ := Kd.R_slice HO339.out
        subst eo25
        go_wp2_with (first | ((with_reducible refine gate_callee (f := 24) rfl ?_); refine goesL_ (some 40) rfl rfl Try.func24 (by kernel_rfl) rfl #[.slice Ao24 t343.length co24, .slice Ao25 t335.length co25] rfl (by (try simp only [List.map_toArray, List.map_cons, List.map_nil]); first | done | rfl | (simp only [List.length_drop, List.length_take]; rfl)) ?_; (with_reducible refine (laws_eqValS.calls k _ _ t343 _ _ t335 false _ ?side1 ?side2 ?side3 ?side4 A15.out).mono ?_); (case side1 => repeat (first | exact (Kd.R_reads' HO347.out).2.2 | (with_reducible refine Kd.C_alloc ?_ _) | (with_reducible refine Kd.C_drewN ?_ _) | (with_reducible refine Kd.C_drew ?_))); (case side2 => exact (Kd.R_reads' HO347.out).2.1); (case side3 => repeat (first | exact (Kd.R_reads' HO339.out).2.2 | (with_reducible refine Kd.C_alloc ?_ _) | (with_reducible refine Kd.C_drewN ?_ _) | (with_reducible refine Kd.C_drew ?_))); (case side4 => exact (Kd.R_reads' HO339.out).2.1); rintro e w26 ⟨rfl, hb⟩; refine ⟨_, rfl, ?_⟩; have n0_ := Aside0.mk (Kd.R_below (R_later HO334.out) hb); have n1_ := Aside0.mk (Kd.R_below (R_later HO339.out) hb); have n2_ := Aside0.mk (Kd.R_below (R_later HO342.out) hb); have n3_ := Aside0.mk (Kd.R_below (R_later HO347.out) hb); have n4_ := Aside0.mk (below_step (below_later HB.out) hb); clear HO334; clear HO339; clear HO342; clear HO347; clear HB; have HO334 := n0_; have HO339 := n1_; have HO342 := n2_; have HO347 := n3_; have HB := n4_; clear n0_ n1_ n2_ n3_ n4_; (try clear hb); (try clear hb2); (try clear hk); (try clear hi)))
        go_meet
        case rel => exact ⟨_, (true), (by first | rfl | (simp; done) | (simp [*]; done)), H', ⟨by first | omega | exact Nat.le_refl _⟩, ⟨by (with_reducible repeat (first | apply Kd.R_alloc | apply Kd.R_drewN | apply Kd.R_drew)); exact Kd.R_mono HO339.out (fun _ hk => hk.2)⟩, ⟨by (with_reducible repeat (first | apply Kd.R_alloc | apply Kd.R_drewN | apply Kd.R_drew)); exact Kd.R_mono HO342.out (fun _ hk => trivial)⟩, ⟨by (with_reducible repeat (first | apply Kd.R_alloc | apply Kd.R_drewN | apply Kd.R_drew)); exact Kd.R_mono HO347.out (fun _ hk => hk.2)⟩, ⟨below_later HB.out⟩⟩
    case rest =>
      clear HC8
      try clear c1
      try clear c2
      try clear p2
      try clear c3
      try clear c3b0
      try clear c3b1
      try clear c6
      try clear c16
      try clear c17
      try clear c17b0
      try clear c17b1
      try clear c24
      obtain ⟨kq, x51_7, rfl, HA, HJ7, HO_5, HO_8, HO_9, HB⟩ := hcut
      cases kq with
      | zero => exact absurd HA.out (by simp [laws_FnExactFrontRead.j0])
      | succ kj7 =>
        have H := HA.out
        clear HA
        simp only [laws_FnExactFrontRead.j0] at H
        by_cases c27 : x51_7 = true
        · subst c27
          have H1 : (some false) = some r := by rw [if_pos rfl] at H; exact H
          clear H
          have H := H1
          clear H1
          obtain rfl := Option.some.inj H
          go_wp2
          go_ret
          exact ⟨by first | rfl | (simp [errW_none, errW_some] <;> rfl) | (simp [*, errW_none, errW_some] <;> rfl), below_later HB.out⟩
        · replace c27 := Bool.eq_false_iff.mpr c27
          subst c27
          have H1 : ((laws_toByteS.f kj7 l0).bind fun t349 => ((laws_eqByteS.f kj7 t340 t349).bind fun t352 => (if t352 = true then ((laws_markByteS.f kj7 t340 1).bind fun bt353 => (if bt353.1 < 0 then (laws_FnExactFrontRead.j1 kj7 l0 a1 t335 t336 t337 t343 true) else ((laws_eqValS.f kj7 t343 t335).bind fun t355 => (if t355 = true then (if t344 = t336 then (laws_FnExactFrontRead.j1 kj7 l0 a1 t335 t336 t337 t343 (t345 != t337)) else (laws_FnExactFrontRead.j1 kj7 l0 a1 t335 t336 t337 t343 true)) else (laws_FnExactFrontRead.j1 kj7 l0 a1 t335 t336 t337 t343 true))))) else (some false)))) = some r := by rw [if_neg (show ¬ (false = true) by decide)] at H; exact H
          clear H
          have H := H1
          clear H1
          replace H := Option.bind_eq_some_iff.mp H
          obtain ⟨t349, A280, H⟩ := H
          replace H : ((laws_eqByteS.f kj7 t340 t349).bind fun t352 => (if t352 = true then ((laws_markByteS.f kj7 t340 1).bind fun bt353 => (if bt353.1 < 0 then (laws_FnExactFrontRead.j1 kj7 l0 a1 t335 t336 t337 t343 true) else ((laws_eqValS.f kj7 t343 t335).bind fun t355 => (if t355 = true then (if t344 = t336 then (laws_FnExactFrontRead.j1 kj7 l0 a1 t335 t336 t337 t343 (t345 != t337)) else (laws_FnExactFrontRead.j1 kj7 l0 a1 t335 t336 t337 t343 true)) else (laws_FnExactFrontRead.j1 kj7 l0 a1 t335 t336 t337 t343 true))))) else (some false))) = some r := H
          have A28 := Aside0.mk A280
          clear A280
          replace H := Option.bind_eq_some_iff.mp H
          obtain ⟨t352, A290, H⟩ := H
          replace H : (if t352 = true then ((laws_markByteS.f kj7 t340 1).bind fun bt353 => (if bt353.1 < 0 then (laws_FnExactFrontRead.j1 kj7 l0 a1 t335 t336 t337 t343 true) else ((laws_eqValS.f kj7 t343 t335).bind fun t355 => (if t355 = true then (if t344 = t336 then (laws_FnExactFrontRead.j1 kj7 l0 a1 t335 t336 t337 t343 (t345 != t337)) else (laws_FnExactFrontRead.j1 kj7 l0 a1 t335 t336 t337 t343 true)) else (laws_FnExactFrontRead.j1 kj7 l0 a1 t335 t336 t337 t343 true))))) else (some false)) = some r := H
          have A29 := Aside0.mk A290
          clear A290
          by_cases c30 : t352 = true
          · subst c30
            have H1 : ((laws_markByteS.f kj7 t340 1).bind fun bt353 => (if bt353.1 < 0 then (laws_FnExactFrontRead.j1 kj7 l0 a1 t335 t336 t337 t343 true) else ((laws_eqValS.f kj7 t343 t335).bind fun t355 => (if t355 = true then (if t344 = t336 then (laws_FnExactFrontRead.j1 kj7 l0 a1 t335 t336 t337 t343 (t345 != t337)) else (laws_FnExactFrontRead.j1 kj7 l0 a1 t335 t336 t337 t343 true)) else (laws_FnExactFrontRead.j1 kj7 l0 a1 t335 t336 t337 t343 true))))) = some r := by rw [if_pos rfl] at H; exact H
            clear H
            have H := H1
            clear H1
            replace H := Option.bind_eq_some_iff.mp H
            obtain ⟨⟨t353, t354⟩, A310, H⟩ := H
            replace H : (if t353 < 0 then (laws_FnExactFrontRead.j1 kj7 l0 a1 t335 t336 t337 t343 true) else ((laws_eqValS.f kj7 t343 t335).bind fun t355 => (if t355 = true then (if t344 = t336 then (laws_FnExactFrontRead.j1 kj7 l0 a1 t335 t336 t337 t343 (t345 != t337)) else (laws_FnExactFrontRead.j1 kj7 l0 a1 t335 t336 t337 t343 true)) else (laws_FnExactFrontRead.j1 kj7 l0 a1 t335 t336 t337 t343 true)))) = some r := H
            have A31 := Aside0.mk A310
            clear A310
            have HC32 := Aside0.mk H
            clear H
            go_upto_region 12 with (first | ((with_reducible refine gate_callee (f := 16) rfl ?_); refine goesL_ (some 54) rfl rfl Try.func16 (by kernel_rfl) rfl #[.slice A0 l0.length c0] rfl (by (try simp only [List.map_toArray, List.map_cons, List.map_nil]); first | done | rfl | (simp only [List.length_drop, List.length_take]; rfl)) ?_; (with_reducible refine (laws_toByteS.calls kj7 _ _ l0 t349 _ ?side1 ?side2 A28.out).mono ?_); (case side1 => repeat (first | exact (Kd.C_below HR0.out HB.out) | (with_reducible refine Kd.C_alloc ?_ _) | (with_reducible refine Kd.C_drewN ?_ _) | (with_reducible refine Kd.C_drew ?_))); (case side2 => exact HC0.out); rintro e w33 ⟨v350, rfl, ho0, hb⟩; refine ⟨_, rfl, ?_⟩; have n0_ := Aside0.mk (Kd.R_below (R_later HO_5.out) hb); have n1_ := Aside0.mk (Kd.R_elder' (R_later HO_8.out) (Kd.R_base ho0) hb); have n2_ := Aside0.mk (Kd.R_below (R_later HO_9.out) hb); have n3_ := Aside0.mk (Kd.R_lower (Kd.R_new' ho0 (Kd.R_lt (R_later HO_8.out))) (below_size (below_later HB.out))); have n4_ := Aside0.mk (below_step (below_later HB.out) hb); clear HO_5; clear HO_8; clear HO_9; clear HB; have HO_5 := n0_; have HO_8 := n1_; have HO_9 := n2_; have HO351 := n3_; have HB := n4_; clear n0_ n1_ n2_ n3_ n4_; (try clear hb); (try clear hb2); (try clear hk); (try clear hi); (try clear ho0); obtain ⟨Ao34, co34, eo34⟩ := Kd.R_slice HO351.out; subst eo34) | ((with_reducible refine gate_callee (f := 18) rfl ?_); refine goesL_ (some 55) rfl rfl Try.func18 (by kernel_rfl) rfl #[.slice Ao13 t340.length co13, .slice Ao34 t349.length co34] rfl (by (try simp only [List.map_toArray, List.map_cons, List.map_nil]); first | done | rfl | (simp only [List.length_drop, List.length_take]; rfl)) ?_; (with_reducible refine (laws_eqByteS.calls kj7 _ _ t340 _ _ t349 true _ ?side1 ?side2 ?side3 ?side4 A29.out).mono ?_); (case side1 => repeat (first | exact (Kd.R_reads' HO_8.out).2.2 | (with_reducible refine Kd.C_alloc ?_ _) | (with_reducible refine Kd.C_drewN ?_ _) | (with_reducible refine Kd.C_drew ?_))); (case side2 => exact (Kd.R_reads' HO_8.out).2.1); (case side3 => repeat (first | exact (Kd.R_reads' HO351.out).2.2 | (with_reducible refine Kd.C_alloc ?_ _) | (with_reducible refine Kd.C_drewN ?_ _) | (with_reducible refine Kd.C_drew ?_))); (case side4 => exact (Kd.R_reads' HO351.out).2.1); rintro e w' ⟨rfl, ⟨nd, rfl⟩⟩; refine ⟨_, rfl, ?_⟩) | ((with_reducible refine gate_callee (f := 19) rfl ?_); refine goesL_ (some 59) rfl rfl Try.func19 (by kernel_rfl) rfl #[.slice Ao13 t340.length co13, .int .i64 1] rfl (by (try simp only [List.map_toArray, List.map_cons, List.map_nil]); first | done | rfl | (simp only [List.length_drop, List.length_take]; rfl)) ?_; (with_reducible refine (laws_markByteS.calls kj7 (fun k_ => some k_ = (.slice Ao13 t340.length co13 : Value).ownBlock) (.slice Ao13 t340.length co13) t340 1 t353 t354 w _ ?side1 ?side2 A31.out).mono ?_); (case side1 => repeat (first | (with_reducible first | exact HB.out | apply below_alloc | apply pw_below_drewN | apply below_drew1) | exact HB.out)); (case side2 => exact Kd.R_tight rfl HO_8.out); rintro e w35 ⟨rfl, hy0, hb, hkp⟩; refine ⟨_, rfl, ?_⟩; have n0_ := Aside0.mk (Kd.R_mono (ok' := fun k_ => some k_ ≠ (v346 : Value).ownBlock) (Kd.R_keptB ((Kd.R_apart' HO_5.out (Kd.R_typed HO_8.out) (by decide))) hkp (fun k_ hk_ hs_ => (hk_.2) hs_)) (fun k_ hk_ => hk_.1.1)); have n1_ := Aside0.mk (Kd.R_reok rfl hy0 (fun k_ e_ => HO_8.out.1 k_ e_)); have n2_ := Aside0.mk (Kd.R_mono (ok' := fun k_ => some k_ ≠ (v338 : Value).ownBlock) (Kd.R_keptB ((Kd.R_apart' HO_9.out (Kd.R_typed HO_8.out) (by decide))) hkp (fun k_ hk_ hs_ => (hk_.2) hs_)) (fun k_ hk_ => hk_.1.1)); have n3_ := Aside0.mk (Kd.R_mono (ok' := fun k_ => some k_ ≠ (.slice Ao13 t340.length co13 : Value).ownBlock) (Kd.R_keptB (HO351.out) hkp (fun k_ hk_ hs_ => (hk_.2) hs_)) (fun k_ hk_ => hk_.1.2)); have n4_ := Aside0.mk (hb); clear HO_5; clear HO_8; clear HO_9; clear HO351; clear HB; have HO_5 := n0_; have HO_8 := n1_; have HO_9 := n2_; have HO351 := n3_; have HB := n4_; clear n0_ n1_ n2_ n3_ n4_; (try clear hb); (try clear hkp); (try clear hy0)))
            (try simp only [Act.put, List.setIfInBounds_toArray, List.set_cons_zero, List.set_cons_succ])
            go_cut [77] (fun v77 wc => ∃ (kq : Nat) (x77_31 : Bool), v77 = .bool x77_31 ∧ Aside0 (laws_FnExactFrontRead.j1 kq l0 a1 t335 t336 t337 t343 x77_31 = some r) ∧ Aside0 (kq ≤ kj7) ∧ Aside0 (Kd.R k59 59 wc w.heap.size (fun k_ => some k_ ≠ (v346 : Value).ownBlock) v338 t335) ∧ Aside0 (Kd.R k59 59 wc w.heap.size (fun k_ => some k_ ≠ (v338 : Value).ownBlock) v346 t343) ∧ Aside0 (Below w.heap.size w wc))
            case first =>
              have H := HC32.out
              clear HC32
              by_cases c36 : t353 < 0
              · rw [if_pos c36] at H
                have c36b0 : decide (t353 < 0) = true := decide_eq_true c36
                clear c36
                (first | rw [c36b0] | (simp only [i64_w, i32_w]; rw [c36b0]) | skip)
                have H' := Aside0.mk H
                clear H
                go_wp2
                go_meet
                case rel => exact ⟨_, (true), (by first | rfl | (simp; done) | (simp [*]; done)), H', ⟨by have := HJ7.out; first | omega | exact Nat.le_refl _⟩, ⟨by (with_reducible repeat (first | apply Kd.R_alloc | apply Kd.R_drewN | apply Kd.R_drew)); exact HO_5.out⟩, ⟨by (with_reducible repeat (first | apply Kd.R_alloc | apply Kd.R_drewN | apply Kd.R_drew)); exact HO_9.out⟩, ⟨below_later HB.out⟩⟩
              · rw [if_neg c36] at H
                have c36b0 : decide (t353 < 0) = false := decide_eq_false c36
                clear c36
                (first | rw [c36b0] | (simp only [i64_w, i32_w]; rw [c36b0]) | skip)
                replace H := Option.bind_eq_some_iff.mp H
                obtain ⟨t355, A370, H⟩ := H
                replace H : (if t355 = true then (if t344 = t336 then (laws_FnExactFrontRead.j1 kj7 l0 a1 t335 t336 t337 t343 (t345 != t337)) else (laws_FnExactFrontRead.j1 kj7 l0 a1 t335 t336 t337 t343 true)) else (laws_FnExactFrontRead.j1 kj7 l0 a1 t335 t336 t337 t343 true)) = some r := H
                have A37 := Aside0.mk A370
                clear A370
                by_cases c38 : t355 = true
                · subst c38
                  have H1 : (if t344 = t336 then (laws_FnExactFrontRead.j1 kj7 l0 a1 t335 t336 t337 t343 (t345 != t337)) else (laws_FnExactFrontRead.j1 kj7 l0 a1 t335 t336 t337 t343 true)) = some r := by rw [if_pos rfl] at H; exact H
                  clear H
                  have H := H1
                  clear H1
                  by_cases c39 : t344 = t336
                  · rw [if_pos c39] at H
                    have c39b0 : (t344 == t336) = true := beq_iff_eq.mpr c39
                    have c39b1 : (t344 != t336) = false := bne_eq_false_iff_eq.mpr c39
                    clear c39
                    have H' := Aside0.mk H
                    clear H
                    obtain ⟨Ao40, co40, eo40⟩ := Kd.R_slice HO_9.out
                    subst eo40
                    obtain ⟨Ao41, co41, eo41⟩ := Kd.R_slice HO_5.out
                    subst eo41
                    go_wp2_with (first | (go_at_call 24; (with_reducible refine (laws_eqValS.calls kj7 _ _ t343 _ _ t335 true _ ?side1 ?side2 ?side3 ?side4 A37.out).mono ?_); (case side1 => repeat (first | exact (Kd.R_reads' HO_9.out).2.2 | (with_reducible refine Kd.C_alloc ?_ _) | (with_reducible refine Kd.C_drewN ?_ _) | (with_reducible refine Kd.C_drew ?_))); (case side2 => exact (Kd.R_reads' HO_9.out).2.1); (case side3 => repeat (first | exact (Kd.R_reads' HO_5.out).2.2 | (with_reducible refine Kd.C_alloc ?_ _) | (with_reducible refine Kd.C_drewN ?_ _) | (with_reducible refine Kd.C_drew ?_))); (case side4 => exact (Kd.R_reads' HO_5.out).2.1); rintro e w42 ⟨rfl, hb⟩; have n0_ := Aside0.mk (Kd.R_below (R_later HO_5.out) hb); have n1_ := Aside0.mk (Kd.R_below (R_later HO_8.out) hb); have n2_ := Aside0.mk (Kd.R_below (R_later HO_9.out) hb); have n3_ := Aside0.mk (Kd.R_below (R_later HO351.out) hb); have n4_ := Aside0.mk (below_step (below_later HB.out) hb); clear HO_5; clear HO_8; clear HO_9; clear HO351; clear HB; have HO_5 := n0_; have HO_8 := n1_; have HO_9 := n2_; have HO351 := n3_; have HB := n4_; clear n0_ n1_ n2_ n3_ n4_; (try clear hb); (try clear hb2); (try clear hk); (try clear hi)))
                    go_meet
                    case rel => exact ⟨_, ((t345 != t337)), (by first | rfl | (simp; done) | (simp [*]; done)), H', ⟨by have := HJ7.out; first | omega | exact Nat.le_refl _⟩, ⟨by (with_reducible repeat (first | apply Kd.R_alloc | apply Kd.R_drewN | apply Kd.R_drew)); exact HO_5.out⟩, ⟨by (with_reducible repeat (first | apply Kd.R_alloc | apply Kd.R_drewN | apply Kd.R_drew)); exact HO_9.out⟩, ⟨below_later HB.out⟩⟩
                  · rw [if_neg c39] at H
                    have c39b0 : (t344 == t336) = false := beq_eq_false_iff_ne.mpr c39
                    have c39b1 : (t344 != t336) = true := bne_iff_ne.mpr c39
                    have H' := Aside0.mk H
                    clear H
                    obtain ⟨Ao43, co43, eo43⟩ := Kd.R_slice HO_9.out
                    subst eo43
                    obtain ⟨Ao44, co44, eo44⟩ := Kd.R_slice HO_5.out
                    subst eo44
                    go_wp2_with (first | (go_at_call 24; (with_reducible refine (laws_eqValS.calls kj7 _ _ t343 _ _ t335 true _ ?side1 ?side2 ?side3 ?side4 A37.out).mono ?_); (case side1 => repeat (first | exact (Kd.R_reads' HO_9.out).2.2 | (with_reducible refine Kd.C_alloc ?_ _) | (with_reducible refine Kd.C_drewN ?_ _) | (with_reducible refine Kd.C_drew ?_))); (case side2 => exact (Kd.R_reads' HO_9.out).2.1); (case side3 => repeat (first | exact (Kd.R_reads' HO_5.out).2.2 | (with_reducible refine Kd.C_alloc ?_ _) | (with_reducible refine Kd.C_drewN ?_ _) | (with_reducible refine Kd.C_drew ?_))); (case side4 => exact (Kd.R_reads' HO_5.out).2.1); rintro e w45 ⟨rfl, hb⟩; have n0_ := Aside0.mk (Kd.R_below (R_later HO_5.out) hb); have n1_ := Aside0.mk (Kd.R_below (R_later HO_8.out) hb); have n2_ := Aside0.mk (Kd.R_below (R_later HO_9.out) hb); have n3_ := Aside0.mk (Kd.R_below (R_later HO351.out) hb); have n4_ := Aside0.mk (below_step (below_later HB.out) hb); clear HO_5; clear HO_8; clear HO_9; clear HO351; clear HB; have HO_5 := n0_; have HO_8 := n1_; have HO_9 := n2_; have HO351 := n3_; have HB := n4_; clear n0_ n1_ n2_ n3_ n4_; (try clear hb); (try clear hb2); (try clear hk); (try clear hi)))
                    go_meet
                    case rel => exact ⟨_, (true), (by first | rfl | (simp; done) | (simp [*]; done)), H', ⟨by have := HJ7.out; first | omega | exact Nat.le_refl _⟩, ⟨by (with_reducible repeat (first | apply Kd.R_alloc | apply Kd.R_drewN | apply Kd.R_drew)); exact HO_5.out⟩, ⟨by (with_reducible repeat (first | apply Kd.R_alloc | apply Kd.R_drewN | apply Kd.R_drew)); exact HO_9.out⟩, ⟨below_later HB.out⟩⟩
                · replace c38 := Bool.eq_false_iff.mpr c38
                  subst c38
                  have H1 : (laws_FnExactFrontRead.j1 kj7 l0 a1 t335 t336 t337 t343 true) = some r := by rw [if_neg (show ¬ (false = true) by decide)] at H; exact H
                  clear H
                  have H := H1
                  clear H1
                  have H' := Aside0.mk H
                  clear H
                  obtain ⟨Ao46, co46, eo46⟩ := Kd.R_slice HO_9.out
                  subst eo46
                  obtain ⟨Ao47, co47, eo47⟩ := Kd.R_slice HO_5.out
                  subst eo47
                  go_wp2_with (first | (go_at_call 24; (with_reducible refine (laws_eqValS.calls kj7 _ _ t343 _ _ t335 false _ ?side1 ?side2 ?side3 ?side4 A37.out).mono ?_); (case side1 => repeat (first | exact (Kd.R_reads' HO_9.out).2.2 | (with_reducible refine Kd.C_alloc ?_ _) | (with_reducible refine Kd.C_drewN ?_ _) | (with_reducible refine Kd.C_drew ?_))); (case side2 => exact (Kd.R_reads' HO_9.out).2.1); (case side3 => repeat (first | exact (Kd.R_reads' HO_5.out).2.2 | (with_reducible refine Kd.C_alloc ?_ _) | (with_reducible refine Kd.C_drewN ?_ _) | (with_reducible refine Kd.C_drew ?_))); (case side4 => exact (Kd.R_reads' HO_5.out).2.1); rintro e w48 ⟨rfl, hb⟩; have n0_ := Aside0.mk (Kd.R_below (R_later HO_5.out) hb); have n1_ := Aside0.mk (Kd.R_below (R_later HO_8.out) hb); have n2_ := Aside0.mk (Kd.R_below (R_later HO_9.out) hb); have n3_ := Aside0.mk (Kd.R_below (R_later HO351.out) hb); have n4_ := Aside0.mk (below_step (below_later HB.out) hb); clear HO_5; clear HO_8; clear HO_9; clear HO351; clear HB; have HO_5 := n0_; have HO_8 := n1_; have HO_9 := n2_; have HO351 := n3_; have HB := n4_; clear n0_ n1_ n2_ n3_ n4_; (try clear hb); (try clear hb2); (try clear hk); (try clear hi)))
                  go_meet
                  case rel => exact ⟨_, (true), (by first | rfl | (simp; done) | (simp [*]; done)), H', ⟨by have := HJ7.out; first | omega | exact Nat.le_refl _⟩, ⟨by (with_reducible repeat (first | apply Kd.R_alloc | apply Kd.R_drewN | apply Kd.R_drew)); exact HO_5.out⟩, ⟨by (with_reducible repeat (first | apply Kd.R_alloc | apply Kd.R_drewN | apply Kd.R_drew)); exact HO_9.out⟩, ⟨below_later HB.out⟩⟩
            case rest =>
              clear HC32
              try clear c1
              try clear c2
              try clear p2
              try clear c3
              try clear c3b0
              try clear c3b1
              try clear c6
              try clear c16
              try clear c17
              try clear c17b0
              try clear c17b1
              try clear c18
              try clear c19
              try clear c24
              try clear c27
              try clear c28
              try clear c30
              try clear c36
              try clear c36b0
              try clear c38
              try clear c39
              try clear c39b0
              try clear c39b1
              try clear p2
              obtain ⟨kq, x77_31, rfl, HA, HJ31, HO_5, HO_9, HB⟩ := hcut
              cases kq with
              | zero => exact absurd HA.out (by simp [laws_FnExactFrontRead.j1])
              | succ kj31 =>
                have H := HA.out
                clear HA
                simp only [laws_FnExactFrontRead.j1] at H
                by_cases c49 : x77_31 = true
                · subst c49
                  have H1 : (some false) = some r := by rw [if_pos rfl] at H; exact H
                  clear H
                  have H := H1
                  clear H1
                  obtain rfl := Option.some.inj H
                  go_wp2
                  go_ret
                  exact ⟨by first | rfl | (simp [errW_none, errW_some] <;> rfl) | (simp [*, errW_none, errW_some] <;> rfl), below_later HB.out⟩
                · replace c49 := Bool.eq_false_iff.mpr c49
                  subst c49
                  have H1 : ((laws_markValS.f kj31 t343 1).bind fun bt356 => ((laws_heldValS.f kj31 bt356.2 1).bind fun t358 => (if t358 < 0 then (some false) else (if t358 = bt356.1 then ((laws_toByteS.f kj31 l0).bind fun t359 => ((impl_FrontRead.f kj31 t359 a1).bind fun bt362 => ((laws_eqValS.f kj31 bt362.1 t335).bind fun t367 => (if t367 = true then (if bt362.2.1 = t336 then (laws_FnExactFrontRead.j2 kj31 bt356.2 bt356.1 (bt362.2.2 != t337)) else (laws_FnExactFrontRead.j2 kj31 bt356.2 bt356.1 true)) else (laws_FnExactFrontRead.j2 kj31 bt356.2 bt356.1 true))))) else (some false))))) = some r := by rw [if_neg (show ¬ (false = true) by decide)] at H; exact H
                  clear H
                  have H := H1
                  clear H1
                  replace H := Option.bind_eq_some_iff.mp H
                  obtain ⟨⟨t356, t357⟩, A500, H⟩ := H
                  replace H : ((laws_heldValS.f kj31 t357 1).bind fun t358 => (if t358 < 0 then (some false) else (if t358 = t356 then ((laws_toByteS.f kj31 l0).bind fun t359 => ((impl_FrontRead.f kj31 t359 a1).bind fun bt362 => ((laws_eqValS.f kj31 bt362.1 t335).bind fun t367 => (if t367 = true then (if bt362.2.1 = t336 then (laws_FnExactFrontRead.j2 kj31 t357 t356 (bt362.2.2 != t337)) else (laws_FnExactFrontRead.j2 kj31 t357 t356 true)) else (laws_FnExactFrontRead.j2 kj31 t357 t356 true))))) else (some false)))) = some r := H
                  have A50 := Aside0.mk A500
                  clear A500
                  replace H := Option.bind_eq_some_iff.mp H
                  obtain ⟨t358, A510, H⟩ := H
                  replace H : (if t358 < 0 then (some false) else (if t358 = t356 then ((laws_toByteS.f kj31 l0).bind fun t359 => ((impl_FrontRead.f kj31 t359 a1).bind fun bt362 => ((laws_eqValS.f kj31 bt362.1 t335).bind fun t367 => (if t367 = true then (if bt362.2.1 = t336 then (laws_FnExactFrontRead.j2 kj31 t357 t356 (bt362.2.2 != t337)) else (laws_FnExactFrontRead.j2 kj31 t357 t356 true)) else (laws_FnExactFrontRead.j2 kj31 t357 t356 true))))) else (some false))) = some r := H
                  have A51 := Aside0.mk A510
                  clear A510
                  by_cases c52 : t358 < 0
                  · rw [if_pos c52] at H
                    have c52b0 : decide (t358 < 0) = true := decide_eq_true c52
                    clear c52
                    obtain rfl := Option.some.inj H
                    obtain ⟨Ao53, co53, eo53⟩ := Kd.R_slice HO_9.out
                    subst eo53
                    go_wp2_with (first | ((with_reducible refine gate_callee (f := 25) rfl ?_); refine goesL_ (some 80) rfl rfl Try.func25 (by kernel_rfl) rfl #[.slice Ao53 t343.length co53, .int .i64 1] rfl (by (try simp only [List.map_toArray, List.map_cons, List.map_nil]); first | done | rfl | (simp only [List.length_drop, List.length_take]; rfl)) ?_; (with_reducible refine (laws_markValS.calls kj31 (fun k_ => some k_ = (.slice Ao53 t343.length co53 : Value).ownBlock) (.slice Ao53 t343.length co53) t343 1 t356 t357 w _ ?side1 ?side2 A50.out).mono ?_); (case side1 => repeat (first | (with_reducible first | exact HB.out | apply below_alloc | apply pw_below_drewN | apply below_drew1) | exact HB.out)); (case side2 => exact Kd.R_tight rfl HO_9.out); rintro e w54 ⟨rfl, hy0, hb, hkp⟩; refine ⟨_, rfl, ?_⟩; have n0_ := Aside0.mk (Kd.R_mono (ok' := fun k_ => some k_ ≠ (.slice Ao53 t343.length co53 : Value).ownBlock) (Kd.R_keptB (HO_5.out) hkp (fun k_ hk_ hs_ => (hk_) hs_)) (fun k_ hk_ => hk_.1)); have n1_ := Aside0.mk (Kd.R_reok rfl hy0 (fun k_ e_ => HO_9.out.1 k_ e_)); have n2_ := Aside0.mk (hb); clear HO_5; clear HO_9; clear HB; have HO_5 := n0_; have HO_9 := n1_; have HB := n2_; clear n0_ n1_ n2_; (try clear hb); (try clear hkp); (try clear hy0)) | ((with_reducible refine gate_callee (f := 26) rfl ?_); refine goesL_ (some 83) rfl rfl Try.func26 (by kernel_rfl) rfl #[.slice Ao53 t357.length co53, .int .i64 1] rfl (by (try simp only [List.map_toArray, List.map_cons, List.map_nil]); first | done | (rw [show t357.length = t343.length from (Kd.R_reads' HO_9.out).1.symm] <;> rfl) | rfl | (simp only [List.length_drop, List.length_take]; rfl)) ?_; (with_reducible refine (laws_heldValS.calls kj31 _ _ t357 1 t358 _ ?side1 ?side2 A51.out).mono ?_); (case side1 => repeat (first | exact (Kd.R_reads' HO_9.out).2.2 | (with_reducible refine Kd.C_alloc ?_ _) | (with_reducible refine Kd.C_drewN ?_ _) | (with_reducible refine Kd.C_drew ?_))); (case side2 => rw [show t357.length = t343.length from (Kd.R_reads' HO_9.out).1.symm]; exact (Kd.R_reads' HO_9.out).2.1); rintro e w55 ⟨rfl, hb⟩; refine ⟨_, rfl, ?_⟩; have n0_ := Aside0.mk (Kd.R_below (R_later HO_5.out) hb); have n1_ := Aside0.mk (Kd.R_below (R_later HO_9.out) hb); have n2_ := Aside0.mk (below_step (below_later HB.out) hb); clear HO_5; clear HO_9; clear HB; have HO_5 := n0_; have HO_9 := n1_; have HB := n2_; clear n0_ n1_ n2_; (try clear hb); (try clear hb2); (try clear hk); (try clear hi)))
                    go_ret
                    exact ⟨by first | rfl | (simp [errW_none, errW_some] <;> rfl) | (simp [*, errW_none, errW_some] <;> rfl), below_later HB.out⟩
                  · rw [if_neg c52] at H
                    have c52b0 : decide (t358 < 0) = false := decide_eq_false c52
                    clear c52
                    by_cases c56 : t358 = t356
                    · rw [if_pos c56] at H
                      have c56b0 : (t358 == t356) = true := beq_iff_eq.mpr c56
                      have c56b1 : (t358 != t356) = false := bne_eq_false_iff_eq.mpr c56
                      clear c56
                      replace H := Option.bind_eq_some_iff.mp H
                      obtain ⟨t359, A570, H⟩ := H
                      replace H : ((impl_FrontRead.f kj31 t359 a1).bind fun bt362 => ((laws_eqValS.f kj31 bt362.1 t335).bind fun t367 => (if t367 = true then (if bt362.2.1 = t336 then (laws_FnExactFrontRead.j2 kj31 t357 t356 (bt362.2.2 != t337)) else (laws_FnExactFrontRead.j2 kj31 t357 t356 true)) else (laws_FnExactFrontRead.j2 kj31 t357 t356 true)))) = some r := H
                      have A57 := Aside0.mk A570
                      clear A570
                      replace H := Option.bind_eq_some_iff.mp H
                      obtain ⟨⟨t362, t363, t364⟩, A580, H⟩ := H
                      replace H : ((laws_eqValS.f kj31 t362 t335).bind fun t367 => (if t367 = true then (if t363 = t336 then (laws_FnExactFrontRead.j2 kj31 t357 t356 (t364 != t337)) else (laws_FnExactFrontRead.j2 kj31 t357 t356 true)) else (laws_FnExactFrontRead.j2 kj31 t357 t356 true))) = some r := H
                      have A58 := Aside0.mk A580
                      clear A580
                      have HC59 := Aside0.mk H
                      clear H
                      obtain ⟨Ao60, co60, eo60⟩ := Kd.R_slice HO_9.out
                      subst eo60
                      go_upto_region 23 with (first | ((with_reducible refine gate_callee (f := 25) rfl ?_); refine goesL_ (some 80) rfl rfl Try.func25 (by kernel_rfl) rfl #[.slice Ao60 t343.length co60, .int .i64 1] rfl (by (try simp only [List.map_toArray, List.map_cons, List.map_nil]); first | done | rfl | (simp only [List.length_drop, List.length_take]; rfl)) ?_; (with_reducible refine (laws_markValS.calls kj31 (fun k_ => some k_ = (.slice Ao60 t343.length co60 : Value).ownBlock) (.slice Ao60 t343.length co60) t343 1 t356 t357 w _ ?side1 ?side2 A50.out).mono ?_); (case side1 => repeat (first | (with_reducible first | exact HB.out | apply below_alloc | apply pw_below_drewN | apply below_drew1) | exact HB.out)); (case side2 => exact Kd.R_tight rfl HO_9.out); rintro e w61 ⟨rfl, hy0, hb, hkp⟩; refine ⟨_, rfl, ?_⟩; have n0_ := Aside0.mk (Kd.R_mono (ok' := fun k_ => some k_ ≠ (.slice Ao60 t343.length co60 : Value).ownBlock) (Kd.R_keptB (HO_5.out) hkp (fun k_ hk_ hs_ => (hk_) hs_)) (fun k_ hk_ => hk_.1)); have n1_ := Aside0.mk (Kd.R_reok rfl hy0 (fun k_ e_ => HO_9.out.1 k_ e_)); have n2_ := Aside0.mk (hb); clear HO_5; clear HO_9; clear HB; have HO_5 := n0_; have HO_9 := n1_; have HB := n2_; clear n0_ n1_ n2_; (try clear hb); (try clear hkp); (try clear hy0)) | ((with_reducible refine gate_callee (f := 26) rfl ?_); refine goesL_ (some 83) rfl rfl Try.func26 (by kernel_rfl) rfl #[.slice Ao60 t357.length co60, .int .i64 1] rfl (by (try simp only [List.map_toArray, List.map_cons, List.map_nil]); first | done | (rw [show t357.length = t343.length from (Kd.R_reads' HO_9.out).1.symm] <;> rfl) | rfl | (simp only [List.length_drop, List.length_take]; rfl)) ?_; (with_reducible refine (laws_heldValS.calls kj31 _ _ t357 1 t358 _ ?side1 ?side2 A51.out).mono ?_); (case side1 => repeat (first | exact (Kd.R_reads' HO_9.out).2.2 | (with_reducible refine Kd.C_alloc ?_ _) | (with_reducible refine Kd.C_drewN ?_ _) | (with_reducible refine Kd.C_drew ?_))); (case side2 => rw [show t357.length = t343.length from (Kd.R_reads' HO_9.out).1.symm]; exact (Kd.R_reads' HO_9.out).2.1); rintro e w62 ⟨rfl, hb⟩; refine ⟨_, rfl, ?_⟩; have n0_ := Aside0.mk (Kd.R_below (R_later HO_5.out) hb); have n1_ := Aside0.mk (Kd.R_below (R_later HO_9.out) hb); have n2_ := Aside0.mk (below_step (below_later HB.out) hb); clear HO_5; clear HO_9; clear HB; have HO_5 := n0_; have HO_9 := n1_; have HB := n2_; clear n0_ n1_ n2_; (try clear hb); (try clear hb2); (try clear hk); (try clear hi)) | ((with_reducible refine gate_callee (f := 16) rfl ?_); refine goesL_ (some 91) rfl rfl Try.func16 (by kernel_rfl) rfl #[.slice A0 l0.length c0] rfl (by (try simp only [List.map_toArray, List.map_cons, List.map_nil]); first | done | rfl | (simp only [List.length_drop, List.length_take]; rfl)) ?_; (with_reducible refine (laws_toByteS.calls kj31 _ _ l0 t359 _ ?side1 ?side2 A57.out).mono ?_); (case side1 => repeat (first | exact (Kd.C_below HR0.out HB.out) | (with_reducible refine Kd.C_alloc ?_ _) | (with_reducible refine Kd.C_drewN ?_ _) | (with_reducible refine Kd.C_drew ?_))); (case side2 => exact HC0.out); rintro e w63 ⟨v360, rfl, ho0, hb⟩; refine ⟨_, rfl, ?_⟩; have n0_ := Aside0.mk (Kd.R_below (R_later HO_5.out) hb); have n1_ := Aside0.mk (Kd.R_below (R_later HO_9.out) hb); have n2_ := Aside0.mk (Kd.R_lower ho0 (below_size (below_later HB.out))); have n3_ := Aside0.mk (below_step (below_later HB.out) hb); clear HO_5; clear HO_9; clear HB; have HO_5 := n0_; have HO_9 := n1_; have HO361 := n2_; have HB := n3_; clear n0_ n1_ n2_ n3_; (try clear hb); (try clear hb2); (try clear hk); (try clear hi); (try clear ho0); obtain ⟨Ao64, co64, eo64⟩ := Kd.R_slice HO361.out; subst eo64) | ((with_reducible refine gate_callee (f := 28) rfl ?_); refine goesL_ (some 93) rfl rfl Try.func28 (by kernel_rfl) rfl #[.slice Ao64 t359.length co64, .int .i64 a1] rfl (by (try simp only [List.map_toArray, List.map_cons, List.map_nil]); first | done | rfl | (simp only [List.length_drop, List.length_take]; rfl)) ?_; (with_reducible refine (impl_FrontRead.calls kj31 _ _ t359 a1 t362 t363 t364 _ ?side1 ?side2 A58.out).mono ?_); (case side1 => repeat (first | exact (Kd.R_reads' HO361.out).2.2 | (with_reducible refine Kd.C_alloc ?_ _) | (with_reducible refine Kd.C_drewN ?_ _) | (with_reducible refine Kd.C_drew ?_))); (case side2 => exact (Kd.R_reads' HO361.out).2.1); rintro e w65 ⟨v365, rfl, ho0, hb⟩; refine ⟨_, rfl, ?_⟩; have n0_ := Aside0.mk (Kd.R_elder' (R_later HO_5.out) (Kd.R_base ho0) hb); have n1_ := Aside0.mk (Kd.R_elder' (R_later HO_9.out) (Kd.R_base ho0) hb); have n2_ := Aside0.mk (Kd.R_below (R_later HO361.out) hb); have n3_ := Aside0.mk (Kd.R_lower (Kd.R_new' (Kd.R_new' ho0 (Kd.R_lt (R_later HO_5.out))) (Kd.R_lt (R_later HO_9.out))) (below_size (below_later HB.out))); have n4_ := Aside0.mk (below_step (below_later HB.out) hb); clear HO_5; clear HO_9; clear HO361; clear HB; have HO_5 := n0_; have HO_9 := n1_; have HO361 := n2_; have HO366 := n3_; have HB := n4_; clear n0_ n1_ n2_ n3_ n4_; (try clear hb); (try clear hb2); (try clear hk); (try clear hi); (try clear ho0)))
                      (try simp only [Act.put, List.setIfInBounds_toArray, List.set_cons_zero, List.set_cons_succ])
                      go_cut [110] (fun v110 wc => ∃ (kq : Nat) (x110_58 : Bool), v110 = .bool x110_58 ∧ Aside0 (laws_FnExactFrontRead.j2 kq t357 t356 x110_58 = some r) ∧ Aside0 (kq ≤ kj31) ∧ Aside0 (Kd.R k59 59 wc w.heap.size (fun _ => True) (.slice Ao60 t343.length co60) t357) ∧ Aside0 (Below w.heap.size w wc))
                      case first =>
                        have H := HC59.out
                        clear HC59
                        replace H := Option.bind_eq_some_iff.mp H
                        obtain ⟨t367, A660, H⟩ := H
                        replace H : (if t367 = true then (if t363 = t336 then (laws_FnExactFrontRead.j2 kj31 t357 t356 (t364 != t337)) else (laws_FnExactFrontRead.j2 kj31 t357 t356 true)) else (laws_FnExactFrontRead.j2 kj31 t357 t356 true)) = some r := H
                        have A66 := Aside0.mk A660
                        clear A660
                        by_cases c67 : t367 = true
                        · subst c67
                          have H1 : (if t363 = t336 then (laws_FnExactFrontRead.j2 kj31 t357 t356 (t364 != t337)) else (laws_FnExactFrontRead.j2 kj31 t357 t356 true)) = some r := by rw [if_pos rfl] at H; exact H
                          clear H
                          have H := H1
                          clear H1
                          by_cases c68 : t363 = t336
                          · rw [if_pos c68] at H
                            have c68b0 : (t363 == t336) = true := beq_iff_eq.mpr c68
                            have c68b1 : (t363 != t336) = false := bne_eq_false_iff_eq.mpr c68
                            clear c68
                            (first | rw [c68b0] | rw [c68b1] | (simp only [i64_w, i32_w]; rw [c68b0]) | skip)
                            have H' := Aside0.mk H
                            clear H
                            obtain ⟨Ao69, co69, eo69⟩ := Kd.R_slice HO366.out
                            subst eo69
                            obtain ⟨Ao70, co70, eo70⟩ := Kd.R_slice HO_5.out
                            subst eo70
                            go_wp2_with (first | ((with_reducible refine gate_callee (f := 24) rfl ?_); refine goesL_ (some 99) rfl rfl Try.func24 (by kernel_rfl) rfl #[.slice Ao69 t362.length co69, .slice Ao70 t335.length co70] rfl (by (try simp only [List.map_toArray, List.map_cons, List.map_nil]); first | done | rfl | (simp only [List.length_drop, List.length_take]; rfl)) ?_; (with_reducible refine (laws_eqValS.calls kj31 _ _ t362 _ _ t335 true _ ?side1 ?side2 ?side3 ?side4 A66.out).mono ?_); (case side1 => repeat (first | exact (Kd.R_reads' HO366.out).2.2 | (with_reducible refine Kd.C_alloc ?_ _) | (with_reducible refine Kd.C_drewN ?_ _) | (with_reducible refine Kd.C_drew ?_))); (case side2 => exact (Kd.R_reads' HO366.out).2.1); (case side3 => repeat (first | exact (Kd.R_reads' HO_5.out).2.2 | (with_reducible refine Kd.C_alloc ?_ _) | (with_reducible refine Kd.C_drewN ?_ _) | (with_reducible refine Kd.C_drew ?_))); (case side4 => exact (Kd.R_reads' HO_5.out).2.1); rintro e w71 ⟨rfl, hb⟩; refine ⟨_, rfl, ?_⟩; have n0_ := Aside0.mk (Kd.R_below (R_later HO_5.out) hb); have n1_ := Aside0.mk (Kd.R_below (R_later HO_9.out) hb); have n2_ := Aside0.mk (Kd.R_below (R_later HO361.out) hb); have n3_ := Aside0.mk (Kd.R_below (R_later HO366.out) hb); have n4_ := Aside0.mk (below_step (below_later HB.out) hb); clear HO_5; clear HO_9; clear HO361; clear HO366; clear HB; have HO_5 := n0_; have HO_9 := n1_; have HO361 := n2_; have HO366 := n3_; have HB := n4_; clear n0_ n1_ n2_ n3_ n4_; (try clear hb); (try clear hb2); (try clear hk); (try clear hi)))
                            go_meet
                            case rel => exact ⟨_, ((t364 != t337)), (by first | rfl | (simp; done) | (simp [*]; done)), H', ⟨by have := HJ7.out; have := HJ31.out; first | omega | exact Nat.le_refl _⟩, ⟨by (with_reducible repeat (first | apply Kd.R_alloc | apply Kd.R_drewN | apply Kd.R_drew)); exact Kd.R_mono HO_9.out (fun _ hk => trivial)⟩, ⟨below_later HB.out⟩⟩
                          · rw [if_neg c68] at H
                            have c68b0 : (t363 == t336) = false := beq_eq_false_iff_ne.mpr c68
                            have c68b1 : (t363 != t336) = true := bne_iff_ne.mpr c68
                            (first | rw [c68b0] | rw [c68b1] | (simp only [i64_w, i32_w]; rw [c68b0]) | skip)
                            have H' := Aside0.mk H
                            clear H
                            obtain ⟨Ao72, co72, eo72⟩ := Kd.R_slice HO366.out
                            subst eo72
                            obtain ⟨Ao73, co73, eo73⟩ := Kd.R_slice HO_5.out
                            subst eo73
                            go_wp2_with (first | ((with_reducible refine gate_callee (f := 24) rfl ?_); refine goesL_ (some 99) rfl rfl Try.func24 (by kernel_rfl) rfl #[.slice Ao72 t362.length co72, .slice Ao73 t335.length co73] rfl (by (try simp only [List.map_toArray, List.map_cons, List.map_nil]); first | done | rfl | (simp only [List.length_drop, List.length_take]; rfl)) ?_; (with_reducible refine (laws_eqValS.calls kj31 _ _ t362 _ _ t335 true _ ?side1 ?side2 ?side3 ?side4 A66.out).mono ?_); (case side1 => repeat (first | exact (Kd.R_reads' HO366.out).2.2 | (with_reducible refine Kd.C_alloc ?_ _) | (with_reducible refine Kd.C_drewN ?_ _) | (with_reducible refine Kd.C_drew ?_))); (case side2 => exact (Kd.R_reads' HO366.out).2.1); (case side3 => repeat (first | exact (Kd.R_reads' HO_5.out).2.2 | (with_reducible refine Kd.C_alloc ?_ _) | (with_reducible refine Kd.C_drewN ?_ _) | (with_reducible refine Kd.C_drew ?_))); (case side4 => exact (Kd.R_reads' HO_5.out).2.1); rintro e w74 ⟨rfl, hb⟩; refine ⟨_, rfl, ?_⟩; have n0_ := Aside0.mk (Kd.R_below (R_later HO_5.out) hb); have n1_ := Aside0.mk (Kd.R_below (R_later HO_9.out) hb); have n2_ := Aside0.mk (Kd.R_below (R_later HO361.out) hb); have n3_ := Aside0.mk (Kd.R_below (R_later HO366.out) hb); have n4_ := Aside0.mk (below_step (below_later HB.out) hb); clear HO_5; clear HO_9; clear HO361; clear HO366; clear HB; have HO_5 := n0_; have HO_9 := n1_; have HO361 := n2_; have HO366 := n3_; have HB := n4_; clear n0_ n1_ n2_ n3_ n4_; (try clear hb); (try clear hb2); (try clear hk); (try clear hi)))
                            go_meet
                            case rel => exact ⟨_, (true), (by first | rfl | (simp; done) | (simp [*]; done)), H', ⟨by have := HJ7.out; have := HJ31.out; first | omega | exact Nat.le_refl _⟩, ⟨by (with_reducible repeat (first | apply Kd.R_alloc | apply Kd.R_drewN | apply Kd.R_drew)); exact Kd.R_mono HO_9.out (fun _ hk => trivial)⟩, ⟨below_later HB.out⟩⟩
                        · replace c67 := Bool.eq_false_iff.mpr c67
                          subst c67
                          have H1 : (laws_FnExactFrontRead.j2 kj31 t357 t356 true) = some r := by rw [if_neg (show ¬ (false = true) by decide)] at H; exact H
                          clear H
                          have H := H1
                          clear H1
                          have H' := Aside0.mk H
                          clear H
                          obtain ⟨Ao75, co75, eo75⟩ := Kd.R_slice HO366.out
                          subst eo75
                          obtain ⟨Ao76, co76, eo76⟩ := Kd.R_slice HO_5.out
                          subst eo76
                          go_wp2_with (first | ((with_reducible refine gate_callee (f := 24) rfl ?_); refine goesL_ (some 99) rfl rfl Try.func24 (by kernel_rfl) rfl #[.slice Ao75 t362.length co75, .slice Ao76 t335.length co76] rfl (by (try simp only [List.map_toArray, List.map_cons, List.map_nil]); first | done | rfl | (simp only [List.length_drop, List.length_take]; rfl)) ?_; (with_reducible refine (laws_eqValS.calls kj31 _ _ t362 _ _ t335 false _ ?side1 ?side2 ?side3 ?side4 A66.out).mono ?_); (case side1 => repeat (first | exact (Kd.R_reads' HO366.out).2.2 | (with_reducible refine Kd.C_alloc ?_ _) | (with_reducible refine Kd.C_drewN ?_ _) | (with_reducible refine Kd.C_drew ?_))); (case side2 => exact (Kd.R_reads' HO366.out).2.1); (case side3 => repeat (first | exact (Kd.R_reads' HO_5.out).2.2 | (with_reducible refine Kd.C_alloc ?_ _) | (with_reducible refine Kd.C_drewN ?_ _) | (with_reducible refine Kd.C_drew ?_))); (case side4 => exact (Kd.R_reads' HO_5.out).2.1); rintro e w77 ⟨rfl, hb⟩; refine ⟨_, rfl, ?_⟩; have n0_ := Aside0.mk (Kd.R_below (R_later HO_5.out) hb); have n1_ := Aside0.mk (Kd.R_below (R_later HO_9.out) hb); have n2_ := Aside0.mk (Kd.R_below (R_later HO361.out) hb); have n3_ := Aside0.mk (Kd.R_below (R_later HO366.out) hb); have n4_ := Aside0.mk (below_step (below_later HB.out) hb); clear HO_5; clear HO_9; clear HO361; clear HO366; clear HB; have HO_5 := n0_; have HO_9 := n1_; have HO361 := n2_; have HO366 := n3_; have HB := n4_; clear n0_ n1_ n2_ n3_ n4_; (try clear hb); (try clear hb2); (try clear hk); (try clear hi)))
                          go_meet
                          case rel => exact ⟨_, (true), (by first | rfl | (simp; done) | (simp [*]; done)), H', ⟨by have := HJ7.out; have := HJ31.out; first | omega | exact Nat.le_refl _⟩, ⟨by (with_reducible repeat (first | apply Kd.R_alloc | apply Kd.R_drewN | apply Kd.R_drew)); exact Kd.R_mono HO_9.out (fun _ hk => trivial)⟩, ⟨below_later HB.out⟩⟩
                      case rest =>
                        clear HC59
                        try clear c1
                        try clear c2
                        try clear p2
                        try clear c3
                        try clear c3b0
                        try clear c3b1
                        try clear c4
                        try clear c5
                        try clear c6
                        try clear c16
                        try clear c17
                        try clear c17b0
                        try clear c17b1
                        try clear c18
                        try clear c19
                        try clear c24
                        try clear c25
                        try clear c26
                        try clear c27
                        try clear c28
                        try clear c30
                        try clear c36
                        try clear c36b0
                        try clear c38
                        try clear c39
                        try clear c39b0
                        try clear c39b1
                        try clear c49
                        try clear c52
                        try clear c52b0
                        try clear c56
                        try clear c56b0
                        try clear c56b1
                        try clear c67
                        try clear c68
                        try clear c68b0
                        try clear c68b1
                        try clear p2
                        obtain ⟨kq, x110_58, rfl, HA, HJ58, HO_9, HB⟩ := hcut
                        have hl9_58 := (Kd.R_reads' HO_9.out).1
                        rw [hl9_58] at HO_9
                        (try simp only [hl9_58])
                        cases kq with
                        | zero => exact absurd HA.out (by simp [laws_FnExactFrontRead.j2])
                        | succ kj58 =>
                          have H := HA.out
                          clear HA
                          simp only [laws_FnExactFrontRead.j2] at H
                          by_cases c78 : x110_58 = true
                          · subst c78
                            have H1 : (some false) = some r := by rw [if_pos rfl] at H; exact H
                            clear H
                            have H := H1
                            clear H1
                            obtain rfl := Option.some.inj H
                            go_wp2
                            go_ret
                            exact ⟨by first | rfl | (simp [errW_none, errW_some] <;> rfl) | (simp [*, errW_none, errW_some] <;> rfl), below_later HB.out⟩
                          · replace c78 := Bool.eq_false_iff.mpr c78
                            subst c78
                            have H1 : ((laws_heldValS.f kj58 t357 1).bind fun t368 => (if t368 < 0 then (some false) else (if t368 = t356 then (some true) else (some false)))) = some r := by rw [if_neg (show ¬ (false = true) by decide)] at H; exact H
                            clear H
                            have H := H1
                            clear H1
                            replace H := Option.bind_eq_some_iff.mp H
                            obtain ⟨t368, A790, H⟩ := H
                            replace H : (if t368 < 0 then (some false) else (if t368 = t356 then (some true) else (some false))) = some r := H
                            have A79 := Aside0.mk A790
                            clear A790
                            by_cases c80 : t368 < 0
                            · rw [if_pos c80] at H
                              have c80b0 : decide (t368 < 0) = true := decide_eq_true c80
                              clear c80
                              obtain rfl := Option.some.inj H
                              go_wp2_with (first | ((with_reducible refine gate_callee (f := 26) rfl ?_); refine goesL_ (some 113) rfl rfl Try.func26 (by kernel_rfl) rfl #[.slice Ao60 t357.length co60, .int .i64 1] rfl (by (try simp only [List.map_toArray, List.map_cons, List.map_nil]); first | done | rfl | (simp only [List.length_drop, List.length_take]; rfl)) ?_; (with_reducible refine (laws_heldValS.calls kj58 _ _ t357 1 t368 _ ?side1 ?side2 A79.out).mono ?_); (case side1 => repeat (first | exact (Kd.R_reads' HO_9.out).2.2 | (with_reducible refine Kd.C_alloc ?_ _) | (with_reducible refine Kd.C_drewN ?_ _) | (with_reducible refine Kd.C_drew ?_))); (case side2 => exact (Kd.R_reads' HO_9.out).2.1); rintro e w81 ⟨rfl, hb⟩; refine ⟨_, rfl, ?_⟩; have n0_ := Aside0.mk (Kd.R_below (R_later HO_9.out) hb); have n1_ := Aside0.mk (below_step (below_later HB.out) hb); clear HO_9; clear HB; have HO_9 := n0_; have HB := n1_; clear n0_ n1_; (try clear hb); (try clear hb2); (try clear hk); (try clear hi)))
                              go_ret
                              exact ⟨by first | rfl | (simp [errW_none, errW_some] <;> rfl) | (simp [*, errW_none, errW_some] <;> rfl), below_later HB.out⟩
                            · rw [if_neg c80] at H
                              have c80b0 : decide (t368 < 0) = false := decide_eq_false c80
                              clear c80
                              by_cases c82 : t368 = t356
                              · rw [if_pos c82] at H
                                have c82b0 : (t368 == t356) = true := beq_iff_eq.mpr c82
                                have c82b1 : (t368 != t356) = false := bne_eq_false_iff_eq.mpr c82
                                clear c82
                                obtain rfl := Option.some.inj H
                                go_wp2_with (first | ((with_reducible refine gate_callee (f := 26) rfl ?_); refine goesL_ (some 113) rfl rfl Try.func26 (by kernel_rfl) rfl #[.slice Ao60 t357.length co60, .int .i64 1] rfl (by (try simp only [List.map_toArray, List.map_cons, List.map_nil]); first | done | rfl | (simp only [List.length_drop, List.length_take]; rfl)) ?_; (with_reducible refine (laws_heldValS.calls kj58 _ _ t357 1 t368 _ ?side1 ?side2 A79.out).mono ?_); (case side1 => repeat (first | exact (Kd.R_reads' HO_9.out).2.2 | (with_reducible refine Kd.C_alloc ?_ _) | (with_reducible refine Kd.C_drewN ?_ _) | (with_reducible refine Kd.C_drew ?_))); (case side2 => exact (Kd.R_reads' HO_9.out).2.1); rintro e w83 ⟨rfl, hb⟩; refine ⟨_, rfl, ?_⟩; have n0_ := Aside0.mk (Kd.R_below (R_later HO_9.out) hb); have n1_ := Aside0.mk (below_step (below_later HB.out) hb); clear HO_9; clear HB; have HO_9 := n0_; have HB := n1_; clear n0_ n1_; (try clear hb); (try clear hb2); (try clear hk); (try clear hi)))
                                go_ret
                                exact ⟨by first | rfl | (simp [errW_none, errW_some] <;> rfl) | (simp [*, errW_none, errW_some] <;> rfl), below_later HB.out⟩
                              · rw [if_neg c82] at H
                                have c82b0 : (t368 == t356) = false := beq_eq_false_iff_ne.mpr c82
                                have c82b1 : (t368 != t356) = true := bne_iff_ne.mpr c82
                                obtain rfl := Option.some.inj H
                                go_wp2_with (first | ((with_reducible refine gate_callee (f := 26) rfl ?_); refine goesL_ (some 113) rfl rfl Try.func26 (by kernel_rfl) rfl #[.slice Ao60 t357.length co60, .int .i64 1] rfl (by (try simp only [List.map_toArray, List.map_cons, List.map_nil]); first | done | rfl | (simp only [List.length_drop, List.length_take]; rfl)) ?_; (with_reducible refine (laws_heldValS.calls kj58 _ _ t357 1 t368 _ ?side1 ?side2 A79.out).mono ?_); (case side1 => repeat (first | exact (Kd.R_reads' HO_9.out).2.2 | (with_reducible refine Kd.C_alloc ?_ _) | (with_reducible refine Kd.C_drewN ?_ _) | (with_reducible refine Kd.C_drew ?_))); (case side2 => exact (Kd.R_reads' HO_9.out).2.1); rintro e w84 ⟨rfl, hb⟩; refine ⟨_, rfl, ?_⟩; have n0_ := Aside0.mk (Kd.R_below (R_later HO_9.out) hb); have n1_ := Aside0.mk (below_step (below_later HB.out) hb); clear HO_9; clear HB; have HO_9 := n0_; have HB := n1_; clear n0_ n1_; (try clear hb); (try clear hb2); (try clear hk); (try clear hi)))
                                go_ret
                                exact ⟨by first | rfl | (simp [errW_none, errW_some] <;> rfl) | (simp [*, errW_none, errW_some] <;> rfl), below_later HB.out⟩
                    · rw [if_neg c56] at H
                      have c56b0 : (t358 == t356) = false := beq_eq_false_iff_ne.mpr c56
                      have c56b1 : (t358 != t356) = true := bne_iff_ne.mpr c56
                      obtain rfl := Option.some.inj H
                      obtain ⟨Ao85, co85, eo85⟩ := Kd.R_slice HO_9.out
                      subst eo85
                      go_wp2_with (first | ((with_reducible refine gate_callee (f := 25) rfl ?_); refine goesL_ (some 80) rfl rfl Try.func25 (by kernel_rfl) rfl #[.slice Ao85 t343.length co85, .int .i64 1] rfl (by (try simp only [List.map_toArray, List.map_cons, List.map_nil]); first | done | rfl | (simp only [List.length_drop, List.length_take]; rfl)) ?_; (with_reducible refine (laws_markValS.calls kj31 (fun k_ => some k_ = (.slice Ao85 t343.length co85 : Value).ownBlock) (.slice Ao85 t343.length co85) t343 1 t356 t357 w _ ?side1 ?side2 A50.out).mono ?_); (case side1 => repeat (first | (with_reducible first | exact HB.out | apply below_alloc | apply pw_below_drewN | apply below_drew1) | exact HB.out)); (case side2 => exact Kd.R_tight rfl HO_9.out); rintro e w86 ⟨rfl, hy0, hb, hkp⟩; refine ⟨_, rfl, ?_⟩; have n0_ := Aside0.mk (Kd.R_mono (ok' := fun k_ => some k_ ≠ (.slice Ao85 t343.length co85 : Value).ownBlock) (Kd.R_keptB (HO_5.out) hkp (fun k_ hk_ hs_ => (hk_) hs_)) (fun k_ hk_ => hk_.1)); have n1_ := Aside0.mk (Kd.R_reok rfl hy0 (fun k_ e_ => HO_9.out.1 k_ e_)); have n2_ := Aside0.mk (hb); clear HO_5; clear HO_9; clear HB; have HO_5 := n0_; have HO_9 := n1_; have HB := n2_; clear n0_ n1_ n2_; (try clear hb); (try clear hkp); (try clear hy0)) | ((with_reducible refine gate_callee (f := 26) rfl ?_); refine goesL_ (some 83) rfl rfl Try.func26 (by kernel_rfl) rfl #[.slice Ao85 t357.length co85, .int .i64 1] rfl (by (try simp only [List.map_toArray, List.map_cons, List.map_nil]); first | done | (rw [show t357.length = t343.length from (Kd.R_reads' HO_9.out).1.symm] <;> rfl) | rfl | (simp only [List.length_drop, List.length_take]; rfl)) ?_; (with_reducible refine (laws_heldValS.calls kj31 _ _ t357 1 t358 _ ?side1 ?side2 A51.out).mono ?_); (case side1 => repeat (first | exact (Kd.R_reads' HO_9.out).2.2 | (with_reducible refine Kd.C_alloc ?_ _) | (with_reducible refine Kd.C_drewN ?_ _) | (with_reducible refine Kd.C_drew ?_))); (case side2 => rw [show t357.length = t343.length from (Kd.R_reads' HO_9.out).1.symm]; exact (Kd.R_reads' HO_9.out).2.1); rintro e w87 ⟨rfl, hb⟩; refine ⟨_, rfl, ?_⟩; have n0_ := Aside0.mk (Kd.R_below (R_later HO_5.out) hb); have n1_ := Aside0.mk (Kd.R_below (R_later HO_9.out) hb); have n2_ := Aside0.mk (below_step (below_later HB.out) hb); clear HO_5; clear HO_9; clear HB; have HO_5 := n0_; have HO_9 := n1_; have HB := n2_; clear n0_ n1_ n2_; (try clear hb); (try clear hb2); (try clear hk); (try clear hi)))
                      go_ret
                      exact ⟨by first | rfl | (simp [errW_none, errW_some] <;> rfl) | (simp [*, errW_none, errW_some] <;> rfl), below_later HB.out⟩
          · replace c30 := Bool.eq_false_iff.mpr c30
            subst c30
            have H1 : (some false) = some r := by rw [if_neg (show ¬ (false = true) by decide)] at H; exact H
            clear H
            have H := H1
            clear H1
            obtain rfl := Option.some.inj H
            go_wp2_with (first | ((with_reducible refine gate_callee (f := 16) rfl ?_); refine goesL_ (some 54) rfl rfl Try.func16 (by kernel_rfl) rfl #[.slice A0 l0.length c0] rfl (by (try simp only [List.map_toArray, List.map_cons, List.map_nil]); first | done | rfl | (simp only [List.length_drop, List.length_take]; rfl)) ?_; (with_reducible refine (laws_toByteS.calls kj7 _ _ l0 t349 _ ?side1 ?side2 A28.out).mono ?_); (case side1 => repeat (first | exact (Kd.C_below HR0.out HB.out) | (with_reducible refine Kd.C_alloc ?_ _) | (with_reducible refine Kd.C_drewN ?_ _) | (with_reducible refine Kd.C_drew ?_))); (case side2 => exact HC0.out); rintro e w88 ⟨v350, rfl, ho0, hb⟩; refine ⟨_, rfl, ?_⟩; have n0_ := Aside0.mk (Kd.R_below (R_later HO_5.out) hb); have n1_ := Aside0.mk (Kd.R_elder' (R_later HO_8.out) (Kd.R_base ho0) hb); have n2_ := Aside0.mk (Kd.R_below (R_later HO_9.out) hb); have n3_ := Aside0.mk (Kd.R_lower (Kd.R_new' ho0 (Kd.R_lt (R_later HO_8.out))) (below_size (below_later HB.out))); have n4_ := Aside0.mk (below_step (below_later HB.out) hb); clear HO_5; clear HO_8; clear HO_9; clear HB; have HO_5 := n0_; have HO_8 := n1_; have HO_9 := n2_; have HO351 := n3_; have HB := n4_; clear n0_ n1_ n2_ n3_ n4_; (try clear hb); (try clear hb2); (try clear hk); (try clear hi); (try clear ho0); obtain ⟨Ao89, co89, eo89⟩ := Kd.R_slice HO351.out; subst eo89) | ((with_reducible refine gate_callee (f := 18) rfl ?_); refine goesL_ (some 55) rfl rfl Try.func18 (by kernel_rfl) rfl #[.slice Ao13 t340.length co13, .slice Ao89 t349.length co89] rfl (by (try simp only [List.map_toArray, List.map_cons, List.map_nil]); first | done | rfl | (simp only [List.length_drop, List.length_take]; rfl)) ?_; (with_reducible refine (laws_eqByteS.calls kj7 _ _ t340 _ _ t349 false _ ?side1 ?side2 ?side3 ?side4 A29.out).mono ?_); (case side1 => repeat (first | exact (Kd.R_reads' HO_8.out).2.2 | (with_reducible refine Kd.C_alloc ?_ _) | (with_reducible refine Kd.C_drewN ?_ _) | (with_reducible refine Kd.C_drew ?_))); (case side2 => exact (Kd.R_reads' HO_8.out).2.1); (case side3 => repeat (first | exact (Kd.R_reads' HO351.out).2.2 | (with_reducible refine Kd.C_alloc ?_ _) | (with_reducible refine Kd.C_drewN ?_ _) | (with_reducible refine Kd.C_drew ?_))); (case side4 => exact (Kd.R_reads' HO351.out).2.1); rintro e w' ⟨rfl, ⟨nd, rfl⟩⟩; refine ⟨_, rfl, ?_⟩))
            go_ret
            exact ⟨by first | rfl | (simp [errW_none, errW_some] <;> rfl) | (simp [*, errW_none, errW_some] <;> rfl), below_later HB.out⟩

/-- THE ONE PURE STATEMENT of laws_FnExactFrontRead: yours. -/
def laws_FnExactFrontRead.Pure : Prop := ∀ (l0 : List Int) (a1 : Int), l0.length ≤ maxLen → l0.length * 1 ≤ 140737488351232 → (∀ x ∈ l0, (Lit.int .u8 x).wf = true) → (Lit.int .i64 a1).wf = true → ∃ k, laws_FnExactFrontRead.f k l0 a1 = some true
theorem laws_FnExactFrontRead.walk (P : laws_FnExactFrontRead.Pure) (a0 : Option Addr) (len0 cap0 : Nat) (z0 : List Int) (a1 : Int) (w : World) (w0 : (a0 = none ∧ len0 = 0 ∧ cap0 = 0 ∧ z0 = []) ∨ ∃ x, a0 = some x ∧ len0 ≤ cap0 ∧ cap0 ≤ maxLen ∧ z0.length = cap0 ∧ (∀ i, i < z0.length → w.cell? (x.add i) = some (.int .u8 (z0.getD i 0))) ∧ ∀ n ∈ z0, (Lit.int .u8 n).wf = true) (y0 : len0 * 1 ≤ 140737488351232) (w1 : (Lit.int .i64 a1).wf = true) :
    Calls Try.prog 6 #[.slice a0 len0 cap0, .int .i64 a1] w fun e w' => e = .returned (.bool true) ∧ Below w.heap.size w w' := by
  obtain ⟨l0, rfl, hr0, hm0, hw0, hc0⟩ := ReadsInt.ofRowC w0
  obtain ⟨k, h⟩ := P l0 a1 hm0 y0 hw0 w1
  refine (laws_FnExactFrontRead.calls k _ _ l0 a1 true w (Kd.C_of_reads (d := (0 : Int)) (h1 := fun _ => rfl) hr0) hc0 h).mono ?_
  rintro e w' ⟨rfl, hd⟩
  exact ⟨rfl, hd⟩

end Go.Proofs.Ytgcanbeckamjeaa.PFnExactFrontRead
